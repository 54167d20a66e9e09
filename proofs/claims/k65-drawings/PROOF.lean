import PyProof.Rows.All
import Wide.All
import OpenK.AllK
import Wide.FinOn
import HandS.ForMost
import HandS.ForExc
import HandS.Evl
import HandS.Lambda
import HandS.ExcValue
import HandS.HeadHook4
import PyProof.ReprRoads
import HandS.Deep
import KE.DataFind
import HandS.SetFor
import HandS.Style
import HandS.EndOwn
import HandS.WordsExc
import KE.KExcSuper
import HandS.Wide
import HandS.WideBits
import HandS.IsInst
import KE.KExcIs
import HandS.EndTab
import PySem.Challenge.RW_addsup_k65_drawings_of_grids
import HandS.Head0
import HandS.Head1
import HandS.Head2
import HandS.HeadEnd
import HandS.Codes
import HandS.ReplaceLit
import HandS.Gcd
set_option Elab.async false
set_option linter.all false
set_option maxRecDepth 100000
set_option maxHeartbeats 0
/-! D1: plain data, how a heap bears it, slots, outcomes. -/
namespace DL
open PySem L2 PyProof.Rows

/-- plain data -/
abbrev D := PyData

/-- the tables of code objects that lambdas of this claim use: the def that holds the lambda, the lambda's name -/
def lamDefs : List (He.Defn × Str) := [(("_law_grid_right", none), "_law_grid_right.<locals>.<lambda>"), (("_law_refused_right", none), "_law_refused_right.<locals>.<lambda>")]
def TbK (K : PySem.W.Frag) : List (Addr × Str) := lamDefs.map fun p => ((He.cT K p.1).2, p.2)
/-- an exception object that is held -/
def XO (c dx a : Addr) : HO := .ext fun h => ∃ (oe : Obj) (vs : Array Value), h.get? a = some oe ∧ Zc (.ref c) (some dx) oe ∧ oe.data = .fields vs
/-- signs for what is no plain data: an exception, a function -/
def excD (c : Addr) (d : D) : D := .dict [(.int c, d)]
def fnD (a : Addr) : D := .dict [(.str ("fn" : Str), .int a)]

mutual
inductive Rp (K : PySem.W.Frag) (H : Hp) : V → D → Prop
  | non : Rp K H .non .none
  | bl (b : Bool) : Rp K H (.bl b) (.bool b)
  | int (i : Int) : Rp K H (.int i) (.int i)
  | str (x : Str) : Rp K H (.str x) (.str x)
  | lst {a : Addr} {xs : List V} {ds : List D} : H a = some (.lst xs) → Rps K H xs ds → Rp K H (.ref a) (.list ds)
  | tup {a : Addr} {xs : List V} {ds : List D} : H a = some (.tup xs) → Rps K H xs ds → Rp K H (.ref a) (.tuple ds)
  | emp {a : Addr} : H a = some (.dK []) → Rp K H (.ref a) (.dict [])
  | exc {a c dx : Addr} {v : V} {d : D} : H a = some (XO c dx a) → H dx = some (.xd [(("value" : Str), v)]) → Rp K H v d → Rp K H (.ref a) (.dict [(.int c, d)])
  | fn {a : Addr} : Rp K H (.ref a) (.dict [(.str ("fn" : Str), .int a)])
inductive Rps (K : PySem.W.Frag) (H : Hp) : List V → List D → Prop
  | nil : Rps K H [] []
  | cons {v : V} {vs : List V} {d : D} {ds : List D} : Rp K H v d → Rps K H vs ds → Rps K H (v :: vs) (d :: ds)
end

section
variable {K : PySem.W.Frag} {H H' : Hp}
/-- what is tracked stays -/
def Ext (H H' : Hp) : Prop := ∀ a o, H a = some o → H' a = some o
theorem Ext.rfl (H : Hp) : Ext H H := fun _ _ h => h
theorem Ext.trans {H H1 H2 : Hp} (a : Ext H H1) (b : Ext H1 H2) : Ext H H2 := fun x o h => b x o (a x o h)
theorem ext_sqL {a : Addr} {xs : List V} (e : Ext H H') (h : SqL K H a xs) : SqL K H' a xs := Same.seq e h
theorem ext_sqT {a : Addr} {xs : List V} (e : Ext H H') (h : SqT K H a xs) : SqT K H' a xs := by
  rcases h with (h | ⟨o, h⟩) | h
  · exact .inl (.inl (e _ _ h))
  · exact .inl (.inr ⟨o, e _ _ h⟩)
  · exact .inr h
mutual
theorem Rp.ext (e : Ext H H') : ∀ {v : V} {d : D}, Rp K H v d → Rp K H' v d
  | _, _, .non => .non
  | _, _, .bl b => .bl b
  | _, _, .int i => .int i
  | _, _, .str x => .str x
  | _, _, .lst h r => .lst (e _ _ h) (Rps.ext e r)
  | _, _, .tup h r => .tup (e _ _ h) (Rps.ext e r)
  | _, _, .emp h => .emp (e _ _ h)
  | _, _, .exc h1 h2 r => .exc (e _ _ h1) (e _ _ h2) (Rp.ext e r)
  | _, _, .fn => .fn
theorem Rps.ext (e : Ext H H') : ∀ {vs : List V} {ds : List D}, Rps K H vs ds → Rps K H' vs ds
  | _, _, .nil => .nil
  | _, _, .cons h r => .cons (Rp.ext e h) (Rps.ext e r)
end
theorem Rps.length : ∀ {vs : List V} {ds : List D}, Rps K H vs ds → vs.length = ds.length
  | _, _, .nil => rfl
  | _, _, .cons _ r => by simp [Rps.length r]
theorem Rps.get : ∀ {vs : List V} {ds : List D} {i : Nat} {d : D}, Rps K H vs ds → ds[i]? = some d → ∃ v, vs[i]? = some v ∧ Rp K H v d
  | _, _, _, _, .nil, e => by simp at e
  | _, _, 0, _, .cons h _, e => by
    simp at e; subst e; exact ⟨_, rfl, h⟩
  | _, _, i + 1, d, .cons _ r, e => by
    obtain ⟨v, h1, h2⟩ := Rps.get (i := i) r (by simpa using e)
    exact ⟨v, by simpa using h1, h2⟩
theorem Rps.getV : ∀ {vs : List V} {ds : List D} {i : Nat} {v : V}, Rps K H vs ds → vs[i]? = some v → ∃ d, ds[i]? = some d ∧ Rp K H v d
  | _, _, _, _, .nil, e => by simp at e
  | _, _, 0, _, .cons h _, e => by
    simp at e; subst e; exact ⟨_, rfl, h⟩
  | _, _, i + 1, d, .cons _ r, e => by
    obtain ⟨v, h1, h2⟩ := Rps.getV (i := i) r (by simpa using e)
    exact ⟨v, by simpa using h1, h2⟩
theorem Rps.app : ∀ {vs ws : List V} {ds es : List D}, Rps K H vs ds → Rps K H ws es → Rps K H (vs ++ ws) (ds ++ es)
  | _, _, _, _, .nil, s => s
  | _, _, _, _, .cons h r, s => .cons h (Rps.app r s)
theorem Rps.one {v : V} {d : D} (h : Rp K H v d) : Rps K H [v] [d] := .cons h .nil
theorem Rps.take : ∀ {vs : List V} {ds : List D} (n : Nat), Rps K H vs ds → Rps K H (vs.take n) (ds.take n)
  | _, _, 0, _ => .nil
  | _, _, _ + 1, .nil => .nil
  | _, _, n + 1, .cons h r => .cons h (Rps.take n r)
theorem Rps.drop : ∀ {vs : List V} {ds : List D} (n : Nat), Rps K H vs ds → Rps K H (vs.drop n) (ds.drop n)
  | _, _, 0, r => r
  | _, _, _ + 1, .nil => .nil
  | _, _, n + 1, .cons _ r => Rps.drop n r
theorem Rps.rev : ∀ {vs : List V} {ds : List D}, Rps K H vs ds → Rps K H vs.reverse ds.reverse
  | _, _, .nil => .nil
  | _, _, .cons h r => by
    rw [List.reverse_cons, List.reverse_cons]
    exact (Rps.rev r).app (.one h)
theorem Rps.set {v : V} {d : D} (h : Rp K H v d) : ∀ {vs : List V} {ds : List D} (i : Nat), Rps K H vs ds → Rps K H (vs.set i v) (ds.set i d)
  | _, _, _, .nil => .nil
  | _, _, 0, .cons _ r => .cons h r
  | _, _, i + 1, .cons q r => .cons q (Rps.set h i r)

def NT (o : HO) : Prop := ∀ ps, o ≠ .tbl ps
def unt : Option HO → Option HO
  | some (.tbl _) => none
  | o => o
theorem unt_of {x : Option HO} {o : HO} (h : unt x = some o) : x = some o ∧ NT o := by
  cases x with
  | none => cases h
  | some u => cases u <;> first | (cases h; done) | (cases h; exact ⟨rfl, fun _ z => nomatch z⟩)
theorem unt_in {o : HO} (n : NT o) : unt (some o) = some o := by
  cases o <;> first | rfl | exact absurd rfl (n _)
/-- the heap without the addresses of A and without tables -/
def hid (A : List Addr) (H : Hp) : Hp := fun a => if a ∈ A then none else unt (H a)
theorem hid_of {A : List Addr} {a : Addr} {o : HO} (h : hid A H a = some o) : a ∉ A ∧ H a = some o := by
  unfold hid at h
  by_cases e : a ∈ A
  · rw [if_pos e] at h; cases h
  · rw [if_neg e] at h; exact ⟨e, (unt_of h).1⟩
theorem hid_nt {A : List Addr} {a : Addr} {o : HO} (h : hid A H a = some o) : NT o := by
  unfold hid at h
  by_cases e : a ∈ A
  · rw [if_pos e] at h; cases h
  · rw [if_neg e] at h; exact (unt_of h).2
theorem hid_in {A : List Addr} {a : Addr} {o : HO} (e : a ∉ A) (h : H a = some o) (n : NT o := by intro _ z; cases z) : hid A H a = some o := by
  unfold hid; rw [if_neg e, h]; exact unt_in n
theorem hid_ext {A : List Addr} : Ext (hid A H) H := fun _ _ h => (hid_of h).2
theorem hid_less {A B : List Addr} (h : ∀ a ∈ A, a ∈ B) : Ext (hid B H) (hid A H) := fun a _ q => by
  obtain ⟨n, e⟩ := hid_of q
  exact hid_in (fun z => n (h a z)) e (hid_nt q)
theorem Ext.back (e : Ext H H') {a : Addr} (h : H' a = none) : H a = none := by
  cases q : H a with
  | none => rfl
  | some o => rw [e a o q] at h; cases h
/-- what is tracked stays, tables grow -/
structure Gr (K : PySem.W.Frag) (H H' : Hp) : Prop where
  kp : ∀ a o, H a = some o → NT o → H' a = some o
  al : ∀ a, H' a = none → H a = none
  tb : LamX.Tabs (TbK K) H → LamX.Tabs (TbK K) H'
theorem Ext.gr {K : PySem.W.Frag} (e : Ext H H') : Gr K H H' := ⟨fun a o h _ => e a o h, fun _ h => e.back h, fun t => t.ext e⟩
theorem Gr.hid (g : Gr K H H') {A : List Addr} : Ext (hid A H) (hid A H') := fun a o q => by
  obtain ⟨n, e⟩ := hid_of q
  exact hid_in n (g.kp a o e (hid_nt q)) (hid_nt q)
theorem Gr.trans {K : PySem.W.Frag} {H H1 H2 : Hp} (a : Gr K H H1) (b : Gr K H1 H2) : Gr K H H2 := ⟨fun x o h n => b.kp x o (a.kp x o h n) n, fun x h => a.al x (b.al x h), fun t => b.tb (a.tb t)⟩

theorem tab_upd {b : Addr} {q : Str} {p : Addr} {o : HO} (n1 : ∀ ps, H p ≠ some (.tbl ps)) (n2 : ∀ φ, H p ≠ some (.ext φ)) (t : LamX.TabS H b q) : LamX.TabS (upd H p o) b q := by
  obtain ⟨ps, h1, h2, h3⟩ := t
  refine ⟨ps, by rw [upd_ne (fun z => n1 ps (by rw [← z]; exact h1))]; exact h1, h2, fun pos cv hc => ?_⟩
  obtain ⟨c, e1, e2⟩ := h3 pos cv hc
  exact ⟨c, e1, by rw [upd_ne (fun z => n2 _ (by rw [← z]; exact e2))]; exact e2⟩
theorem tab_lst {b : Addr} {q : Str} {p : Addr} {o : HO} {xs : List V} (h : H p = some (.lst xs)) (t : LamX.TabS H b q) : LamX.TabS (upd H p o) b q :=
  tab_upd (fun ps e => by rw [h] at e; cases e) (fun ps e => by rw [h] at e; cases e) t
theorem tab_none {b : Addr} {q : Str} {p : Addr} {o : HO} (h : H p = none) (t : LamX.TabS H b q) : LamX.TabS (upd H p o) b q :=
  tab_upd (fun ps e => by rw [h] at e; cases e) (fun ps e => by rw [h] at e; cases e) t

/-- one step: what P does not own stays; new owned ones were new -/
structure Stp K (H : Hp) (P : List Addr) (H' : Hp) (P' : List Addr) : Prop where
  kp : ∀ a o, a ∉ P → H a = some o → NT o → H' a = some o
  nw : ∀ p ∈ P', p ∈ P ∨ H p = none
  al : ∀ a, H' a = none → H a = none
  tb : LamX.Tabs (TbK K) H → LamX.Tabs (TbK K) H'
theorem Stp.rfl {K : PySem.W.Frag} (H : Hp) (P : List Addr) : Stp K H P H P := ⟨fun _ _ _ h _ => h, fun _ h => .inl h, fun _ h => h, fun h => h⟩
theorem Stp.trans {K : PySem.W.Frag} {H H1 H2 : Hp} {P P1 P2 : List Addr} (a : Stp K H P H1 P1) (b : Stp K H1 P1 H2 P2) : Stp K H P H2 P2 := by
  refine ⟨fun c o n h t => b.kp c o (fun z => ?_) (a.kp c o n h t) t, fun p hp => ?_, fun c h => a.al c (b.al c h), fun t => b.tb (a.tb t)⟩
  · rcases a.nw c z with q | q
    · exact n q
    · rw [q] at h; cases h
  · by_cases hP : p ∈ P
    · exact .inl hP
    · refine .inr ?_
      cases q : H p with
      | none => rfl
      | some o =>
        rcases b.nw p hp with z | z
        · rcases a.nw p z with z | z
          · exact absurd z hP
          · rw [z] at q; cases q
        · rw [a.al p z] at q; cases q
theorem Stp.gr {P : List Addr} (e : Gr K H H') : Stp K H P H' P := ⟨fun a o _ h n => e.kp a o h n, fun _ h => .inl h, e.al, e.tb⟩
theorem Stp.ext {P : List Addr} (e : Ext H H') : Stp K H P H' P := .gr e.gr
theorem Stp.toGr {P' : List Addr} (t : Stp K H [] H' P') : Gr K H H' := ⟨fun a o h n => t.kp a o (by simp) h n, t.al, t.tb⟩
theorem Stp.hid {A0 P P' : List Addr} (t : Stp K H P H' P') : Ext (hid (P ++ A0) H) (hid (P' ++ A0) H') := fun a o q => by
  obtain ⟨n, e⟩ := hid_of q
  rw [List.mem_append, not_or] at n
  refine hid_in (fun z => ?_) (t.kp a o n.1 e (hid_nt q)) (hid_nt q)
  rcases List.mem_append.mp z with z | z
  · rcases t.nw a z with z | z
    · exact n.1 z
    · rw [z] at e; cases e
  · exact n.2 z
theorem Rp.stp {A0 P P' : List Addr} {v : V} {d : D} (t : Stp K H P H' P') (h : Rp K (DL.hid (P ++ A0) H) v d) : Rp K (DL.hid (P' ++ A0) H') v d := h.ext t.hid
theorem Rps.stp {A0 P P' : List Addr} {v : List V} {d : List D} (t : Stp K H P H' P') (h : Rps K (DL.hid (P ++ A0) H) v d) : Rps K (DL.hid (P' ++ A0) H') v d := h.ext t.hid
/-- a tracked new address is none of what is hidden already -/
theorem hid_add {A : List Addr} {p : Addr} (h : H p = none) : Ext (DL.hid A H) (DL.hid (p :: A) H) := fun a o q => by
  obtain ⟨n, e⟩ := hid_of q
  refine hid_in (fun z => ?_) e (hid_nt q)
  rcases List.mem_cons.mp z with z | z
  · rw [z, h] at e; cases e
  · exact n z
end

/-! ### slots -/
/-- nst g: a list of lists of ints, all of them our own; pub 0 d: shared data; pub 1 d: data that does not hang together with the lent list at τ 0; pub 2 d: the lent list itself -/
inductive Sl where
  | pub (m : Nat) (d : D)
  | own (t : Nat) (ds : List D)
  | nst (g : List (List Int))
abbrev Sl.pu (d : D) : Sl := .pub 0 d
/-- what such a slot does not touch -/
def hs (τ : Nat → Addr) (m : Nat) (A : List Addr) : List Addr := if m = 1 then τ 0 :: A else A
theorem Ext.hs {H H' : Hp} {A B : List Addr} (e : Ext (hid A H) (hid B H')) {τ : Nat → Addr} {m : Nat} : Ext (hid (DL.hs τ m A) H) (hid (DL.hs τ m B) H') := by
  unfold DL.hs
  by_cases hm : m = 1
  · rw [if_pos hm, if_pos hm]
    intro a o q
    obtain ⟨n, z⟩ := hid_of q
    have z2 := hid_of (e a o (hid_in (fun w => n (List.mem_cons_of_mem _ w)) z (hid_nt q)))
    refine hid_in (fun w => ?_) z2.2 (hid_nt q)
    rcases List.mem_cons.mp w with w | w
    · exact n (by rw [w]; exact List.mem_cons_self)
    · exact z2.1 w
  · rw [if_neg hm, if_neg hm]
    exact e
theorem hs_mem {τ : Nat → Addr} {m : Nat} {A : List Addr} {a : Addr} (h : a ∈ A) : a ∈ hs τ m A := by
  unfold hs
  by_cases hm : m = 1
  · rw [if_pos hm]; exact List.mem_cons_of_mem _ h
  · rw [if_neg hm]; exact h
theorem hs_eq {H H' : Hp} {A B : List Addr} (e : hid A H = hid B H') {τ : Nat → Addr} {m : Nat} : hid (hs τ m A) H = hid (hs τ m B) H' := by
  unfold hs
  by_cases hm : m = 1
  · rw [if_pos hm, if_pos hm]
    funext a
    by_cases ha : a = τ 0
    · unfold hid
      rw [if_pos (by rw [ha]; exact List.mem_cons_self), if_pos (by rw [ha]; exact List.mem_cons_self)]
    · have z := congrFun e a
      unfold hid at z ⊢
      have q : ∀ C : List Addr, (a ∈ τ 0 :: C) = (a ∈ C) := fun C => propext ⟨fun w => (List.mem_cons.mp w).elim (fun w => absurd w ha) id, List.mem_cons_of_mem _⟩
      simp only [q]
      exact z
  · rw [if_neg hm, if_neg hm]
    exact e
theorem hs_less {τ : Nat → Addr} {m : Nat} {A : List Addr} {H : Hp} : Ext (hid (hs τ m A) H) (hid A H) := hid_less fun a z => by
  unfold hs
  by_cases hm : m = 1
  · rw [if_pos hm]; exact List.mem_cons_of_mem _ z
  · rw [if_neg hm]; exact z
abbrev Env := List (Option Sl)
def noN (ρ : Env) : Bool := ρ.all fun o => match o with
  | some (.nst _) => false
  | _ => true
theorem noN_of {ρ : Env} (h : noN ρ = true) {i : Nat} {g : List (List Int)} (q : ρ[i]? = some (some (.nst g))) : False := by
  have z := List.all_eq_true.mp h _ (List.mem_of_getElem? q)
  cases z
/-- a list at p of the lists at qs: a grid of ints -/
structure Nst (H : Hp) (p : Addr) (qs : List Addr) (g : List (List Int)) : Prop where
  top : H p = some (.lst (qs.map V.ref))
  nd : (p :: qs).Nodup
  len : qs.length = g.length
  row : ∀ (j : Nat) (q : Addr) (r : List Int), qs[j]? = some q → g[j]? = some r → H q = some (.lst (r.map V.int))
theorem Nst.gr {H H' : Hp} {p : Addr} {qs : List Addr} {g : List (List Int)} (h : Nst H p qs g) (k : ∀ a xs, a ∈ p :: qs → H a = some (.lst xs) → H' a = some (.lst xs)) : Nst H' p qs g :=
  ⟨k _ _ List.mem_cons_self h.top, h.nd, h.len, fun j q r e1 e2 => k _ _ (List.mem_cons_of_mem _ (List.mem_of_getElem? e1)) (h.row j q r e1 e2)⟩
def NsAt (H : Hp) (σ : L2.St) (P : List Addr) (i : Nat) (g : List (List Int)) : Prop := ∃ p qs, σ[i]? = some (some (.ref p)) ∧ Nst H p qs g ∧ ∀ a ∈ p :: qs, a ∈ P
theorem NsAt.gr {H H' : Hp} {σ σ' : L2.St} {P : List Addr} {i : Nat} {g : List (List Int)} (h : NsAt H σ P i g) (e : σ'[i]? = σ[i]?) (k : ∀ a xs, a ∈ P → H a = some (.lst xs) → H' a = some (.lst xs)) : NsAt H' σ' P i g := by
  obtain ⟨p, qs, h1, h2, h3⟩ := h
  exact ⟨p, qs, by rw [e]; exact h1, h2.gr fun a xs m z => k a xs (h3 a m) z, h3⟩

structure SRep (K : PySem.W.Frag) (τ : Nat → Addr) (A0 : List Addr) (H : Hp) (σ : L2.St) (ρ : Env) (P : List Addr) : Prop where
  pu : ∀ (i m : Nat) (d : D), ρ[i]? = some (some (.pub m d)) → ∃ v, σ[i]? = some (some v) ∧ Rp K (hid (hs τ m (P ++ A0)) H) v d ∧ (m = 2 → v = .ref (τ 0))
  own : ∀ (i t : Nat) (ds : List D), ρ[i]? = some (some (.own t ds)) → ∃ p xs, σ[i]? = some (some (.ref p)) ∧ p ∈ P ∧ H p = some (.lst xs) ∧ Rps K (hid (P ++ A0) H) xs ds ∧ (t = 0 ∨ p = τ t)
  inj : ∀ (i j t u : Nat) (ds es : List D) (p : Addr), i ≠ j → ρ[i]? = some (some (.own t ds)) → ρ[j]? = some (some (.own u es)) → σ[i]? = some (some (.ref p)) → σ[j]? ≠ some (some (.ref p))
  tr : ∀ a ∈ P ++ A0, H a ≠ none
  len : σ.length = ρ.length
  dj : ∀ p ∈ P, p ∉ A0
  tb : LamX.Tabs (TbK K) H
  ns : ∀ (i : Nat) (g : List (List Int)), ρ[i]? = some (some (.nst g)) → NsAt H σ P i g ∧ (∀ (j : Nat) (h : List (List Int)), ρ[j]? = some (some (.nst h)) → j = i) ∧ ∀ (j t : Nat) (ds : List D), ρ[j]? ≠ some (some (.own t ds))

/-- a value: shared, or a new list that nobody has yet -/
inductive W where
  | pu (d : D)
  | frs (ds : List D)
def W.d : W → D
  | .pu d => d
  | .frs ds => .list ds

/-- the outcome of an expression -/
inductive RE where
  | ok (w : W) (ρ : Env)
  | err (c : Addr) (d : D)
  | st
/-- what follows an expression of that outcome -/
def CDE (K : PySem.W.Frag) (E : XK) (τ : Nat → Addr) (A0 : List Addr) (H : Hp) (P : List Addr) (σ : L2.St) (o : RE) (Q : VK) : Prop :=
  match o with
  | .ok (.pu d) ρ' => ∀ v H' P', Stp K H P H' P' → SRep K τ A0 H' σ ρ' P' → Rp K (hid (P' ++ A0) H') v d → Q v H'
  | .ok (.frs ds) ρ' => ∀ p xs H' P', Stp K H P H' P' → H p = none → p ∉ P' → p ∉ A0 → SRep K τ (p :: A0) H' σ ρ' P' → H' p = some (.lst xs) → Rps K (hid (P' ++ p :: A0) H') xs ds → Q (.ref p) H'
  | .err c d => ∀ dx v H' P', Stp K H P H' P' → (H dx = none ∧ H' dx = some (.xd [(("value" : Str), v)])) → Rp K (hid (P' ++ A0) H') v d → E (.ref c) (some dx) H'
  | .st => False
def tDE (K : PySem.W.Frag) (E : XK) (f : Env → RE) : TE := fun σ H Q => ∃ τ A0 P ρ, SRep K τ A0 H σ ρ P ∧ CDE K E τ A0 H P σ (f ρ) Q
structure DE (X : Cx) (E : XK) (e : Expr) (f : Env → RE) : Prop where
  pe : PE X e (tDE X.K E f)

theorem SRep.puD {K : PySem.W.Frag} {τ : Nat → Addr} {A0 P : List Addr} {H : Hp} {σ : L2.St} {ρ : Env} (S : SRep K τ A0 H σ ρ P) {i m : Nat} {d : D} (q : ρ[i]? = some (some (.pub m d))) : ∃ v, σ[i]? = some (some v) ∧ Rp K (hid (P ++ A0) H) v d := by
  obtain ⟨v, h1, h2, _⟩ := S.pu i m d q
  exact ⟨v, h1, h2.ext hs_less⟩
section
variable {K : PySem.W.Frag} {E : XK} {τ : Nat → Addr} {A0 P : List Addr} {H : Hp} {σ : L2.St} {ρ : Env} {Q : VK}
theorem hid_swap {A B : List Addr} (h : ∀ a, a ∈ A ↔ a ∈ B) : hid A H = hid B H := by
  funext a
  unfold hid
  by_cases e : a ∈ A
  · rw [if_pos e, if_pos ((h a).mp e)]
  · rw [if_neg e, if_neg (fun z => e ((h a).mpr z))]
theorem SRep.less {B0 : List Addr} (h : SRep K τ B0 H σ ρ P) (hs : ∀ a ∈ A0, a ∈ B0) : SRep K τ A0 H σ ρ P := by
  have e : Ext (hid (P ++ B0) H) (hid (P ++ A0) H) := hid_less fun a z => by
    rcases List.mem_append.mp z with z | z
    · exact List.mem_append_left _ z
    · exact List.mem_append_right _ (hs a z)
  refine ⟨fun i m d q => ?_, fun i t ds q => ?_, h.inj, fun a z => ?_, h.len, fun p hp z => h.dj p hp (hs p z), h.tb, h.ns⟩
  · obtain ⟨v, h1, h2, h3⟩ := h.pu i m d q
    exact ⟨v, h1, h2.ext e.hs, h3⟩
  · obtain ⟨p, xs, h1, h2, h3, h4, h5⟩ := h.own i t ds q
    exact ⟨p, xs, h1, h2, h3, h4.ext e, h5⟩
  · rcases List.mem_append.mp z with z | z
    · exact h.tr a (List.mem_append_left _ z)
    · exact h.tr a (List.mem_append_right _ (hs a z))
/-- a slot of plain data, the heap having grown -/
theorem SRep.grow {H' : Hp} (h : SRep K τ A0 H σ ρ P) (e : Gr K H H') : SRep K τ A0 H' σ ρ P := by
  have st : Stp K H P H' P := Stp.gr e
  refine ⟨fun i m d q => ?_, fun i t ds q => ?_, h.inj, fun a z n => h.tr a z (e.al a n), h.len, h.dj, e.tb h.tb, fun i g q => ⟨(h.ns i g q).1.gr rfl fun a xs _ z => e.kp a _ z (fun _ w => nomatch w), (h.ns i g q).2⟩⟩
  · obtain ⟨v, h1, h2, h3⟩ := h.pu i m d q
    exact ⟨v, h1, h2.ext st.hid.hs, h3⟩
  · obtain ⟨p, xs, h1, h2, h3, h4, h5⟩ := h.own i t ds q
    exact ⟨p, xs, h1, h2, e.kp _ _ h3 (fun _ z => nomatch z), h4.stp st, h5⟩
/-- .. one more address hidden that was new -/
theorem SRep.addHid {p : Addr} (h : SRep K τ A0 H σ ρ P) (hp : H p = none) {H' : Hp} (e : Gr K H H') (hp' : H' p ≠ none) : SRep K τ (p :: A0) H' σ ρ P := by
  have g := h.grow e
  have x : Ext (hid (P ++ A0) H) (hid (P ++ p :: A0) H') := fun a o q => by
    obtain ⟨n, q1⟩ := hid_of q
    rw [List.mem_append, not_or] at n
    refine hid_in (fun z => ?_) (e.kp a o q1 (hid_nt q)) (hid_nt q)
    rcases List.mem_append.mp z with z | z
    · exact n.1 z
    · rcases List.mem_cons.mp z with z | z
      · rw [z, hp] at q1; cases q1
      · exact n.2 z
  refine ⟨fun i m d q => ?_, fun i t ds q => ?_, h.inj, fun a z => ?_, h.len, fun q hq z => ?_, g.tb, g.ns⟩
  rotate_right
  · rcases List.mem_cons.mp z with z | z
    · exact h.tr q (List.mem_append_left _ hq) (by rw [z]; exact hp)
    · exact h.dj q hq z
  · obtain ⟨v, h1, h2, h3⟩ := h.pu i m d q
    exact ⟨v, h1, h2.ext x.hs, h3⟩
  · obtain ⟨p, xs, h1, h2, h3, h4, h5⟩ := h.own i t ds q
    exact ⟨p, xs, h1, h2, e.kp _ _ h3 (fun _ z => nomatch z), h4.ext x, h5⟩
  · rcases List.mem_append.mp z with z | z
    · exact g.tr a (List.mem_append_left _ z)
    · rcases List.mem_cons.mp z with z | z
      · rw [z]; exact hp'
      · exact g.tr a (List.mem_append_right _ z)

/-- the operand as shared data, whatever it was -/
theorem CDE.toD {o : RE} {R : VK}
    (h : match o with
      | .ok w ρ' => ∀ v H' P', Stp K H P H' P' → SRep K τ A0 H' σ ρ' P' → Rp K (hid (P' ++ A0) H') v w.d → R v H'
      | .err c d => ∀ dx v H' P', Stp K H P H' P' → (H dx = none ∧ H' dx = some (.xd [(("value" : Str), v)])) → Rp K (hid (P' ++ A0) H') v d → E (.ref c) (some dx) H'
      | .st => False) : CDE K E τ A0 H P σ o R := by
  cases o with
  | ok w ρ' =>
    cases w with
    | pu d => exact h
    | frs ds =>
      intro p xs H' P' t hn hp hA S hl hr
      have x : Ext (hid (P' ++ p :: A0) H') (hid (P' ++ A0) H') := hid_less fun a z => by
        rcases List.mem_append.mp z with z | z
        · exact List.mem_append_left _ z
        · exact List.mem_append_right _ (List.mem_cons_of_mem _ z)
      refine h (.ref p) H' P' t (S.less fun a z => List.mem_cons_of_mem _ z) (.lst (hid_in (fun z => ?_) hl) (hr.ext x))
      rcases List.mem_append.mp z with z | z
      · exact hp z
      · exact hA z
  | err c d => exact h
  | st => exact h
end
end DL
/-! D2: expressions. -/
namespace DL
open PySem L2 PyProof.Rows

def bndE (fa : Env → RE) (k : D → Env → RE) : Env → RE := fun ρ => match fa ρ with
  | .ok w ρ1 => k w.d ρ1
  | .err c d => .err c d
  | .st => .st
def resW (o : Option W) : Env → RE := fun ρ => match o with
  | some w => .ok w ρ
  | none => .st
/-- by values: what an operation gives -/
def GiveW (K : PySem.W.Frag) (A : List Addr) (H : Hp) (w : W) (Q : VK) : Prop := match w with
  | .pu d => ∀ v H', Ext H H' → Rp K (hid A H') v d → Q v H'
  | .frs ds => ∀ p xs H', Ext H H' → H p = none → H' p = some (.lst xs) → Rps K (hid (p :: A) H') xs ds → Q (.ref p) H'

section
variable {K : PySem.W.Frag} {E : XK} {τ : Nat → Addr} {A0 P : List Addr} {H : Hp} {σ : L2.St} {ρ : Env} {Q : VK}
theorem SRep.fresh (S : SRep K τ A0 H σ ρ P) {p : Addr} (h : H p = none) : p ∉ P ∧ p ∉ A0 :=
  ⟨fun z => S.tr p (List.mem_append_left _ z) h, fun z => S.tr p (List.mem_append_right _ z) h⟩
theorem giveW {w : W} (S : SRep K τ A0 H σ ρ P) (h : CDE K E τ A0 H P σ (.ok w ρ) Q) : GiveW K (P ++ A0) H w Q := by
  cases w with
  | pu d => exact fun v H' e r => h v H' P (Stp.ext e) (S.grow e.gr) r
  | frs ds =>
    intro p xs H' e hn hl hr
    obtain ⟨n1, n2⟩ := S.fresh hn
    have q : hid (P ++ p :: A0) H' = hid (p :: (P ++ A0)) H' := hid_swap fun a => by
      simp only [List.mem_append, List.mem_cons]
      constructor
      · rintro (z | z | z)
        · exact .inr (.inl z)
        · exact .inl z
        · exact .inr (.inr z)
      · rintro (z | z | z)
        · exact .inr (.inl z)
        · exact .inl z
        · exact .inr (.inr z)
    exact h p xs H' P (Stp.ext e) hn n1 n2 (S.addHid hn e.gr (by rw [hl]; exact fun z => nomatch z)) hl (by rw [q]; exact hr)
theorem CDE.stp {o : RE} {H' : Hp} {P' : List Addr} (t : Stp K H P H' P') (h : CDE K E τ A0 H P σ o Q) : CDE K E τ A0 H' P' σ o Q := by
  cases o with
  | ok w ρ' =>
    cases w with
    | pu d => exact fun v H2 P2 t2 S r => h v H2 P2 (t.trans t2) S r
    | frs ds => exact fun p xs H2 P2 t2 hn n1 n2 S hl hr => h p xs H2 P2 (t.trans t2) (t.al p hn) n1 n2 S hl hr
  | err c d => exact fun dx v H2 P2 t2 hx hr => h dx v H2 P2 (t.trans t2) ⟨t.al _ hx.1, hx.2⟩ hr
  | st => exact h
theorem CDE.bnd {fa : Env → RE} {k : D → Env → RE} (h : CDE K E τ A0 H P σ (bndE fa k ρ) Q) :
    CDE K E τ A0 H P σ (fa ρ) fun v H' => ∃ P' ρ' d, Stp K H P H' P' ∧ SRep K τ A0 H' σ ρ' P' ∧ Rp K (hid (P' ++ A0) H') v d ∧ CDE K E τ A0 H' P' σ (k d ρ') Q := by
  refine CDE.toD ?_
  unfold bndE at h
  cases q : fa ρ with
  | ok w ρ' =>
    rw [q] at h
    exact fun v H' P' t S r => ⟨P', ρ', w.d, t, S, r, CDE.stp t h⟩
  | err c d =>
    rw [q] at h
    exact h
  | st =>
    rw [q] at h
    exact h
/-- a value is had: go on -/
theorem CDE.ret {w : W} {H' : Hp} (S : SRep K τ A0 H σ ρ P) (h : CDE K E τ A0 H P σ (.ok w ρ) Q) : GiveW K (P ++ A0) H w Q := giveW S h
theorem tde_bnd {fa : Env → RE} {k : D → Env → RE} {R : VK} (h : tDE K E (bndE fa k) σ H Q)
    (hk : ∀ v H' τ A0 P' ρ' d, SRep K τ A0 H' σ ρ' P' → Rp K (hid (P' ++ A0) H') v d → CDE K E τ A0 H' P' σ (k d ρ') Q → R v H') : tDE K E fa σ H R := by
  obtain ⟨τ, A0, P, ρ, S, c⟩ := h
  refine ⟨τ, A0, P, ρ, S, ?_⟩
  have c2 := CDE.bnd c
  revert c2
  cases q : fa ρ with
  | ok w ρ' =>
    cases w with
    | pu d => exact fun c2 v H' P' t S' r => let ⟨P2, ρ2, d2, t2, S2, r2, z⟩ := c2 v H' P' t S' r; hk v H' τ A0 P2 ρ2 d2 S2 r2 z
    | frs ds => exact fun c2 p xs H' P' t hn n1 n2 S' hl hr => let ⟨P2, ρ2, d2, t2, S2, r2, z⟩ := c2 p xs H' P' t hn n1 n2 S' hl hr; hk _ H' τ A0 P2 ρ2 d2 S2 r2 z
  | err c d => exact fun c2 => c2
  | st => exact fun c2 => c2

/-! ### operations on two, one values -/
def Op2R (K : PySem.W.Frag) (r : R2) (g : D → D → Option W) : Prop := ∀ (A : List Addr) (H : Hp) (x y : V) (d1 d2 : D) (w : W) (Q : VK), (∀ a ∈ A, H a ≠ none) → Rp K (hid A H) x d1 → Rp K (hid A H) y d2 → g d1 d2 = some w → GiveW K A H w Q → r x y H Q
def Op1R (K : PySem.W.Frag) (r : V → Hp → VK → Prop) (g : D → Option W) : Prop := ∀ (A : List Addr) (H : Hp) (x : V) (d1 : D) (w : W) (Q : VK), (∀ a ∈ A, H a ≠ none) → Rp K (hid A H) x d1 → g d1 = some w → GiveW K A H w Q → r x H Q
def fOp2 (g : D → D → Option W) (fa fb : Env → RE) : Env → RE := bndE fa fun d1 => bndE fb fun d2 => resW (g d1 d2)
def fOp1 (g : D → Option W) (fa : Env → RE) : Env → RE := bndE fa fun d1 => resW (g d1)
theorem op2_of {r : R2} {g : D → D → Option W} {fa fb : Env → RE} (hr : Op2R K r g) (h : tDE K E (fOp2 g fa fb) σ H Q) : tOp r (tDE K E fa) (tDE K E fb) σ H Q := by
  refine tde_bnd h fun v1 H1 τ A0 P1 ρ1 d1 S1 r1 c1 => ⟨τ, A0, P1, ρ1, S1, ?_⟩
  have c2 := CDE.bnd c1
  revert c2
  have fin : ∀ {v2 H2 P2 ρ2 d2}, Stp K H1 P1 H2 P2 → SRep K τ A0 H2 σ ρ2 P2 → Rp K (hid (P2 ++ A0) H2) v2 d2 → CDE K E τ A0 H2 P2 σ (resW (g d1 d2) ρ2) Q → r v1 v2 H2 Q := fun {v2 H2 P2 ρ2 d2} t S2 r2 z => by
    unfold resW at z
    cases q : g d1 d2 with
    | some w =>
      rw [q] at z
      exact hr (P2 ++ A0) H2 v1 v2 d1 d2 w Q S2.tr (r1.stp t) r2 q (giveW S2 z)
    | none =>
      rw [q] at z
      exact z.elim
  cases q : fb ρ1 with
  | ok w ρ' =>
    cases w with
    | pu d => exact fun c2 v H' P' t S' r => let ⟨P2, ρ2, d2, t2, S2, r2, z⟩ := c2 v H' P' t S' r; fin t2 S2 r2 z
    | frs ds => exact fun c2 p xs H' P' t hn n1 n2 S' hl hr => let ⟨P2, ρ2, d2, t2, S2, r2, z⟩ := c2 p xs H' P' t hn n1 n2 S' hl hr; fin t2 S2 r2 z
  | err c d => exact fun c2 => c2
  | st => exact fun c2 => c2
theorem op1_of {r : V → Hp → VK → Prop} {g : D → Option W} {fa : Env → RE} (hr : Op1R K r g) (h : tDE K E (fOp1 g fa) σ H Q) : tUn r (tDE K E fa) σ H Q := by
  refine tde_bnd h fun v1 H1 τ A0 P1 ρ1 d1 S1 r1 z => ?_
  unfold resW at z
  cases q : g d1 with
  | some w =>
    rw [q] at z
    exact hr (P1 ++ A0) H1 v1 d1 w Q S1.tr r1 q (giveW S1 z)
  | none =>
    rw [q] at z
    exact z.elim
end
theorem PE.weak {X : Cx} {e : Expr} {t u : TE} (h : PE X e t) (k : ∀ σ H Q, u σ H Q → t σ H Q) : PE X e u := ⟨fun pins s σ H Q I q => h.run pins s σ H Q I (k σ H Q q)⟩
theorem PT.weak {X : Cx} {e : Expr} {t u : TT} (h : PT X e t) (k : ∀ σ H Q, u σ H Q → t σ H Q) : PT X e u := ⟨fun pins s σ H Q I q => h.run pins s σ H Q I (k σ H Q q)⟩
theorem PA.weak {X : Cx} {e : List Expr} {t u : TA} (h : PA X e t) (k : ∀ σ H Q, u σ H Q → t σ H Q) : PA X e u := ⟨fun pos pins s σ H Q I q => h.run pos pins s σ H Q I (k σ H Q q)⟩
theorem PS.weak {X : Cx} {e : Stmt} {t u : TS} (h : PS X e t) (k : ∀ D σ H, u D σ H → t D σ H) : PS X e u := ⟨fun pins s σ H D I q => h.run pins s σ H D I (k D σ H q)⟩
theorem PSs.weak {X : Cx} {e : List Stmt} {t u : TS} (h : PSs X e t) (k : ∀ D σ H, u D σ H → t D σ H) : PSs X e u := ⟨fun pins s σ H D I q => h.run pins s σ H D I (k D σ H q)⟩

section
variable {X : Cx} {E : XK} {a b : Expr} {fa fb : Env → RE} {pos : Pos}
theorem de_bin {op : Operator} {r : R2} {g : D → D → Option W} (ho : OpR X (binaryOp op) r) (hr : Op2R X.K r g) (ha : DE X E a fa) (hb : DE X E b fb) : DE X E (.BinOp a op b pos) (fOp2 g fa fb) :=
  ⟨PE.weak (pe_op ho ha.pe hb.pe) fun _ _ _ h => op2_of hr h⟩
theorem de_cmp {op : CmpOp} {r : R2} {g : D → D → Option W} (ho : OpR X (compareOp op) r) (hr : Op2R X.K r g) (ha : DE X E a fa) (hb : DE X E b fb) (hm : behindInMarks op b = false) : DE X E (.Compare a [op] [b] pos) (fOp2 g fa fb) :=
  ⟨PE.weak (pe_cmpR ho ha.pe hb.pe hm) fun _ _ _ h => op2_of hr h⟩
theorem de_un {op : UnaryOp} {r : V → Hp → VK → Prop} {g : D → Option W} (ho : UnR X (unaryOp op) r) (hr : Op1R X.K r g) (ha : DE X E a fa) : DE X E (.UnaryOp op a pos) (fOp1 g fa) :=
  ⟨PE.weak (pe_un ho ha.pe) fun _ _ _ h => op1_of hr h⟩
theorem de_ix {r : R2} {g : D → D → Option W} (ho : IxR X r) (hr : Op2R X.K r g) (ha : DE X E a fa) (hb : DE X E b fb) (hs : PlainIx b) : DE X E (.Subscript a b pos) (fOp2 g fa fb) :=
  ⟨PE.weak (pe_ix ho ha.pe hb.pe hs) fun _ _ _ h => op2_of hr h⟩
end

/-! ### constants, names -/
def fC (d : D) : Env → RE := fun ρ => .ok (.pu d) ρ
section
variable {X : Cx} {E : XK} {pos : Pos}
theorem de_const {e : Expr} {v : V} {d : D} (h : PE X e (tC v)) (r : ∀ H, Rp X.K H v d) : DE X E e (fC d) :=
  ⟨PE.weak h fun σ H Q ⟨τ, A0, P, ρ, S, c⟩ => c v H P (Stp.rfl H P) S (r _)⟩
theorem de_int {i j} : DE X E (.Constant (.int i) j pos) (fC (.int i)) := de_const pe_int fun _ => .int i
theorem de_bl {b j} : DE X E (.Constant (.bool b) j pos) (fC (.bool b)) := de_const pe_bl fun _ => .bl b
theorem de_non {j} : DE X E (.Constant .none j pos) (fC .none) := de_const pe_non fun _ => .non
theorem de_str {x j} : DE X E (.Constant (.str x) j pos) (fC (.str x)) := de_const pe_str fun _ => .str x
/-- a name: an own list is given away -/
def fVar (i : Nat) : Env → RE := fun ρ => match ρ[i]? with
  | some (some (.pub _ d)) => .ok (.pu d) ρ
  | some (some (.own t ds)) => .ok (.pu (.list ds)) (ρ.set i (some (.pu (.list ds))))
  | _ => .st
end
section
variable {K : PySem.W.Frag} {τ : Nat → Addr} {A0 P : List Addr} {H : Hp} {σ : L2.St} {ρ : Env}
/-- an own list is shared from now on -/
theorem SRep.share (S : SRep K τ A0 H σ ρ P) {i t : Nat} {ds : List D} (h : ρ[i]? = some (some (.own t ds))) :
    ∃ p P', σ[i]? = some (some (.ref p)) ∧ (∀ a ∈ P', a ∈ P) ∧ SRep K τ A0 H σ (ρ.set i (some (.pu (.list ds)))) P' ∧ Rp K (hid (P' ++ A0) H) (.ref p) (.list ds) := by
  obtain ⟨p, xs, h1, h2, h3, h4, h5⟩ := S.own i t ds h
  have hA : p ∉ A0 := S.dj p h2
  have hi : i < ρ.length := (List.getElem?_eq_some_iff.mp h).1
  have e : Ext (hid (P ++ A0) H) (hid (P.filter (fun a => decide (a ≠ p)) ++ A0) H) := hid_less fun a z => by
    rcases List.mem_append.mp z with z | z
    · exact List.mem_append_left _ (List.mem_filter.mp z).1
    · exact List.mem_append_right _ z
  have np : p ∉ P.filter (fun a => decide (a ≠ p)) ++ A0 := fun z => by
    rcases List.mem_append.mp z with z | z
    · exact (of_decide_eq_true (List.mem_filter.mp z).2) rfl
    · exact hA z
  have rp : Rp K (hid (P.filter (fun a => decide (a ≠ p)) ++ A0) H) (.ref p) (.list ds) := .lst (hid_in np h3) (h4.ext e)
  refine ⟨p, P.filter (fun a => decide (a ≠ p)), h1, fun a z => (List.mem_filter.mp z).1, ⟨fun j m d q => ?_, fun j u es q => ?_, fun j k u u2 es fs q hjk e1 e2 e3 => ?_, fun a z => ?_, by simpa using S.len, fun q z => S.dj q (List.mem_filter.mp z).1, S.tb, fun j g q => ?_⟩, rp⟩
  rotate_right
  · by_cases hj : i = j
    · subst hj
      rw [List.getElem?_set_self hi] at q
      cases q
    · rw [List.getElem?_set_ne hj] at q
      exact absurd h ((S.ns j g q).2.2 i t ds)
  · by_cases hj : i = j
    · subst hj
      rw [List.getElem?_set_self hi] at q
      cases q
      exact ⟨_, h1, rp, fun z => nomatch z⟩
    · rw [List.getElem?_set_ne hj] at q
      obtain ⟨v, q1, q2, q3⟩ := S.pu j m d q
      exact ⟨v, q1, q2.ext e.hs, q3⟩
  · by_cases hj : i = j
    · subst hj
      rw [List.getElem?_set_self hi] at q
      cases q
    · rw [List.getElem?_set_ne hj] at q
      obtain ⟨p2, ys, q1, q2, q3, q4, q5⟩ := S.own j u es q
      refine ⟨p2, ys, q1, List.mem_filter.mpr ⟨q2, decide_eq_true fun z => ?_⟩, q3, q4.ext e, q5⟩
      subst z
      exact S.inj i j t u ds es p2 hj h q h1 q1
  · have g : ∀ {m u : Nat} {gs : List D}, (ρ.set i (some (.pu (.list ds))))[m]? = some (some (.own u gs)) → ρ[m]? = some (some (.own u gs)) := fun {m u gs} z => by
      by_cases hm : i = m
      · subst hm
        rw [List.getElem?_set_self hi] at z
        cases z
      · rw [List.getElem?_set_ne hm] at z
        exact z
    exact S.inj j k u u2 es fs q hjk (g e1) (g e2) e3
  · rcases List.mem_append.mp z with z | z
    · exact S.tr a (List.mem_append_left _ (List.mem_filter.mp z).1)
    · exact S.tr a (List.mem_append_right _ z)
end
section
variable {X : Cx} {E : XK} {pos : Pos}
theorem de_var {i : Nat} {e : Expr} (h : PE X e (tVar i)) : DE X E e (fVar i) := by
  refine ⟨PE.weak h fun σ H Q ⟨τ, A0, P, ρ, S, c⟩ => ?_⟩
  unfold fVar at c
  split at c
  · rename_i m d q
    obtain ⟨v, h1, h2⟩ := S.puD q
    exact ⟨v, h1, c v H P (Stp.rfl H P) S h2⟩
  · rename_i ds q
    obtain ⟨p, P', h1, h2, h3, h4⟩ := S.share q
    exact ⟨_, h1, c _ H P' ⟨fun _ _ _ z _ => z, fun a z => .inl (h2 a z), fun _ z => z, fun z => z⟩ h3 h4⟩
  · exact c.elim
end

/-! ### tests: and, or, not -/
/-- a test by its value -/
structure DT (X : Cx) (E : XK) (e : Expr) (f : Env → RE) : Prop where
  pt : PT X e (tTest (tDE X.K E f))
def fBoth (fa : Env → RE) (ft ff : Env → RE) : Env → RE := bndE fa fun d => match d with
  | .bool true => ft
  | .bool false => ff
  | _ => fun _ => .st
def fAnd (fa fb : Env → RE) : Env → RE := fBoth fa fb (fC (.bool false))
def fOr (fa fb : Env → RE) : Env → RE := fBoth fa (fC (.bool true)) fb
def fNot (fa : Env → RE) : Env → RE := fBoth fa (fC (.bool false)) (fC (.bool true))
section
variable {K : PySem.W.Frag} {E : XK} {σ : L2.St} {H : Hp} {Q : VK}
theorem rp_bool {v : V} {b : Bool} (h : Rp K H v (.bool b)) : v = .bl b := by cases h; rfl
/-- by the first one's truth -/
theorem both_of {fa ft ff : Env → RE} {Rt Rf : Hp → Prop} (h : tDE K E (fBoth fa ft ff) σ H Q) (ht : ∀ H', tDE K E ft σ H' Q → Rt H') (hf : ∀ H', tDE K E ff σ H' Q → Rf H') :
    tDE K E fa σ H fun v H' => ∃ c, v = .bl c ∧ if c = true then Rt H' else Rf H' := by
  refine tde_bnd h fun v H' τ A0 P' ρ' d S r c => ?_
  cases d with
  | bool b =>
    refine ⟨b, rp_bool r, ?_⟩
    cases b with
    | true => exact ht H' ⟨τ, A0, P', ρ', S, c⟩
    | false => exact hf H' ⟨τ, A0, P', ρ', S, c⟩
  | _ => exact c.elim
theorem tde_c {v : V} {d : D} (r : ∀ H, Rp K H v d) (h : tDE K E (fC d) σ H Q) : Q v H := by
  obtain ⟨τ, A0, P, ρ, S, c⟩ := h
  exact c v H P (Stp.rfl H P) S (r _)
theorem tde_mono {f : Env → RE} {Q R : VK} (h : tDE K E f σ H Q) (k : ∀ v H', Q v H' → R v H') : tDE K E f σ H R := by
  obtain ⟨τ, A0, P, ρ, S, c⟩ := h
  refine ⟨τ, A0, P, ρ, S, ?_⟩
  revert c
  cases f ρ with
  | ok w ρ' =>
    cases w with
    | pu d => exact fun c v H' P' t S r => k _ _ (c v H' P' t S r)
    | frs ds => exact fun c p xs H' P' t hn n1 n2 S hl hr => k _ _ (c p xs H' P' t hn n1 n2 S hl hr)
  | err c d => exact fun c => c
  | st => exact fun c => c
end
section
variable {X : Cx} {E : XK} {a b : Expr} {rest : List Expr} {fa fb : Env → RE} {pos : Pos}
/-- .. as values -/
theorem de_one {op} (h : DE X E a fa) : DE X E (.BoolOp op [a] pos) fa := ⟨pe_one h.pe⟩
theorem de_and (ha : DE X E a fa) (hb : DE X E (.BoolOp .And (b :: rest) pos) fb) : DE X E (.BoolOp .And (a :: b :: rest) pos) (fAnd fa fb) :=
  ⟨PE.weak (pe_and ha.pe hb.pe) fun σ H Q h => both_of h (fun _ z => z) fun _ z => tde_c (fun _ => .bl false) z⟩
theorem de_or (ha : DE X E a fa) (hb : DE X E (.BoolOp .Or (b :: rest) pos) fb) : DE X E (.BoolOp .Or (a :: b :: rest) pos) (fOr fa fb) :=
  ⟨PE.weak (pe_or ha.pe hb.pe) fun σ H Q h => both_of h (fun _ z => tde_c (fun _ => .bl true) z) fun _ z => z⟩
theorem de_not (ha : DE X E a fa) : DE X E (.UnaryOp .Not a pos) (fNot fa) :=
  ⟨PE.weak (pe_not ha.pe) fun σ H Q h => tde_mono (both_of (Rt := fun H' => Q (.bl false) H') (Rf := fun H' => Q (.bl true) H') h (fun _ z => tde_c (fun _ => .bl false) z) fun _ z => tde_c (fun _ => .bl true) z) fun v H' ⟨c, e, z⟩ => ⟨c, e, by cases c <;> exact z⟩⟩
/-- .. as tests -/
theorem dt_val {e : Expr} {f : Env → RE} (h : DE X E e f) (he : ∀ whole, isTrue e X.env whole = (do let v ← whole; standAt e.pos; holding [v] (truthy v)) := by intro _; rfl) : DT X E e f := ⟨pt_val h.pe he⟩
theorem dt_cmp {op : CmpOp} {r : R2} {g : D → D → Option W} (ho : OpR X (compareOp op) r) (hr : Op2R X.K r g) (ha : DE X E a fa) (hb : DE X E b fb) (hm : behindInMarks op b = false) : DT X E (.Compare a [op] [b] pos) (fOp2 g fa fb) :=
  ⟨PT.weak (pt_cmpR ho ha.pe hb.pe hm) fun _ _ _ h => op2_of hr h⟩
structure DW (X : Cx) (E : XK) (e : Expr) (f : Env → RE) : Prop where
  pw : PW X e (tTest (tDE X.K E f))
theorem PW.weak {e : Expr} {t u : TT} (h : PW X e t) (k : ∀ σ H Q, u σ H Q → t σ H Q) : PW X e u := ⟨fun wh pins s σ H Q I q => h.run wh pins s σ H Q I (k σ H Q q)⟩
theorem dw_one {op : Bool} (h : DT X E a fa) : DW X E (.BoolOp (if op then .And else .Or) [a] pos) fa := by
  cases op with
  | true => exact ⟨pw_and1 h.pt⟩
  | false => exact ⟨pw_or1 h.pt⟩
theorem dw_and1 (h : DT X E a fa) : DW X E (.BoolOp .And [a] pos) fa := ⟨pw_and1 h.pt⟩
theorem dw_or1 (h : DT X E a fa) : DW X E (.BoolOp .Or [a] pos) fa := ⟨pw_or1 h.pt⟩
theorem dw_and (ha : DT X E a fa) (hb : DW X E (.BoolOp .And (b :: rest) pos) fb) : DW X E (.BoolOp .And (a :: b :: rest) pos) (fAnd fa fb) :=
  ⟨PW.weak (pw_and ha.pt hb.pw) fun σ H Q h => both_of h (fun _ z => z) fun _ z => by
    obtain ⟨k, e, q⟩ := tde_c (K := X.K) (E := E) (fun _ => .bl false) z
    cases e
    exact q⟩
theorem dw_or (ha : DT X E a fa) (hb : DW X E (.BoolOp .Or (b :: rest) pos) fb) : DW X E (.BoolOp .Or (a :: b :: rest) pos) (fOr fa fb) :=
  ⟨PW.weak (pw_or ha.pt hb.pw) fun σ H Q h => both_of h (fun _ z => by
    obtain ⟨k, e, q⟩ := tde_c (K := X.K) (E := E) (fun _ => .bl true) z
    cases e
    exact q) fun _ z => z⟩
theorem dt_w {e : Expr} {f : Env → RE} (h : DW X E e f) : DT X E e f := ⟨h.pw.pt⟩
theorem dt_not (ha : DT X E a fa) : DT X E (.UnaryOp .Not a pos) (fNot fa) :=
  ⟨PT.weak (pt_not ha.pt) fun σ H Q h => tde_mono (both_of (Rt := fun H' => Q false H') (Rf := fun H' => Q true H') h
    (fun _ z => by
      obtain ⟨k, e, q⟩ := tde_c (K := X.K) (E := E) (fun _ => .bl false) z
      cases e
      exact q)
    fun _ z => by
      obtain ⟨k, e, q⟩ := tde_c (K := X.K) (E := E) (fun _ => .bl true) z
      cases e
      exact q) fun v H' ⟨c, e, z⟩ => ⟨c, e, by cases c <;> exact z⟩⟩
def fIf (fc fa fb : Env → RE) : Env → RE := fBoth fc fa fb
theorem de_if {c : Expr} {fc : Env → RE} (hc : DT X E c fc) (ha : DE X E a fa) (hb : DE X E b fb) : DE X E (.IfExp c a b pos) (fIf fc fa fb) :=
  ⟨PE.weak (pe_ifExp hc.pt ha.pe hb.pe) fun σ H Q h => both_of h (fun _ z => z) fun _ z => z⟩
end

/-! ### arguments, displays -/
inductive RL where
  | ok (ds : List D) (ρ : Env)
  | err (c : Addr) (d : D)
  | st
def CDA (K : PySem.W.Frag) (E : XK) (τ : Nat → Addr) (A0 : List Addr) (H : Hp) (P : List Addr) (σ : L2.St) (o : RL) (Q : List V → Hp → Prop) : Prop :=
  match o with
  | .ok ds ρ' => ∀ vs H' P', Stp K H P H' P' → SRep K τ A0 H' σ ρ' P' → Rps K (hid (P' ++ A0) H') vs ds → Q vs H'
  | .err c d => ∀ dx v H' P', Stp K H P H' P' → (H dx = none ∧ H' dx = some (.xd [(("value" : Str), v)])) → Rp K (hid (P' ++ A0) H') v d → E (.ref c) (some dx) H'
  | .st => False
def tDA (K : PySem.W.Frag) (E : XK) (f : Env → RL) : TA := fun σ H Q => ∃ τ A0 P ρ, SRep K τ A0 H σ ρ P ∧ CDA K E τ A0 H P σ (f ρ) Q
structure DA (X : Cx) (E : XK) (es : List Expr) (f : Env → RL) : Prop where
  pa : PA X es (tDA X.K E f)
def fNil : Env → RL := fun ρ => .ok [] ρ
def fCons (fa : Env → RE) (fr : Env → RL) : Env → RL := fun ρ => match fa ρ with
  | .ok w ρ1 => (match fr ρ1 with
    | .ok ds ρ2 => .ok (w.d :: ds) ρ2
    | .err c d => .err c d
    | .st => .st)
  | .err c d => .err c d
  | .st => .st
section
variable {X : Cx} {E : XK} {e : Expr} {es : List Expr} {fa : Env → RE} {fr : Env → RL}
theorem da_nil : DA X E [] fNil := ⟨PA.weak pa_nil fun σ H Q ⟨τ, A0, P, ρ, S, c⟩ => c [] H P (Stp.rfl H P) S .nil⟩
theorem da_cons (ha : DE X E e fa) (hr : DA X E es fr) (hs : starEach (e :: es) X.env = (false, eval e X.env) :: starEach es X.env := by rfl) : DA X E (e :: es) (fCons fa fr) := by
  refine ⟨PA.weak (pa_cons ha.pe hr.pa hs) fun σ H Q ⟨τ, A0, P, ρ, S, c⟩ => ⟨τ, A0, P, ρ, S, CDE.toD ?_⟩⟩
  unfold fCons at c
  cases q : fa ρ with
  | ok w ρ1 =>
    rw [q] at c
    intro v H1 P1 t1 S1 r1
    refine ⟨τ, A0, P1, ρ1, S1, ?_⟩
    dsimp only at c
    cases q2 : fr ρ1 with
    | ok ds ρ2 =>
      rw [q2] at c
      exact fun vs H2 P2 t2 S2 r2 => c (v :: vs) H2 P2 (t1.trans t2) S2 (.cons (r1.stp t2) r2)
    | err cc d =>
      rw [q2] at c
      exact fun dx v H2 P2 t2 hx hr => c dx v H2 P2 (t1.trans t2) ⟨t1.al _ hx.1, hx.2⟩ hr
    | st =>
      rw [q2] at c
      exact c
  | err cc d =>
    rw [q] at c
    exact c
  | st =>
    rw [q] at c
    exact c
def bndA (fs : Env → RL) (k : List D → Option W) : Env → RE := fun ρ => match fs ρ with
  | .ok ds ρ1 => resW (k ds) ρ1
  | .err c d => .err c d
  | .st => .st
/-- a call of a built-in, by values -/
def CalR (K : PySem.W.Frag) (r : List V → Hp → VK → Prop) (g : List D → Option W) : Prop := ∀ (A : List Addr) (H : Hp) (xs : List V) (ds : List D) (w : W) (Q : VK), (∀ a ∈ A, H a ≠ none) → Rps K (hid A H) xs ds → g ds = some w → GiveW K A H w Q → r xs H Q
theorem tda_bnd {K : PySem.W.Frag} {σ : L2.St} {H : Hp} {Q : VK} {fs : Env → RL} {k : List D → Option W} {R : List V → Hp → Prop} (h : tDE K E (bndA fs k) σ H Q)
    (hk : ∀ vs H' A ds w, (∀ a ∈ A, H' a ≠ none) → Rps K (hid A H') vs ds → k ds = some w → GiveW K A H' w Q → R vs H') : tDA K E fs σ H R := by
  obtain ⟨τ, A0, P, ρ, S, c⟩ := h
  refine ⟨τ, A0, P, ρ, S, ?_⟩
  unfold bndA at c
  cases q : fs ρ with
  | ok ds ρ1 =>
    rw [q] at c
    intro vs H1 P1 t1 S1 r1
    dsimp only [resW] at c
    cases q2 : k ds with
    | some w =>
      rw [q2] at c
      exact hk vs H1 (P1 ++ A0) ds w S1.tr r1 q2 (giveW S1 (CDE.stp t1 c))
    | none =>
      rw [q2] at c
      exact c.elim
  | err cc d =>
    rw [q] at c
    exact c
  | st =>
    rw [q] at c
    exact c
variable {pos p : Pos}
theorem de_callB {x : Str} {id : String} {r : List V → Hp → VK → Prop} {g : List D → Option W} (hc : CallR X (.builtin id) r) (hr : CalR X.K r g) (hg : Gl X x) (hm : X.mg x = none) (hv : bootBuiltins x = some (.builtin id)) (ha : DA X E (e :: es) fr)
    (hn : x ≠ "__name__" := by decide) (hdb : (x == ("__debug__" : Str)) = false := by decide) (he : starEach (e :: es) X.env = (false, eval e X.env) :: starEach es X.env := by rfl) (hpl : (backTo pos (starEach es X.env)).any (·.1) = false := by rfl) :
    DE X E (.Call (.Name x p) (e :: es) [] pos) (bndA fr g) :=
  ⟨PE.weak (pe_callB hc hg hm hv ha.pa hn hdb he hpl) fun σ H Q h => tda_bnd h fun vs H' A ds w tr r q gw => hr A H' vs ds w Q tr r q gw⟩
theorem de_callTy {x : Str} {T : String} {r : List V → Hp → VK → Prop} {g : List D → Option W} (hc : CallR X (.type T) r) (hr : CalR X.K r g) (hg : Gl X x) (hm : X.mg x = none) (hv : bootBuiltins x = some (.type T)) (ha : DA X E (e :: es) fr)
    (hn : x ≠ "__name__" := by decide) (hdb : (x == ("__debug__" : Str)) = false := by decide) (he : starEach (e :: es) X.env = (false, eval e X.env) :: starEach es X.env := by rfl) (hpl : (backTo pos (starEach es X.env)).any (·.1) = false := by rfl) :
    DE X E (.Call (.Name x p) (e :: es) [] pos) (bndA fr g) :=
  ⟨PE.weak (pe_callTy hc hg hm hv ha.pa hn hdb he hpl) fun σ H Q h => tda_bnd h fun vs H' A ds w tr r q gw => hr A H' vs ds w Q tr r q gw⟩
/-- a new list, a new tuple at p -/
theorem give_lst {K : PySem.W.Frag} {A : List Addr} {H : Hp} {ds : List D} {xs : List V} {Q : VK} (r : Rps K (hid A H) xs ds) (h : GiveW K A H (.frs ds) Q) : ∀ p, H p = none → Q (.ref p) (upd H p (.lst xs)) := fun p hp =>
  h p xs (upd H p (.lst xs)) (Evl.Ex.new hp) hp upd_same (r.ext ((hid_add hp).trans fun a o q => by
    obtain ⟨n, e⟩ := hid_of q
    exact hid_in n (by rw [upd_ne (ne_of_none e hp)]; exact e) (hid_nt q)))
theorem hid_upd {A : List Addr} {H : Hp} {p : Addr} {o : HO} (hp : H p = none) : Ext (hid A H) (hid A (upd H p o)) := fun a u q => by
  obtain ⟨n, e⟩ := hid_of q
  exact hid_in n (by rw [upd_ne (ne_of_none e hp)]; exact e) (hid_nt q)
theorem give_tup {K : PySem.W.Frag} {A : List Addr} {H : Hp} {ds : List D} {xs : List V} {Q : VK} (tr : ∀ a ∈ A, H a ≠ none) (r : Rps K (hid A H) xs ds) (h : GiveW K A H (.pu (.tuple ds)) Q) : ∀ p, H p = none → Q (.ref p) (upd H p (.tup xs)) := fun p hp =>
  h (.ref p) (upd H p (.tup xs)) (Evl.Ex.new hp) (.tup (hid_in (fun z => tr p z hp) upd_same) (r.ext (hid_upd hp)))
theorem give_pu {K : PySem.W.Frag} {A : List Addr} {H : Hp} {d : D} {v : V} {Q : VK} (r : Rp K (hid A H) v d) (h : GiveW K A H (.pu d) Q) : Q v H := h v H (Ext.rfl H) r
theorem de_lst (ha : DA X E es fr) (hz : es.length ≤ 10000 := by decide) : DE X E (.List es pos) (bndA fr fun ds => if ds.length ≤ sizeLine then some (.frs ds) else none) := by
  refine ⟨PE.weak (pe_lst ha.pa) fun σ H Q h => tda_bnd h fun vs H' A ds w tr r q gw => ?_⟩
  by_cases hl : ds.length ≤ sizeLine
  · rw [if_pos hl] at q
    cases q
    exact ⟨by rw [r.length]; exact hl, give_lst r gw⟩
  · rw [if_neg hl] at q
    cases q
theorem de_tup {x1} (ha : DA X E es fr) : DE X E (.Tuple es x1 pos) (bndA fr fun ds => if ds.length ≤ sizeLine then some (.pu (.tuple ds)) else none) := by
  refine ⟨PE.weak (pe_tup ha.pa) fun σ H Q h => tda_bnd h fun vs H' A ds w tr r q gw => ?_⟩
  by_cases hl : ds.length ≤ sizeLine
  · rw [if_pos hl] at q
    cases q
    exact ⟨by rw [r.length]; exact hl, give_tup tr r gw⟩
  · rw [if_neg hl] at q
    cases q
end
end DL
/-! D3: operations by values. -/
namespace DL
open PySem L2 PyProof.Rows

section
variable {K : PySem.W.Frag} {A : List Addr} {H : Hp} {Q : VK}
theorem rp_int {v : V} {i : Int} (h : Rp K H v (.int i)) : v = .int i := by cases h; rfl
theorem rp_str {v : V} {x : Str} (h : Rp K H v (.str x)) : v = .str x := by cases h; rfl
theorem rp_non {v : V} (h : Rp K H v .none) : v = .non := by cases h; rfl
theorem rp_lst {v : V} {ds : List D} (h : Rp K (hid A H) v (.list ds)) : ∃ p xs, v = .ref p ∧ H p = some (.lst xs) ∧ Rps K (hid A H) xs ds := by
  cases h with
  | lst h r => exact ⟨_, _, rfl, (hid_of h).2, r⟩
theorem rp_tup {v : V} {ds : List D} (h : Rp K (hid A H) v (.tuple ds)) : ∃ p xs, v = .ref p ∧ H p = some (.tup xs) ∧ Rps K (hid A H) xs ds := by
  cases h with
  | tup h r => exact ⟨_, _, rfl, (hid_of h).2, r⟩
theorem Op2R.or {r r' : R2} {g g' : D → D → Option W} {g2 : D → D → Option W} (h : Op2R K r g) (h' : Op2R K r' g') (e : ∀ a b w, g2 a b = some w → g a b = some w ∨ g' a b = some w) : Op2R K (fun x y H Q => r x y H Q ∨ r' x y H Q) g2 :=
  fun A H x y d1 d2 w Q tr r1 r2 q gw => (e d1 d2 w q).imp (fun z => h A H x y d1 d2 w Q tr r1 r2 z gw) fun z => h' A H x y d1 d2 w Q tr r1 r2 z gw

/-! ### numbers -/
def g2I (C : Int → Int → Bool) (f : Int → Int → D) : D → D → Option W
  | .int i, .int j => if C i j then some (.pu (f i j)) else none
  | _, _ => none
theorem g2I_eq {C : Int → Int → Bool} {f : Int → Int → D} {a b : D} {w : W} (h : g2I C f a b = some w) : ∃ i j, a = .int i ∧ b = .int j ∧ C i j = true ∧ w = .pu (f i j) := by
  unfold g2I at h
  split at h
  · rename_i i j
    by_cases c : C i j = true
    · rw [if_pos c] at h
      exact ⟨i, j, rfl, rfl, c, (Option.some.inj h).symm⟩
    · rw [if_neg c] at h
      cases h
  · cases h
theorem op2_I {C : Int → Int → Prop} {Cb : Int → Int → Bool} {g : Int → Int → V} {f : Int → Int → D} (hC : ∀ i j, Cb i j = true → C i j) (hf : ∀ i j H, Rp K H (g i j) (f i j)) : Op2R K (rI C g) (g2I Cb f) := fun A H x y d1 d2 w Q tr r1 r2 q gw => by
  obtain ⟨i, j, rfl, rfl, c, rfl⟩ := g2I_eq q
  exact ⟨i, j, rp_int r1, rp_int r2, hC i j c, give_pu (hf i j _) gw⟩
theorem op2_I0 {g : Int → Int → V} {f : Int → Int → D} (hf : ∀ i j H, Rp K H (g i j) (f i j)) : Op2R K (rI0 g) (g2I (fun _ _ => true) f) := fun A H x y d1 d2 w Q tr r1 r2 q gw => by
  obtain ⟨i, j, rfl, rfl, c, rfl⟩ := g2I_eq q
  exact ⟨i, j, rp_int r1, rp_int r2, give_pu (hf i j _) gw⟩
def gCat : D → D → Option W
  | .list a, .list b => if a.length + b.length ≤ sizeLine then some (.frs (a ++ b)) else none
  | _, _ => none
theorem op2_cat : Op2R K rCat gCat := fun A H x y d1 d2 w Q tr r1 r2 q gw => by
  unfold gCat at q
  split at q
  · rename_i a b
    obtain ⟨p, xs, rfl, h1, s1⟩ := rp_lst r1
    obtain ⟨p2, ys, rfl, h2, s2⟩ := rp_lst r2
    by_cases c : a.length + b.length ≤ sizeLine
    · rw [if_pos c] at q
      cases q
      exact ⟨p, p2, xs, ys, rfl, rfl, h1, h2, by rw [s1.length, s2.length]; exact c, give_lst (s1.app s2) gw⟩
    · rw [if_neg c] at q
      cases q
  · cases q
def gCatS : D → D → Option W
  | .str a, .str b => if a.length + b.length ≤ sizeLine then some (.pu (.str (a ++ b))) else none
  | _, _ => none
theorem op2_catS : Op2R K (fun x y H Q => ∃ i j, x = .str i ∧ y = .str j ∧ i.length + j.length ≤ sizeLine ∧ Q (.str (i ++ j)) H) gCatS := fun A H x y d1 d2 w Q tr r1 r2 q gw => by
  unfold gCatS at q
  split at q
  · rename_i a b
    by_cases c : a.length + b.length ≤ sizeLine
    · rw [if_pos c] at q
      cases q
      exact ⟨a, b, rp_str r1, rp_str r2, c, give_pu (.str _) gw⟩
    · rw [if_neg c] at q
      cases q
  · cases q
/-- + -/
def gAdd : D → D → Option W
  | .int i, .int j => some (.pu (.int (i + j)))
  | .list a, .list b => if a.length + b.length ≤ sizeLine then some (.frs (a ++ b)) else none
  | .str a, .str b => if a.length + b.length ≤ sizeLine then some (.pu (.str (a ++ b))) else none
  | _, _ => none
def rAddAll : R2 := fun x y H Q => rI0 (fun i j => .int (i + j)) x y H Q ∨ (rCat x y H Q ∨ (fun x y H Q => ∃ i j, x = V.str i ∧ y = V.str j ∧ i.length + j.length ≤ sizeLine ∧ Q (.str (i ++ j)) H) x y H Q)
theorem op2_add : Op2R K rAddAll gAdd := Op2R.or (op2_I0 (f := fun i j => .int (i + j)) fun i j H => .int _) (Op2R.or (g2 := fun a b => (gCat a b).or (gCatS a b)) op2_cat op2_catS fun a b w h => by
  cases q : gCat a b with
  | some u => rw [q] at h; exact .inl h
  | none => rw [q] at h; exact .inr h) fun a b w h => by
  unfold gAdd at h
  split at h
  · exact .inl h
  · rename_i a b
    refine .inr ?_
    show (gCat (.list a) (.list b)).or (gCatS (.list a) (.list b)) = some w
    unfold gCat
    dsimp only
    rw [h]
    rfl
  · refine .inr ?_
    show (none : Option W).or _ = some w
    exact h
  · cases h
/-- * -/
def cMul (i j : Int) : Bool := decide (i.natAbs < 2 ^ 64) || decide (j.natAbs < 2 ^ 64) || decide (i.natAbs.log2 + j.natAbs.log2 < 1000000)
theorem cMul_ok {i j : Int} (h : cMul i j = true) : IntMulOk i j := by
  unfold cMul at h
  simp only [Bool.or_eq_true, decide_eq_true_eq] at h
  rcases h with (h | h) | h
  · exact CMul.ok (.inl ⟨by omega, by omega⟩)
  · exact CMul.ok (.inr ⟨by omega, by omega⟩)
  · exact CMulW.ok h
def gMul : D → D → Option W
  | .int i, .int j => if cMul i j then some (.pu (.int (i * j))) else none
  | .list a, .int k => if k < 2 ^ 63 ∧ -(2 ^ 63) ≤ k ∧ a.length * k.toNat ≤ sizeLine then some (.frs (List.replicate k.toNat a).flatten) else none
  | _, _ => none
theorem Rps.flat {xs : List V} {ds : List D} (h : Rps K H xs ds) : ∀ n : Nat, Rps K H (List.replicate n xs).flatten (List.replicate n ds).flatten
  | 0 => .nil
  | n + 1 => by
    rw [List.replicate_succ, List.replicate_succ, List.flatten_cons, List.flatten_cons]
    exact h.app (Rps.flat h n)
theorem op2_mulI : Op2R K (rI IntMulOk fun i j => .int (i * j)) (g2I cMul fun i j => .int (i * j)) := op2_I (fun _ _ => cMul_ok) fun _ _ _ => .int _
theorem op2_rep : Op2R K rRep (fun d1 d2 => match d1, d2 with | .list a, .int k => gMul (.list a) (.int k) | _, _ => none) := fun A H x y d1 d2 w Q tr r1 r2 q gw => by
  dsimp only at q
  split at q
  · rename_i a k
    obtain ⟨p, xs, rfl, h1, s1⟩ := rp_lst r1
    unfold gMul at q
    dsimp only at q
    by_cases c : k < 2 ^ 63 ∧ -(2 ^ 63) ≤ k ∧ a.length * k.toNat ≤ sizeLine
    · rw [if_pos c] at q
      cases q
      exact ⟨p, k, xs, rfl, rp_int r2, h1, c.2.1, c.1, by rw [s1.length]; exact c.2.2, give_lst (s1.flat _) gw⟩
    · rw [if_neg c] at q
      cases q
  · cases q
theorem op2_mul : Op2R K (fun x y H Q => rI IntMulOk (fun i j => .int (i * j)) x y H Q ∨ rRep x y H Q) gMul := Op2R.or op2_mulI op2_rep fun a b w h => by
  unfold gMul at h
  split at h
  · exact .inl h
  · exact .inr h
  · cases h
/-- // -/
def cDiv (i j : Int) : Bool := (decide (j ≠ 0) && decide (j.natAbs < 1073741824)) || (decide (0 < j) && decide (j.natAbs.log2 < 9000))
def gDiv : D → D → Option W := g2I cDiv fun i j => .int (i.fdiv j)
def gMod : D → D → Option W := g2I (fun _ j => decide (j ≠ 0)) fun i j => .int (i.fmod j)
def gSub : D → D → Option W := g2I (fun _ _ => true) fun i j => .int (i - j)
def cPow (i j : Int) : Bool := decide (0 ≤ j) && decide ((Builtin.Int.intBits i : Int) * j ≤ 2 ^ 27)
def gPow : D → D → Option W := g2I cPow fun i j => .int (i ^ j.toNat)
def gLt : D → D → Option W := g2I (fun _ _ => true) fun i j => .bool (decide (i < j))
def gLe : D → D → Option W := g2I (fun _ _ => true) fun i j => .bool (decide (i ≤ j))
def gGt : D → D → Option W := g2I (fun _ _ => true) fun i j => .bool (decide (j < i))
def gGe : D → D → Option W := g2I (fun _ _ => true) fun i j => .bool (decide (j ≤ i))
def gNeg : D → Option W
  | .int i => some (.pu (.int (-i)))
  | _ => none

/-! ### equality -/
mutual
theorem Rp.dp : ∀ {v : V} {d : D}, Rp K H v d → d.canLay0 = true → Dp K H v d
  | _, _, .non, _ => .non
  | _, _, .bl b, _ => .bl b
  | _, _, .int i, _ => .int i
  | _, _, .str x, _ => .str x
  | _, _, .lst h r, e => .lst (.inl (.inl h)) (Rps.dp r (by simpa [PyData.canLay0] using e))
  | _, _, .tup h r, e => .tup (.inl (.inl h)) (Rps.dp r (by simpa [PyData.canLay0] using e))
  | _, _, .emp h, e => by simp [PyData.canLay0] at e
theorem Rps.dp : ∀ {vs : List V} {ds : List D}, Rps K H vs ds → PyData.canLayAll0 ds = true → DpAll K H vs ds
  | _, _, .nil, _ => .nil
  | _, _, .cons h r, e => by
    simp only [PyData.canLayAll0, Bool.and_eq_true] at e
    exact .cons (Rp.dp h e.1) (Rps.dp r e.2)
end
def gEq0 (d e : D) : Option W := if SeqAt.shaped d && SeqAt.shaped e then some (.pu (.bool (PyData.eqv d e))) else none
def gNe0 (d e : D) : Option W := if SeqAt.shaped d && SeqAt.shaped e then some (.pu (.bool (!PyData.eqv d e))) else none
theorem op2_eq0 : Op2R K (rEqD K) gEq0 := fun A H x y d1 d2 w Q tr r1 r2 q gw => by
  unfold gEq0 at q
  by_cases c : (SeqAt.shaped d1 && SeqAt.shaped d2) = true
  · rw [if_pos c] at q
    cases q
    have c2 := Bool.and_eq_true_iff.mp c
    exact ⟨d1, d2, (r1.ext hid_ext).dp (SeqAt.canLay_of_shaped c2.1), (r2.ext hid_ext).dp (SeqAt.canLay_of_shaped c2.2), c2.1, c2.2, give_pu (.bl _) gw⟩
  · rw [if_neg c] at q
    cases q
theorem op2_ne0 : Op2R K (rNeD K) gNe0 := fun A H x y d1 d2 w Q tr r1 r2 q gw => by
  unfold gNe0 at q
  by_cases c : (SeqAt.shaped d1 && SeqAt.shaped d2) = true
  · rw [if_pos c] at q
    cases q
    have c2 := Bool.and_eq_true_iff.mp c
    exact ⟨d1, d2, (r1.ext hid_ext).dp (SeqAt.canLay_of_shaped c2.1), (r2.ext hid_ext).dp (SeqAt.canLay_of_shaped c2.2), c2.1, c2.2, give_pu (.bl _) gw⟩
  · rw [if_neg c] at q
    cases q

def gEq : D → D → Option W
  | .str a, .str b => some (.pu (.bool (decide (a = b))))
  | d, e => gEq0 d e
def gNe : D → D → Option W
  | .str a, .str b => some (.pu (.bool (!decide (a = b))))
  | d, e => gNe0 d e
theorem dec_str {a b : Str} : decide (V.str a = V.str b) = decide (a = b) := by
  by_cases h : a = b
  · rw [decide_eq_true h, decide_eq_true (congrArg V.str h)]
  · rw [decide_eq_false h, decide_eq_false fun z => h (V.str.inj z)]
theorem op2_eq : Op2R K (fun x y H Q => rEqD K x y H Q ∨ rEq x y H Q) gEq := fun A H x y d1 d2 w Q tr r1 r2 q gw => by
  unfold gEq at q
  split at q
  · cases q
    rw [rp_str r1, rp_str r2]
    exact .inr ⟨rfl, by rw [dec_str]; exact give_pu (.bl _) gw⟩
  · exact .inl (op2_eq0 A H x y d1 d2 w Q tr r1 r2 q gw)
theorem op2_ne : Op2R K (fun x y H Q => rNeD K x y H Q ∨ rNe x y H Q) gNe := fun A H x y d1 d2 w Q tr r1 r2 q gw => by
  unfold gNe at q
  split at q
  · cases q
    rw [rp_str r1, rp_str r2]
    exact .inr ⟨rfl, by rw [dec_str]; exact give_pu (.bl _) gw⟩
  · exact .inl (op2_ne0 A H x y d1 d2 w Q tr r1 r2 q gw)

/-! ### is None, is True -/
def isNone : D → Bool
  | .none => true
  | _ => false
theorem rp_isNone {v : V} {d : D} (h : Rp K H v d) : decide (v = .non) = isNone d := by
  cases h <;> rfl
/-- values that data stand for -/
def rpK : V → Bool
  | .non => true
  | .bl _ => true
  | .int _ => true
  | .str _ => true
  | .ref _ => true
  | _ => false
theorem rp_k {v : V} {d : D} (h : Rp K H v d) : rpK v = true := by
  cases h <;> rfl
def isBl (b : Bool) : D → Bool
  | .bool a => decide (a = b)
  | _ => false
theorem rp_isBl {v : V} {d : D} {b : Bool} (h : Rp K H v d) : decide (v = .bl b) = isBl b d := by
  cases h <;> simp [isBl]
def rIsBl : R2 := fun x y H Q => ∃ b : Bool, y = .bl b ∧ rpK x = true ∧ Q (.bl (decide (x = .bl b))) H
def rNotBl : R2 := fun x y H Q => ∃ b : Bool, y = .bl b ∧ rpK x = true ∧ Q (.bl (!decide (x = .bl b))) H
theorem op_isBlA {X : Cx} : OpR X (compareOp .Is) rIsBl := by
  intro pins s σ H x y v u Q I rx ry h
  obtain ⟨b, rfl, k, q⟩ := h
  cases (show u = Value.bool b from ry)
  have other : v ≠ .bool b → decide (x = .bl b) = false → plainIs v (.bool b) = true → wpAny (model X.prog X.w) X.A (compareOp .Is v (.bool b)) (EP X pins σ Q) X.xe s := fun n e p => wpAny_is_other p n ⟨.bl false, H, I, rfl, by rw [e] at q; exact q⟩
  cases x with
  | non => cases rx; exact other (fun z => nomatch z) (by simp) rfl
  | bl a =>
    cases (show v = Value.bool a from rx)
    by_cases e : a = b
    · subst e
      exact wpAny_is_self rfl ⟨.bl true, H, I, rfl, by simpa using q⟩
    · exact other (fun z => e (Value.bool.inj z)) (by simp [e]) rfl
  | int i =>
    obtain ⟨t, rfl⟩ := rx
    exact other (fun z => nomatch z) (by simp) rfl
  | str i =>
    obtain ⟨t, rfl⟩ := rx
    exact other (fun z => nomatch z) (by simp) rfl
  | ref a => cases rx; exact other (fun z => nomatch z) (by simp) rfl
  | _ => cases k
theorem op_notBlA {X : Cx} : OpR X (compareOp .IsNot) rNotBl := by
  intro pins s σ H x y v u Q I rx ry h
  obtain ⟨b, rfl, k, q⟩ := h
  cases (show u = Value.bool b from ry)
  have other : v ≠ .bool b → decide (x = .bl b) = false → plainIs v (.bool b) = true → wpAny (model X.prog X.w) X.A (compareOp .IsNot v (.bool b)) (EP X pins σ Q) X.xe s := fun n e p => wpAny_isNot_other p n ⟨.bl true, H, I, rfl, by rw [e] at q; exact q⟩
  cases x with
  | non => cases rx; exact other (fun z => nomatch z) (by simp) rfl
  | bl a =>
    cases (show v = Value.bool a from rx)
    by_cases e : a = b
    · subst e
      exact wpAny_isNot_self rfl ⟨.bl false, H, I, rfl, by simpa using q⟩
    · exact other (fun z => e (Value.bool.inj z)) (by simp [e]) rfl
  | int i =>
    obtain ⟨t, rfl⟩ := rx
    exact other (fun z => nomatch z) (by simp) rfl
  | str i =>
    obtain ⟨t, rfl⟩ := rx
    exact other (fun z => nomatch z) (by simp) rfl
  | ref a => cases rx; exact other (fun z => nomatch z) (by simp) rfl
  | _ => cases k
def gIsN : D → D → Option W
  | d, .none => some (.pu (.bool (isNone d)))
  | d, .bool b => some (.pu (.bool (isBl b d)))
  | _, _ => none
def gNotN : D → D → Option W
  | d, .none => some (.pu (.bool (!isNone d)))
  | d, .bool b => some (.pu (.bool (!isBl b d)))
  | _, _ => none
theorem op2_is : Op2R K (fun x y H Q => (y = .non ∧ Q (.bl (decide (x = .non))) H) ∨ rIsBl x y H Q) gIsN := fun A H x y d1 d2 w Q tr r1 r2 q gw => by
  unfold gIsN at q
  split at q
  · cases q
    exact .inl ⟨rp_non r2, by rw [rp_isNone r1]; exact give_pu (.bl _) gw⟩
  · cases q
    exact .inr ⟨_, rp_bool r2, rp_k r1, by rw [rp_isBl r1]; exact give_pu (.bl _) gw⟩
  · cases q
theorem op2_not : Op2R K (fun x y H Q => (y = .non ∧ Q (.bl (!decide (x = .non))) H) ∨ rNotBl x y H Q) gNotN := fun A H x y d1 d2 w Q tr r1 r2 q gw => by
  unfold gNotN at q
  split at q
  · cases q
    exact .inl ⟨rp_non r2, by rw [rp_isNone r1]; exact give_pu (.bl _) gw⟩
  · cases q
    exact .inr ⟨_, rp_bool r2, rp_k r1, by rw [rp_isBl r1]; exact give_pu (.bl _) gw⟩
  · cases q

/-! ### items -/
def gIx : D → D → Option W
  | .list ds, .int i => (atI ds i).map .pu
  | .tuple ds, .int i => (atI ds i).map .pu
  | .str z, .int i => if z.length ≤ sizeLine then (atI z.cps.toList i).map fun c => .pu (.str ⟨#[c]⟩) else none
  | _, _ => none
theorem atI_rps {xs : List V} {ds : List D} (h : Rps K H xs ds) {i : Int} {d : D} (e : atI ds i = some d) : ∃ v, atI xs i = some v ∧ Rp K H v d := by
  unfold atI at e ⊢
  rw [h.length]
  cases q : ixN ds.length i with
  | none => rw [q] at e; cases e
  | some j =>
    rw [q] at e
    exact h.get (i := j) e
theorem op2_ix : Op2R K (rIx K) gIx := fun A H x y d1 d2 w Q tr r1 r2 q gw => by
  unfold gIx at q
  split at q
  · rename_i ds i
    obtain ⟨p, xs, rfl, h1, s1⟩ := rp_lst r1
    cases e : atI ds i with
    | none => rw [e] at q; cases q
    | some d =>
      rw [e] at q
      cases q
      obtain ⟨v, h2, h3⟩ := atI_rps s1 e
      exact .inl ⟨p, xs, i, v, rfl, rp_int r2, .inl (.inl h1), h2, give_pu h3 gw⟩
  · rename_i ds i
    obtain ⟨p, xs, rfl, h1, s1⟩ := rp_tup r1
    cases e : atI ds i with
    | none => rw [e] at q; cases q
    | some d =>
      rw [e] at q
      cases q
      obtain ⟨v, h2, h3⟩ := atI_rps s1 e
      exact .inr (.inl ⟨p, xs, i, v, rfl, rp_int r2, .inl (.inl h1), h2, give_pu h3 gw⟩)
  · rename_i z i
    by_cases c : z.length ≤ sizeLine
    · rw [if_pos c] at q
      cases e : atI z.cps.toList i with
      | none => rw [e] at q; cases q
      | some d =>
        rw [e] at q
        cases q
        exact .inr (.inr ⟨z, i, d, rp_str r1, rp_int r2, c, e, give_pu (.str _) gw⟩)
    · rw [if_neg c] at q
      cases q
  · cases q

/-! ### built-ins -/
def gLen : List D → Option W
  | [.list ds] => some (.pu (.int ds.length))
  | [.tuple ds] => some (.pu (.int ds.length))
  | [.str x] => if x.length ≤ sizeLine then some (.pu (.int x.length)) else none
  | _ => none
theorem rps_one {vs : List V} {d : D} (h : Rps K H vs [d]) : ∃ v, vs = [v] ∧ Rp K H v d := by
  cases h with
  | cons h r => cases r; exact ⟨_, rfl, h⟩
theorem rps_two {vs : List V} {d e : D} (h : Rps K H vs [d, e]) : ∃ v u, vs = [v, u] ∧ Rp K H v d ∧ Rp K H u e := by
  cases h with
  | cons h r =>
    obtain ⟨u, rfl, q⟩ := rps_one r
    exact ⟨_, _, rfl, h, q⟩
theorem cal_len : CalR K (fun xs H Q => ∃ x n, xs = [x] ∧ LenV K x H n ∧ Q (.int n) H) gLen := fun A H xs ds w Q tr r q gw => by
  unfold gLen at q
  split at q
  · obtain ⟨v, rfl, h⟩ := rps_one r
    obtain ⟨p, ys, rfl, h1, s1⟩ := rp_lst h
    cases q
    exact ⟨_, _, rfl, .inl ⟨ys, .inl (.inl h1), s1.length.symm⟩, give_pu (.int _) gw⟩
  · obtain ⟨v, rfl, h⟩ := rps_one r
    obtain ⟨p, ys, rfl, h1, s1⟩ := rp_tup h
    cases q
    exact ⟨_, _, rfl, .inr ⟨ys, .inl (.inl h1), s1.length.symm⟩, give_pu (.int _) gw⟩
  · rename_i x
    by_cases c : x.length ≤ sizeLine
    · rw [if_pos c] at q
      cases q
      obtain ⟨v, rfl, h⟩ := rps_one r
      rw [rp_str h]
      exact ⟨_, _, rfl, ⟨c, rfl⟩, give_pu (.int _) gw⟩
    · rw [if_neg c] at q
      cases q
  · cases q
def intsOf : List D → Option (List Int)
  | [] => some []
  | .int i :: r => (intsOf r).map (i :: ·)
  | _ :: _ => none
theorem rps_ints : ∀ {vs : List V} {ds : List D} {ns : List Int}, Rps K H vs ds → intsOf ds = some ns → vs = ns.map V.int
  | _, [], _, h, e => by
    cases h
    cases e
    rfl
  | _, .int i :: ds, ns, h, e => by
    cases h with
    | cons h r =>
      rw [rp_int h]
      unfold intsOf at e
      cases q : intsOf ds with
      | none => rw [q] at e; cases e
      | some ms =>
        rw [q] at e
        cases e
        rw [rps_ints r q]
        rfl
  | _, .none :: _, _, _, e => by cases e
  | _, .bool _ :: _, _, _, e => by cases e
  | _, .str _ :: _, _, _, e => by cases e
  | _, .list _ :: _, _, _, e => by cases e
  | _, .tuple _ :: _, _, _, e => by cases e
  | _, .dict _ :: _, _, _, e => by cases e
def gSum : List D → Option W
  | [.list ds] => (intsOf ds).map fun ns => .pu (.int ns.sum)
  | _ => none
theorem cal_sum : CalR K (rSum K) gSum := fun A H xs ds w Q tr r q gw => by
  unfold gSum at q
  split at q
  · rename_i ds
    obtain ⟨v, rfl, h⟩ := rps_one r
    obtain ⟨p, ys, rfl, h1, s1⟩ := rp_lst h
    cases e : intsOf ds with
    | none => rw [e] at q; cases q
    | some ns =>
      rw [e] at q
      cases q
      rw [rps_ints s1 e] at h1
      exact ⟨p, ns, rfl, .inl (.inl h1), give_pu (.int _) gw⟩
  · cases q
def gMax2 : List D → Option W
  | [.int i, .int j] => some (.pu (.int (if j > i then j else i)))
  | _ => none
def gMin2 : List D → Option W
  | [.int i, .int j] => some (.pu (.int (if j < i then j else i)))
  | _ => none
theorem cal_max2 : CalR K (fun xs H Q => ∃ i j, xs = [.int i, .int j] ∧ Q (.int (if j > i then j else i)) H) gMax2 := fun A H xs ds w Q tr r q gw => by
  unfold gMax2 at q
  split at q
  · obtain ⟨v, u, rfl, h1, h2⟩ := rps_two r
    cases q
    rw [rp_int h1, rp_int h2]
    exact ⟨_, _, rfl, give_pu (.int _) gw⟩
  · cases q
theorem cal_min2 : CalR K (fun xs H Q => ∃ i j, xs = [.int i, .int j] ∧ Q (.int (if j < i then j else i)) H) gMin2 := fun A H xs ds w Q tr r q gw => by
  unfold gMin2 at q
  split at q
  · obtain ⟨v, u, rfl, h1, h2⟩ := rps_two r
    cases q
    rw [rp_int h1, rp_int h2]
    exact ⟨_, _, rfl, give_pu (.int _) gw⟩
  · cases q
def gInt1 : List D → Option W
  | [.int i] => some (.pu (.int i))
  | [.bool b] => some (.pu (.int (if b then 1 else 0)))
  | _ => none
theorem cal_int1 : CalR K (fun xs H Q => (∃ i, xs = [.int i] ∧ Q (.int i) H) ∨ ∃ k, xs = [.bl k] ∧ Q (.int (if k then 1 else 0)) H) gInt1 := fun A H xs ds w Q tr r q gw => by
  unfold gInt1 at q
  split at q
  · obtain ⟨v, rfl, h⟩ := rps_one r
    cases q
    rw [rp_int h]
    exact .inl ⟨_, rfl, give_pu (.int _) gw⟩
  · obtain ⟨v, rfl, h⟩ := rps_one r
    cases q
    rw [rp_bool h]
    exact .inr ⟨_, rfl, give_pu (.int _) gw⟩
  · cases q
def gAbs : List D → Option W
  | [.int i] => some (.pu (.int (if i < 0 then -i else i)))
  | _ => none
theorem cal_abs : CalR K (fun xs H Q => ∃ i, xs = [.int i] ∧ Q (.int (if i < 0 then -i else i)) H) gAbs := fun A H xs ds w Q tr r q gw => by
  unfold gAbs at q
  split at q
  · obtain ⟨v, rfl, h⟩ := rps_one r
    cases q
    rw [rp_int h]
    exact ⟨_, rfl, give_pu (.int _) gw⟩
  · cases q
def gListOf : List D → Option W
  | [.list ds] => some (.frs ds)
  | [.tuple ds] => some (.frs ds)
  | _ => none
theorem cal_list : CalR K (fun xs H Q => ∃ p ys, xs = [.ref p] ∧ (SqL K H p ys ∨ SqT K H p ys) ∧ ∀ l, H l = none → Q (.ref l) (upd H l (.lst ys))) gListOf := fun A H xs ds w Q tr r q gw => by
  unfold gListOf at q
  split at q
  · obtain ⟨v, rfl, h⟩ := rps_one r
    obtain ⟨p, ys, rfl, h1, s1⟩ := rp_lst h
    cases q
    exact ⟨p, ys, rfl, .inl (.inl (.inl h1)), give_lst s1 gw⟩
  · obtain ⟨v, rfl, h⟩ := rps_one r
    obtain ⟨p, ys, rfl, h1, s1⟩ := rp_tup h
    cases q
    exact ⟨p, ys, rfl, .inr (.inl (.inl h1)), give_lst s1 gw⟩
  · cases q
def gTupleOf : List D → Option W
  | [.list ds] => some (.pu (.tuple ds))
  | [.tuple ds] => some (.pu (.tuple ds))
  | _ => none
theorem cal_tuple : CalR K (fun xs H Q => ∃ p ys, xs = [.ref p] ∧ ((SqL K H p ys ∧ ∀ l, H l = none → Q (.ref l) (upd H l (.tup ys))) ∨ (SqT K H p ys ∧ Q (.ref p) H))) gTupleOf := fun A H xs ds w Q tr r q gw => by
  unfold gTupleOf at q
  split at q
  · obtain ⟨v, rfl, h⟩ := rps_one r
    obtain ⟨p, ys, rfl, h1, s1⟩ := rp_lst h
    cases q
    exact ⟨p, ys, rfl, .inl ⟨.inl (.inl h1), give_tup tr s1 gw⟩⟩
  · obtain ⟨v, rfl, h⟩ := rps_one r
    obtain ⟨p, ys, e, h1, s1⟩ := rp_tup h
    subst e
    cases q
    exact ⟨p, ys, rfl, .inr ⟨.inl (.inl h1), give_pu h gw⟩⟩
  · cases q
end

/-! ### isinstance -/
def tyName : D → String
  | .none => "NoneType"
  | .bool _ => "bool"
  | .int _ => "int"
  | .str _ => "str"
  | .list _ => "list"
  | .tuple _ => "tuple"
  | .dict _ => "dict"
def isN (n t : String) : Bool := (t == n) || (n == "int" && t == "bool")
def isA (n : String) (d : D) : Bool := isN n (tyName d)
def tyOk (n : String) : Bool := n == "int" || n == "bool" || n == "str" || n == "list" || n == "tuple"
theorem kit_tab : ∀ n ∈ ["int", "bool", "str", "list", "tuple"], ∀ t ∈ ["NoneType", "bool", "int", "str", "list", "tuple", "dict"], kitB t n = some (isN n t) := by decide +kernel
theorem kit_isA {K : PySem.W.Frag} {n : String} (h : tyOk n = true) (d : D) : PySem.W.kitOne K (.type (tyName d)) (.type n) = some (isA n d) := by
  unfold tyOk at h
  simp only [Bool.or_eq_true, beq_iff_eq] at h
  refine kit_ty (kit_tab n ?_ (tyName d) ?_)
  · rcases h with (((h | h) | h) | h) | h <;> rw [h] <;> simp
  · cases d <;> simp [tyName]
def dOk : D → Bool
  | .dict (_ :: _) => false
  | _ => true
theorem rp_ty {K : PySem.W.Frag} {A : List Addr} {H : Hp} {v : V} {d : D} (h : Rp K (hid A H) v d) (ok : dOk d = true) : TyX K H v (.type (tyName d)) := by
  cases h with
  | non => exact .base .non
  | bl b => exact .base (.bl b)
  | int i => exact .base (.int i)
  | str x => exact .base (.str x)
  | lst h r => exact .base (.lst (hid_of h).2)
  | tup h r => exact .base (.tup (hid_of h).2)
  | emp h => exact .base (.dK (hid_of h).2)
  | exc h1 h2 r => cases ok
  | fn => cases ok
def gIsi (n : String) (d : D) : Option W := if dOk d then some (.pu (.bool (isA n d))) else none
def gIsi2 (n m : String) (d : D) : Option W := if dOk d then some (.pu (.bool (isA n d || isA m d))) else none
section
variable {X : Cx} {E : XK} {e : Expr} {fa : Env → RE} {pos p p2 : Pos}
/-- isinstance(e, T), T a built-in type by its name -/
theorem de_isi {n : Str} {T : String} (hT : tyOk T = true) (hg : Gl X "isinstance") (hm : X.mg "isinstance" = none) (hgT : Gl X n) (hmT : X.mg n = none) (hvT : bootBuiltins n = some (.type T)) (ha : DE X E e fa)
    (hn : n ≠ "__name__" := by decide) (hdT : (n == ("__debug__" : Str)) = false := by decide) (he : starEach [e, .Name n p2] X.env = (false, eval e X.env) :: starEach [.Name n p2] X.env := by rfl) (he2 : starEach [.Name n p2] X.env = (false, eval (.Name n p2) X.env) :: starEach [] X.env := by rfl)
    (hpl : (backTo pos (starEach [.Name n p2] X.env)).any (·.1) = false := by rfl) :
    DE X E (.Call (.Name "isinstance" p) [e, .Name n p2] [] pos) (fOp1 (gIsi T) fa) := by
  refine ⟨PE.weak (pe_callB call_isi hg hm (by decide +kernel) (pa_cons ha.pe (pa_cons (pe_bltn hgT hmT hvT (v := .ty T) rfl hn hdT) pa_nil he2) he) (by decide) (by decide) he hpl) fun σ H Q h => ?_⟩
  refine tde_bnd h fun v H' τ A0 P' ρ' d S r c => ?_
  by_cases ok : dOk d = true
  · unfold gIsi at c
    rw [if_pos ok] at c
    exact ⟨v, .ty T, _, _, _, rfl, .ty T, rp_ty r ok, kit_isA hT d, give_pu (.bl _) (giveW S c)⟩
  · unfold gIsi at c
    rw [if_neg ok] at c
    exact c.elim
/-- isinstance(e, (T1, T2)) -/
theorem de_isi2 {n1 n2 : Str} {T1 T2 : String} {k : Nat} {p3 p4 : Pos} (hT1 : tyOk T1 = true) (hT2 : tyOk T2 = true) (hg : Gl X "isinstance") (hm : X.mg "isinstance" = none) (hg1 : Gl X n1) (hm1 : X.mg n1 = none) (hv1 : bootBuiltins n1 = some (.type T1)) (hg2 : Gl X n2) (hm2 : X.mg n2 = none) (hv2 : bootBuiltins n2 = some (.type T2)) (ha : DE X E e fa)
    (hn1 : n1 ≠ "__name__" := by decide) (hd1 : (n1 == ("__debug__" : Str)) = false := by decide) (hn2 : n2 ≠ "__name__" := by decide) (hd2 : (n2 == ("__debug__" : Str)) = false := by decide)
    (he : starEach [e, .Tuple [.Name n1 p2, .Name n2 p3] k p4] X.env = (false, eval e X.env) :: starEach [.Tuple [.Name n1 p2, .Name n2 p3] k p4] X.env := by rfl)
    (hpl : (backTo pos (starEach [.Tuple [.Name n1 p2, .Name n2 p3] k p4] X.env)).any (·.1) = false := by rfl) :
    DE X E (.Call (.Name "isinstance" p) [e, .Tuple [.Name n1 p2, .Name n2 p3] k p4] [] pos) (fOp1 (gIsi2 T1 T2) fa) := by
  refine ⟨PE.weak (pe_callB call_isiT hg hm (by decide +kernel) (pa_cons ha.pe (pa_cons (pe_tup (pa_cons (pe_bltn hg1 hm1 hv1 (v := .ty T1) rfl hn1 hd1) (pa_cons (pe_bltn hg2 hm2 hv2 (v := .ty T2) rfl hn2 hd2) pa_nil))) pa_nil) he) (by decide) (by decide) he hpl) fun σ H Q h => ?_⟩
  refine tde_bnd h fun v H' τ A0 P' ρ' d S r c => ?_
  unfold gIsi2 at c
  by_cases ok : dOk d = true
  rotate_left
  · rw [if_neg ok] at c
    exact c.elim
  rw [if_pos ok] at c
  refine ⟨by show 2 ≤ sizeLine; decide, fun tp ht => ?_⟩
  refine ⟨v, tp, [.ty T1, .ty T2], _, [.type T1, .type T2], _, rfl, upd_same, .cons (.ty T1) (.cons (.ty T2) .nil), rp_ty (A := P' ++ A0) (r.ext (hid_upd ht)) ok, kitAny_cons (kit_isA hT1 d) (b := isA T1 d) (r := isA T1 d || isA T2 d) (fun e1 => ?_) (fun e1 => by rw [e1]; rfl), ?_⟩
  · rw [e1, Bool.false_or]
    exact kitAny_cons (kit_isA hT2 d) (fun e2 => by rw [e2]; exact kitAny_nil) fun e2 => e2
  · have g : GiveW X.K (P' ++ A0) H' (.pu (.bool (isA T1 d || isA T2 d))) Q := giveW S c
    exact g _ _ (Evl.Ex.new ht) (.bl _)
end
section
variable {X : Cx}
theorem op_addAll : OpR X (binaryOp .Add) rAddAll := op_add.or (op_cat.or op_add_str)
theorem op_mulOk : OpR X (binaryOp .Mult) (rI IntMulOk fun i j => .int (i * j)) := opI fun _ _ _ _ _ _ _ hc q => mul_int q hc
theorem op_mulAll : OpR X (binaryOp .Mult) (fun x y H Q => rI IntMulOk (fun i j => .int (i * j)) x y H Q ∨ rRep x y H Q) := op_mulOk.or op_rep
theorem op_divAll : OpR X (binaryOp .FloorDiv) (rI (fun i j => cDiv i j = true) fun i j => .int (i.fdiv j)) := opI fun i j _ _ _ _ _ hc q => by
  unfold cDiv at hc
  simp only [Bool.or_eq_true, Bool.and_eq_true, decide_eq_true_eq] at hc
  rcases hc with ⟨h1, h2⟩ | ⟨h1, h2⟩
  · exact floordiv_int h1 q (.inl (PyProof.noPylong_small h2))
  · exact floordiv_int (by omega) q (.inl (PyProof.noPylong_of_log2 h2))
theorem op_powAll : OpR X (binaryOp .Pow) (rI (fun i j => cPow i j = true) fun i j => .int (i ^ j.toNat)) := opI fun i j _ _ _ _ _ hc q => by
  unfold cPow at hc
  simp only [Bool.and_eq_true, decide_eq_true_eq] at hc
  exact pow_int hc.1 hc.2 q
variable {E : XK} {a b : Expr} {fa fb : Env → RE} {pos : Pos}
theorem d_add (ha : DE X E a fa) (hb : DE X E b fb) : DE X E (.BinOp a .Add b pos) (fOp2 gAdd fa fb) := de_bin op_addAll op2_add ha hb
theorem d_sub (ha : DE X E a fa) (hb : DE X E b fb) : DE X E (.BinOp a .Sub b pos) (fOp2 gSub fa fb) := de_bin op_sub (op2_I0 fun _ _ _ => .int _) ha hb
theorem d_mul (ha : DE X E a fa) (hb : DE X E b fb) : DE X E (.BinOp a .Mult b pos) (fOp2 gMul fa fb) := de_bin op_mulAll op2_mul ha hb
theorem d_div (ha : DE X E a fa) (hb : DE X E b fb) : DE X E (.BinOp a .FloorDiv b pos) (fOp2 gDiv fa fb) := de_bin op_divAll (op2_I (fun _ _ h => h) fun _ _ _ => .int _) ha hb
theorem d_mod (ha : DE X E a fa) (hb : DE X E b fb) : DE X E (.BinOp a .Mod b pos) (fOp2 gMod fa fb) := de_bin op_modN (op2_I (fun _ _ h => of_decide_eq_true h) fun _ _ _ => .int _) ha hb
theorem d_pow (ha : DE X E a fa) (hb : DE X E b fb) : DE X E (.BinOp a .Pow b pos) (fOp2 gPow fa fb) := de_bin op_powAll (op2_I (fun _ _ h => h) fun _ _ _ => .int _) ha hb
theorem d_neg (ha : DE X E a fa) : DE X E (.UnaryOp .USub a pos) (fOp1 gNeg fa) := de_un un_neg (fun A H x d1 w Q tr r1 q gw => by
  unfold gNeg at q
  split at q
  · cases q
    exact ⟨_, rp_int r1, give_pu (.int _) gw⟩
  · cases q) ha
theorem d_lt (ha : DE X E a fa) (hb : DE X E b fb) : DE X E (.Compare a [.Lt] [b] pos) (fOp2 gLt fa fb) := de_cmp op_lt (op2_I0 fun _ _ _ => .bl _) ha hb (nomark _)
theorem d_le (ha : DE X E a fa) (hb : DE X E b fb) : DE X E (.Compare a [.LtE] [b] pos) (fOp2 gLe fa fb) := de_cmp op_le (op2_I0 fun _ _ _ => .bl _) ha hb (nomark _)
theorem d_gt (ha : DE X E a fa) (hb : DE X E b fb) : DE X E (.Compare a [.Gt] [b] pos) (fOp2 gGt fa fb) := de_cmp op_gt (op2_I0 fun _ _ _ => .bl _) ha hb (nomark _)
theorem d_ge (ha : DE X E a fa) (hb : DE X E b fb) : DE X E (.Compare a [.GtE] [b] pos) (fOp2 gGe fa fb) := de_cmp op_ge (op2_I0 fun _ _ _ => .bl _) ha hb (nomark _)
theorem d_eq (hu : X.A.units + 64 < cLine) (ha : DE X E a fa) (hb : DE X E b fb) : DE X E (.Compare a [.Eq] [b] pos) (fOp2 gEq fa fb) := de_cmp ((op_eqD hu).or op_eq) op2_eq ha hb (nomark _)
theorem d_ne (hu : X.A.units + 64 < cLine) (ha : DE X E a fa) (hb : DE X E b fb) : DE X E (.Compare a [.NotEq] [b] pos) (fOp2 gNe fa fb) := de_cmp ((op_neD hu).or op_ne) op2_ne ha hb (nomark _)
theorem d_is (ha : DE X E a fa) (hb : DE X E b fb) : DE X E (.Compare a [.Is] [b] pos) (fOp2 gIsN fa fb) := de_cmp (op_isN.or op_isBlA) op2_is ha hb (nomark _)
theorem d_isnot (ha : DE X E a fa) (hb : DE X E b fb) : DE X E (.Compare a [.IsNot] [b] pos) (fOp2 gNotN fa fb) := de_cmp (op_notN.or op_notBlA) op2_not ha hb (nomark _)
theorem d_ix (ha : DE X E a fa) (hb : DE X E b fb) (hs : PlainIx b := by exact fun _ _ => rfl) : DE X E (.Subscript a b pos) (fOp2 gIx fa fb) := de_ix ix_seq op2_ix ha hb hs
/-- xs[::-1] -/
def gRev : D → Option W
  | .list ds => some (.frs ds.reverse)
  | _ => none
theorem d_rev {k : Nat} {p1 p2 p3 : Pos} (ha : DE X E a fa) : DE X E (.Subscript a (.Slice none none (some (.UnaryOp .USub (.Constant (.int 1) k p1) p2)) p3) pos) (fOp1 gRev fa) := by
  refine ⟨PE.weak (pe_revL ha.pe) fun σ H Q h => tde_bnd h fun v H' τ A0 P' ρ' d S r c => ?_⟩
  unfold resW gRev at c
  split at c
  · rename_i w q
    split at q
    · obtain ⟨p, xs, rfl, h1, s1⟩ := rp_lst r
      cases q
      exact ⟨p, xs, rfl, .inl (.inl h1), give_lst s1.rev (giveW S c)⟩
    · cases q
  · exact c.elim
/-- n.bit_length() -/
def gBits : D → Option W
  | .int i => some (.pu (.int (Builtin.Int.intBits i : Nat)))
  | _ => none
theorem d_bits {apos : Pos} (ha : DE X E a fa) (hbase : attributeBase a "bit_length" X.env (eval a X.env) = eval a X.env := by rfl) (hline : (apos.endLine == pos.line) = true := by rfl) : DE X E (.Call (.Attribute a "bit_length" apos) [] [] pos) (fOp1 gBits fa) := by
  refine ⟨PE.weak (pe_bits ha.pe hbase hline) fun σ H Q h => tde_bnd h fun v H' τ A0 P' ρ' d S r c => ?_⟩
  unfold resW gBits at c
  split at c
  · rename_i w q
    split at q
    · cases q
      exact ⟨_, rp_int r, give_pu (.int _) (giveW S c)⟩
    · cases q
  · exact c.elim
end
end DL
/-! D4: what is walked, comprehensions, statements. -/
namespace DL
open PySem L2 PyProof.Rows

/-! ### what is walked -/
inductive RI where
  | ok (items : List D) (ρ : Env)
  | err (c : Addr) (d : D)
  | st
/-- the turns of J are these items, whatever grows -/
def Walks (K : PySem.W.Frag) (A0 : List Addr) (J : It) (items : List D) (H : Hp) (P : List Addr) : Prop :=
  ∀ (A1 : List Addr) (i : Nat) (H2 : Hp) (P2 : List Addr), (∀ a ∈ A1, a ∈ A0 ∨ H a = none) → Stp K H P H2 P2 →
    (∀ d, items[i]? = some d → J.go i H2 ∧ ∀ x H3, J.yld i H2 x H3 → Ext H2 H3 ∧ ((∀ a ∈ P2 ++ A1, H2 a ≠ none) → Rp K (hid (P2 ++ A1) H3) x d)) ∧ (items.length ≤ i → J.stop i H2)
def CDI (K : PySem.W.Frag) (E : XK) (τ : Nat → Addr) (A0 : List Addr) (H : Hp) (P : List Addr) (σ : L2.St) (o : RI) (R : It → Hp → Prop) : Prop :=
  match o with
  | .ok items ρ' => ∀ J H' P', Stp K H P H' P' → SRep K τ A0 H' σ ρ' P' → Walks K A0 J items H' P' → R J H'
  | .err c d => ∀ dx v H' P', Stp K H P H' P' → (H dx = none ∧ H' dx = some (.xd [(("value" : Str), v)])) → Rp K (hid (P' ++ A0) H') v d → E (.ref c) (some dx) H'
  | .st => False
def tDI (K : PySem.W.Frag) (E : XK) (f : Env → RI) : TI := fun σ H R => ∃ τ A0 P ρ, SRep K τ A0 H σ ρ P ∧ CDI K E τ A0 H P σ (f ρ) R
structure DI (X : Cx) (E : XK) (tg e : Expr) (f : Env → RI) : Prop where
  pi : PI X tg e (tDI X.K E f)
theorem PI.weak {X : Cx} {tg e : Expr} {t u : TI} (h : PI X tg e t) (k : ∀ σ H Q, u σ H Q → t σ H Q) : PI X tg e u := ⟨fun pins s σ H Q I q => h.run pins s σ H Q I (k σ H Q q)⟩
/-- a source by the value of an expression -/
def srcE (fa : Env → RE) (k : D → Option (List D)) : Env → RI := fun ρ => match fa ρ with
  | .ok w ρ1 => (match k w.d with
    | some items => .ok items ρ1
    | none => .st)
  | .err c d => .err c d
  | .st => .st
def srcA (fs : Env → RL) (k : List D → Option (List D)) : Env → RI := fun ρ => match fs ρ with
  | .ok ds ρ1 => (match k ds with
    | some items => .ok items ρ1
    | none => .st)
  | .err c d => .err c d
  | .st => .st
section
variable {K : PySem.W.Frag} {E : XK} {τ : Nat → Addr} {A0 P : List Addr} {H : Hp} {σ : L2.St} {ρ : Env}
theorem srcE_of {fa : Env → RE} {k : D → Option (List D)} {R : It → Hp → Prop} {U : VK} (h : tDI K E (srcE fa k) σ H R)
    (hk : ∀ v H' τ A0 P' ρ' d items, SRep K τ A0 H' σ ρ' P' → Rp K (hid (P' ++ A0) H') v d → k d = some items → (∀ J H2, Ext H' H2 → Walks K A0 J items H2 P' → R J H2) → U v H') : tDE K E fa σ H U := by
  obtain ⟨τ, A0, P, ρ, S, c⟩ := h
  refine ⟨τ, A0, P, ρ, S, CDE.toD ?_⟩
  unfold srcE at c
  cases q : fa ρ with
  | ok w ρ1 =>
    rw [q] at c
    dsimp only at c
    intro v H1 P1 t1 S1 r1
    cases q2 : k w.d with
    | none => rw [q2] at c; exact c.elim
    | some items =>
      rw [q2] at c
      exact hk v H1 τ A0 P1 ρ1 w.d items S1 r1 q2 fun J H2 e wk => c J H2 P1 (t1.trans (Stp.ext e)) (S1.grow e.gr) wk
  | err cc d => rw [q] at c; exact c
  | st => rw [q] at c; exact c
theorem srcA_of {fs : Env → RL} {k : List D → Option (List D)} {R : It → Hp → Prop} {U : List V → Hp → Prop} (h : tDI K E (srcA fs k) σ H R)
    (hk : ∀ vs H' τ A0 P' ρ' ds items, SRep K τ A0 H' σ ρ' P' → Rps K (hid (P' ++ A0) H') vs ds → k ds = some items → (∀ J H2, Ext H' H2 → Walks K A0 J items H2 P' → R J H2) → U vs H') : tDA K E fs σ H U := by
  obtain ⟨τ, A0, P, ρ, S, c⟩ := h
  refine ⟨τ, A0, P, ρ, S, ?_⟩
  unfold srcA at c
  cases q : fs ρ with
  | ok ds ρ1 =>
    rw [q] at c
    dsimp only at c
    intro vs H1 P1 t1 S1 r1
    cases q2 : k ds with
    | none => rw [q2] at c; exact c.elim
    | some items =>
      rw [q2] at c
      exact hk vs H1 τ A0 P1 ρ1 ds items S1 r1 q2 fun J H2 e wk => c J H2 P1 (t1.trans (Stp.ext e)) (S1.grow e.gr) wk
  | err cc d => rw [q] at c; exact c
  | st => rw [q] at c; exact c
theorem hid_none {A : List Addr} {a : Addr} {o : HO} {H : Hp} (h : hid A H a = some o) : a ∉ A := (hid_of h).1
/-- what was borne stands behind any step, though more is hidden that is new -/
theorem Rp.later {A1 P2 : List Addr} {H2 : Hp} {v : V} {d : D} (r : Rp K (hid (P ++ A0) H) v d) (hA : ∀ a ∈ A1, a ∈ A0 ∨ H a = none) (t : Stp K H P H2 P2) : Rp K (hid (P2 ++ A1) H2) v d :=
  r.ext fun a o q => by
    obtain ⟨n, e⟩ := hid_of q
    rw [List.mem_append, not_or] at n
    refine hid_in (fun z => ?_) (t.kp a o n.1 e (hid_nt q)) (hid_nt q)
    rcases List.mem_append.mp z with z | z
    · rcases t.nw a z with z | z
      · exact n.1 z
      · rw [z] at e; cases e
    · rcases hA a z with z | z
      · exact n.2 z
      · rw [z] at e; cases e
theorem walks_list {a : Addr} {xs : List V} {items : List D} (h : H a = some (.lst xs)) (ha : a ∉ P) (r : Rps K (hid (P ++ A0) H) xs items) : Walks K A0 (Itl K a) items H P := fun A1 i H2 P2 hA t => by
  have h2 : H2 a = some (.lst xs) := t.kp a _ ha h (fun _ z => nomatch z)
  have uq : ∀ ys, SqL K H2 a ys → SqL K H2 a xs := fun ys _ => .inl (.inl h2)
  refine ⟨fun d e => ?_, fun e => ⟨xs, .inl (.inl h2), by rw [r.length]; exact e⟩⟩
  obtain ⟨v, e1, r1⟩ := r.get e
  refine ⟨⟨xs, v, .inl (.inl h2), e1⟩, fun x H3 y => ?_⟩
  obtain ⟨rfl, y⟩ := y
  have e2 := y xs (.inl (.inl h2))
  rw [e1] at e2
  cases e2
  exact ⟨Ext.rfl _, fun _ => r1.later hA t⟩
theorem walks_tup {a : Addr} {xs : List V} {items : List D} (h : H a = some (.tup xs)) (ha : a ∉ P) (r : Rps K (hid (P ++ A0) H) xs items) : Walks K A0 (Itt K a) items H P := fun A1 i H2 P2 hA t => by
  have h2 : H2 a = some (.tup xs) := t.kp a _ ha h (fun _ z => nomatch z)
  refine ⟨fun d e => ?_, fun e => ⟨xs, .inl (.inl h2), by rw [r.length]; exact e⟩⟩
  obtain ⟨v, e1, r1⟩ := r.get e
  refine ⟨⟨xs, v, .inl (.inl h2), e1⟩, fun x H3 y => ?_⟩
  obtain ⟨rfl, y⟩ := y
  have e2 := y xs (.inl (.inl h2))
  rw [e1] at e2
  cases e2
  exact ⟨Ext.rfl _, fun _ => r1.later hA t⟩
def rngD (lo : Int) (n : Nat) : List D := (List.range n).map fun i => .int (lo + (i : Nat))
theorem rngD_get {lo : Int} {n i : Nat} {d : D} (h : (rngD lo n)[i]? = some d) : i < n ∧ d = .int (lo + (i : Nat)) := by
  unfold rngD at h
  rw [List.getElem?_map] at h
  cases q : (List.range n)[i]? with
  | none => rw [q] at h; cases h
  | some j =>
    rw [q] at h
    obtain ⟨hl, e⟩ := List.getElem?_eq_some_iff.mp q
    rw [List.getElem_range] at e
    subst e
    rw [List.length_range] at hl
    exact ⟨hl, (Option.some.inj h).symm⟩
theorem walks_rng {lo : Int} {n : Nat} : Walks K A0 (Itr lo n) (rngD lo n) H P := fun A1 i H2 P2 hA t => by
  refine ⟨fun d e => ?_, fun e => ?_⟩
  · obtain ⟨hi, rfl⟩ := rngD_get e
    refine ⟨hi, fun x H3 y => ?_⟩
    obtain ⟨rfl, rfl⟩ := y
    exact ⟨Ext.rfl _, fun _ => .int _⟩
  · show n ≤ i
    simpa [rngD] using e
def rngCD (lo c : Int) (n : Nat) : List D := (List.range n).map fun i => .int (lo + (i : Nat) * c)
theorem walks_rngC {lo c : Int} {n : Nat} : Walks K A0 (Itc lo c n) (rngCD lo c n) H P := fun A1 i H2 P2 hA t => by
  refine ⟨fun d e => ?_, fun e => ?_⟩
  · unfold rngCD at e
    rw [List.getElem?_map] at e
    cases q : (List.range n)[i]? with
    | none => rw [q] at e; cases e
    | some j =>
      rw [q] at e
      obtain ⟨hl, e2⟩ := List.getElem?_eq_some_iff.mp q
      rw [List.getElem_range] at e2
      subst e2
      rw [List.length_range] at hl
      cases e
      refine ⟨hl, fun x H3 y => ?_⟩
      obtain ⟨rfl, rfl⟩ := y
      exact ⟨Ext.rfl _, fun _ => .int _⟩
  · show n ≤ i
    simpa [rngCD] using e
def enumD : Nat → List D → List D
  | _, [] => []
  | n, d :: r => .tuple [.int (n : Nat), d] :: enumD (n + 1) r
theorem enumD_get : ∀ {l : List D} {n i : Nat} {d : D}, (enumD n l)[i]? = some d → ∃ e, l[i]? = some e ∧ d = .tuple [.int ((n + i : Nat) : Int), e]
  | [], _, _, _, h => by simp [enumD] at h
  | x :: r, n, 0, d, h => by
    simp [enumD] at h
    exact ⟨x, rfl, by rw [← h]; simp⟩
  | x :: r, n, i + 1, d, h => by
    obtain ⟨e, h1, h2⟩ := enumD_get (l := r) (n := n + 1) (i := i) (d := d) (by simpa [enumD] using h)
    exact ⟨e, by simpa using h1, by rw [h2]; congr 3; congr 1; omega⟩
theorem enumD_len : ∀ (l : List D) (n : Nat), (enumD n l).length = l.length
  | [], _ => rfl
  | x :: r, n => by simp [enumD, enumD_len r]
theorem walks_enum {a : Addr} {xs : List V} {items : List D} (h : H a = some (.lst xs)) (ha : a ∉ P) (r : Rps K (hid (P ++ A0) H) xs items) : Walks K A0 (Ite K a) (enumD 0 items) H P := fun A1 i H2 P2 hA t => by
  have h2 : H2 a = some (.lst xs) := t.kp a _ ha h (fun _ z => nomatch z)
  refine ⟨fun d e => ?_, fun e => ⟨xs, .inl (.inl h2), by rw [r.length, ← enumD_len items 0]; exact e⟩⟩
  obtain ⟨e, e1, rfl⟩ := enumD_get e
  obtain ⟨v, e2, r1⟩ := r.get e1
  refine ⟨⟨xs, v, .inl (.inl h2), e2⟩, fun x H3 y => ?_⟩
  obtain ⟨T, z, rfl, hT, rfl, y⟩ := y
  have e3 := y xs (.inl (.inl h2))
  rw [e2] at e3
  cases e3
  refine ⟨Evl.Ex.new hT, fun tr => .tup (hid_in (fun q => tr T q hT) upd_same) (.cons ?_ (.cons ((r1.later hA t).ext (hid_upd hT)) .nil))⟩
  have e0 : ((0 + i : Nat) : Int) = ((i : Nat) : Int) := by simp
  rw [e0]
  exact .int _
end
section
variable {X : Cx} {E : XK} {tg a : Expr} {es : List Expr} {fa : Env → RE} {fs : Env → RL} {p pos : Pos}
def itemsL : D → Option (List D)
  | .list ds => some ds
  | _ => none
def itemsT : D → Option (List D)
  | .tuple ds => some ds
  | _ => none
theorem rp_out {K : PySem.W.Frag} {A0 P : List Addr} {H : Hp} {v : V} {ds : List D} (h : Rp K (hid (P ++ A0) H) v (.list ds)) : ∃ p xs, v = .ref p ∧ H p = some (.lst xs) ∧ p ∉ P ∧ Rps K (hid (P ++ A0) H) xs ds := by
  cases h with
  | lst h r => exact ⟨_, _, rfl, (hid_of h).2, fun z => (hid_of h).1 (List.mem_append_left _ z), r⟩
theorem di_list (ha : DE X E a fa) : DI X E tg a (srcE fa itemsL) := by
  refine ⟨PI.weak (pi_list ha.pe) fun σ H R h => srcE_of h fun v H' τ A0 P' ρ' d items S r q k => ?_⟩
  cases d with
  | list ds =>
    cases q
    obtain ⟨b, xs, rfl, h1, h2, s1⟩ := rp_out r
    exact ⟨b, rfl, ⟨xs, .inl (.inl h1)⟩, k _ _ (Ext.rfl _) (walks_list h1 h2 s1)⟩
  | _ => cases q
theorem di_tup (ha : DE X E a fa) : DI X E tg a (srcE fa itemsT) := by
  refine ⟨PI.weak (pi_tup ha.pe) fun σ H R h => srcE_of h fun v H' τ A0 P' ρ' d items S r q k => ?_⟩
  cases d with
  | tuple ds =>
    cases q
    cases r with
    | tup h s1 => exact ⟨_, rfl, ⟨_, .inl (.inl (hid_of h).2)⟩, k _ _ (Ext.rfl _) (walks_tup (hid_of h).2 (fun z => (hid_of h).1 (List.mem_append_left _ z)) s1)⟩
  | _ => cases q
def kRng1 : List D → Option (List D)
  | [.int j] => if -(2 ^ 62) ≤ j ∧ j < 2 ^ 62 then some (rngD 0 j.toNat) else none
  | _ => none
def kRng2 : List D → Option (List D)
  | [.int i, .int j] => if -(2 ^ 62) ≤ i ∧ i < 2 ^ 62 ∧ -(2 ^ 62) ≤ j ∧ j < 2 ^ 62 then some (rngD i (j - i).toNat) else none
  | _ => none
theorem di_rng1 (hg : Gl X "range") (hm : X.mg "range" = none) (ha : DA X E [a] fs) (hs : starEach [a] X.env = [(false, eval a X.env)] := by rfl) : DI X E tg (.Call (.Name "range" p) [a] [] pos) (srcA fs kRng1) := by
  refine ⟨PI.weak (pi_range1 hg hm ha.pa hs) fun σ H R h => srcA_of h fun vs H' τ A0 P' ρ' ds items S r q k => ?_⟩
  unfold kRng1 at q
  split at q
  · rename_i j
    by_cases c : -(2 ^ 62) ≤ j ∧ j < 2 ^ 62
    · rw [if_pos c] at q
      cases q
      obtain ⟨v, rfl, h1⟩ := rps_one r
      rw [rp_int h1]
      exact ⟨j, rfl, c.1, c.2, k _ _ (Ext.rfl _) walks_rng⟩
    · rw [if_neg c] at q
      cases q
  · cases q
theorem di_rng2 {b : Expr} (hg : Gl X "range") (hm : X.mg "range" = none) (ha : DA X E [a, b] fs) (hs : starEach [a, b] X.env = [(false, eval a X.env), (false, eval b X.env)] := by rfl) (hs2 : starEach [b] X.env = [(false, eval b X.env)] := by rfl) : DI X E tg (.Call (.Name "range" p) [a, b] [] pos) (srcA fs kRng2) := by
  refine ⟨PI.weak (pi_range2 hg hm ha.pa hs hs2) fun σ H R h => srcA_of h fun vs H' τ A0 P' ρ' ds items S r q k => ?_⟩
  unfold kRng2 at q
  split at q
  · rename_i i j
    by_cases c : -(2 ^ 62) ≤ i ∧ i < 2 ^ 62 ∧ -(2 ^ 62) ≤ j ∧ j < 2 ^ 62
    · rw [if_pos c] at q
      cases q
      obtain ⟨v, u, rfl, h1, h2⟩ := rps_two r
      rw [rp_int h1, rp_int h2]
      exact ⟨i, j, rfl, c, k _ _ (Ext.rfl _) walks_rng⟩
    · rw [if_neg c] at q
      cases q
  · cases q
def kEnum : List D → Option (List D)
  | [.list ds] => some (enumD 0 ds)
  | _ => none
theorem di_enum {elts : List Expr} {kk : Nat} {tpos : Pos} (hg : Gl X "enumerate") (hm : X.mg "enumerate" = none) (ha : DA X E [a] fs) (hs : starEach [a] X.env = [(false, eval a X.env)] := by rfl) : DI X E (.Tuple elts kk tpos) (.Call (.Name "enumerate" p) [a] [] pos) (srcA fs kEnum) := by
  refine ⟨PI.weak (pi_enum hg hm ha.pa hs) fun σ H R h => srcA_of h fun vs H' τ A0 P' ρ' ds items S r q k => ?_⟩
  unfold kEnum at q
  split at q
  · cases q
    obtain ⟨v, rfl, h1⟩ := rps_one r
    obtain ⟨b, xs, rfl, h2, h3, s1⟩ := rp_out h1
    exact ⟨b, xs, rfl, .inl (.inl h2), k _ _ (Ext.rfl _) (walks_enum h2 h3 s1)⟩
  · cases q
end

/-! ### targets -/
/-- a slot gets data -/
theorem SRep.put {K : PySem.W.Frag} {τ : Nat → Addr} {A0 P : List Addr} {H : Hp} {σ : L2.St} {ρ : Env} (S : SRep K τ A0 H σ ρ P) {v : V} {d : D} (r : Rp K (hid (P ++ A0) H) v d) (i : Nat) : SRep K τ A0 H (σ.set i (some v)) (ρ.set i (some (.pu d))) P := by
  have g : ∀ {m u : Nat} {gs : List D}, (ρ.set i (some (.pu d)))[m]? = some (some (.own u gs)) → i ≠ m ∧ ρ[m]? = some (some (.own u gs)) := fun {m u gs} z => by
    by_cases hm : i = m
    · subst hm
      by_cases hi : i < ρ.length
      · rw [List.getElem?_set_self hi] at z; cases z
      · rw [List.getElem?_eq_none (by simpa using hi)] at z; cases z
    · rw [List.getElem?_set_ne hm] at z
      exact ⟨hm, z⟩
  refine ⟨fun j m e q => ?_, fun j t ds q => ?_, fun j k u u2 es fs p hjk e1 e2 e3 => ?_, S.tr, by simpa using S.len, S.dj, S.tb, fun j g q => ?_⟩
  rotate_right
  · have gn : ∀ {m : Nat} {s : Sl}, (∀ d, s ≠ .pu d) → (ρ.set i (some (.pu d)))[m]? = some (some s) → i ≠ m ∧ ρ[m]? = some (some s) := fun {m s} hs z => by
      by_cases hm : i = m
      · subst hm
        by_cases hi : i < ρ.length
        · rw [List.getElem?_set_self hi] at z
          exact absurd (Option.some.inj (Option.some.inj z)).symm (hs d)
        · rw [List.getElem?_eq_none (by simpa using hi)] at z; cases z
      · rw [List.getElem?_set_ne hm] at z
        exact ⟨hm, z⟩
    obtain ⟨hj, q1⟩ := gn (fun _ z => by cases z) q
    obtain ⟨n1, n2, n3⟩ := S.ns j g q1
    exact ⟨n1.gr (List.getElem?_set_ne hj) fun _ _ _ z => z, fun k h z => n2 k h (gn (fun _ z => by cases z) z).2, fun k t ds z => n3 k t ds (gn (fun _ z => by cases z) z).2⟩
  · by_cases hj : i = j
    · subst hj
      by_cases hi : i < ρ.length
      · rw [List.getElem?_set_self hi] at q
        cases q
        exact ⟨v, List.getElem?_set_self (by rw [S.len]; exact hi), r, fun z => nomatch z⟩
      · rw [List.getElem?_eq_none (by simpa using hi)] at q; cases q
    · rw [List.getElem?_set_ne hj] at q
      obtain ⟨u, h1, h2⟩ := S.pu j m e q
      exact ⟨u, by rw [List.getElem?_set_ne hj]; exact h1, h2⟩
  · obtain ⟨hj, q⟩ := g q
    obtain ⟨p, xs, h1, h2⟩ := S.own j t ds q
    exact ⟨p, xs, by rw [List.getElem?_set_ne hj]; exact h1, h2⟩
  · obtain ⟨hj, q1⟩ := g e1
    obtain ⟨hk, q2⟩ := g e2
    rw [List.getElem?_set_ne hj] at e3
    rw [List.getElem?_set_ne hk]
    exact S.inj j k u u2 es fs p hjk q1 q2 e3
/-- a target: which slots it sets (of js) -/
def GtOk (K : PySem.W.Frag) (g : TG) (b : D → Env → Option Env) (js : List Nat) : Prop :=
  ∀ (τ : Nat → Addr) (A0 P : List Addr) (H : Hp) (σ : L2.St) (ρ ρ2 : Env) (v : V) (d : D), SRep K τ A0 H σ ρ P → Rp K (hid (P ++ A0) H) v d → b d ρ = some ρ2 →
    ∃ σ2, SRep K τ A0 H σ2 ρ2 P ∧ σ2.length = σ.length ∧ (∀ i, i ∉ js → σ2[i]? = σ[i]?) ∧ ∀ Q : L2.St → Hp → Prop, Q σ2 H → g v σ H Q
def bName (i : Nat) : D → Env → Option Env := fun d ρ => some (ρ.set i (some (.pu d)))
theorem gt_name {K : PySem.W.Frag} {i : Nat} : GtOk K (gName i) (bName i) [i] := fun τ A0 P H σ ρ ρ2 v d S r e => by
  cases e
  refine ⟨σ.set i (some v), S.put r i, List.length_set, fun j hj => ?_, fun Q q => q⟩
  rw [List.getElem?_set_ne (fun z => hj (by rw [z]; simp))]
def bList : List (D → Env → Option Env) → List D → Env → Option Env
  | [], [], ρ => some ρ
  | b :: bs, d :: ds, ρ => (b d ρ).bind (bList bs ds)
  | _, _, _ => none
def GtsOk (K : PySem.W.Frag) (g : TGs) (bs : List (D → Env → Option Env)) (js : List Nat) : Prop :=
  ∀ (τ : Nat → Addr) (A0 P : List Addr) (H : Hp) (σ : L2.St) (ρ ρ2 : Env) (vs : List V) (ds : List D), SRep K τ A0 H σ ρ P → Rps K (hid (P ++ A0) H) vs ds → bList bs ds ρ = some ρ2 →
    ∃ σ2, SRep K τ A0 H σ2 ρ2 P ∧ σ2.length = σ.length ∧ (∀ i, i ∉ js → σ2[i]? = σ[i]?) ∧ ∀ Q : L2.St → Hp → Prop, Q σ2 H → g vs σ H Q
theorem gts_nil {K : PySem.W.Frag} : GtsOk K gNil [] [] := fun τ A0 P H σ ρ ρ2 vs ds S r e => by
  cases ds with
  | nil =>
    cases e
    cases r
    exact ⟨σ, S, rfl, fun _ _ => rfl, fun Q q => ⟨rfl, q⟩⟩
  | cons d ds => cases e
theorem gts_cons {K : PySem.W.Frag} {g : TG} {gs : TGs} {b : D → Env → Option Env} {bs : List (D → Env → Option Env)} {js ks : List Nat} (h : GtOk K g b js) (hs : GtsOk K gs bs ks) : GtsOk K (gCons g gs) (b :: bs) (js ++ ks) := fun τ A0 P H σ ρ ρ2 vs ds S r e => by
  cases ds with
  | nil => cases e
  | cons d ds =>
    cases r with
    | cons r1 r2 =>
      unfold bList at e
      cases q : b d ρ with
      | none => rw [q] at e; cases e
      | some ρ1 =>
        rw [q] at e
        obtain ⟨σ1, S1, l1, o1, k1⟩ := h τ A0 P H σ ρ ρ1 _ d S r1 q
        obtain ⟨σ2, S2, l2, o2, k2⟩ := hs τ A0 P H σ1 ρ1 ρ2 _ ds S1 r2 e
        exact ⟨σ2, S2, l2.trans l1, fun i hi => (o2 i fun z => hi (List.mem_append_right _ z)).trans (o1 i fun z => hi (List.mem_append_left _ z)), fun Q q => ⟨_, _, rfl, k1 _ (k2 Q q)⟩⟩
def bTup (bs : List (D → Env → Option Env)) : D → Env → Option Env := fun d ρ => match d with
  | .tuple ds => bList bs ds ρ
  | _ => none
theorem bList_len : ∀ {bs : List (D → Env → Option Env)} {ds : List D} {ρ ρ2 : Env}, bList bs ds ρ = some ρ2 → ds.length = bs.length
  | [], [], _, _, _ => rfl
  | [], _ :: _, _, _, h => by cases h
  | _ :: _, [], _, _, h => by cases h
  | b :: bs, d :: ds, ρ, ρ2, h => by
    unfold bList at h
    cases q : b d ρ with
    | none => rw [q] at h; cases h
    | some ρ1 =>
      rw [q] at h
      simp [bList_len (bs := bs) (ds := ds) h]
theorem gt_tup {K : PySem.W.Frag} {gs : TGs} {bs : List (D → Env → Option Env)} {js : List Nat} {n : Nat} (h : GtsOk K gs bs js) (hn : bs.length = n := by rfl) : GtOk K (gTup K n gs) (bTup bs) js := fun τ A0 P H σ ρ ρ2 v d S r e => by
  cases d with
  | tuple ds =>
    obtain ⟨p, xs, rfl, h1, s1⟩ := rp_tup r
    have e : bList bs ds ρ = some ρ2 := e
    obtain ⟨σ2, S2, l2, o2, k2⟩ := h τ A0 P H σ ρ ρ2 xs ds S s1 e
    exact ⟨σ2, S2, l2, o2, fun Q q => ⟨p, xs, rfl, .inl (.inl h1), by rw [s1.length, bList_len e, hn], k2 Q q⟩⟩
  | _ => cases e
end DL
/-! D5: comprehensions, statements. -/
namespace DL
open PySem L2 PyProof.Rows

structure DTs (X : Cx) (E : XK) (ifs : List Expr) (f : Env → RE) : Prop where
  pts : PTs X ifs (tTest (tDE X.K E f))
section
variable {X : Cx} {E : XK}
theorem dts_nil : DTs X E [] (fC (.bool true)) := ⟨⟨fun pins s σ H Q I h => by
  obtain ⟨k, e, q⟩ := tde_c (K := X.K) (E := E) (fun _ => .bl true) h
  cases e
  exact pts_nil.run pins s σ H Q I q⟩⟩
theorem dts_one {c : Expr} {f : Env → RE} (h : DT X E c f) : DTs X E [c] f := ⟨pts_one h.pt⟩
end

def wipeE (ρ : Env) : List Nat → Env
  | [] => ρ
  | v :: vs => (wipeE ρ vs).set v none
theorem wipeE_len (ρ : Env) : ∀ vs, (wipeE ρ vs).length = ρ.length
  | [] => rfl
  | v :: vs => by unfold wipeE; rw [List.length_set, wipeE_len ρ vs]
theorem wipeE_some {ρ : Env} {i : Nat} {x : Sl} : ∀ {vs : List Nat}, (wipeE ρ vs)[i]? = some (some x) → ρ[i]? = some (some x) ∧ i ∉ vs
  | [], h => ⟨h, by simp⟩
  | v :: vs, h => by
    unfold wipeE at h
    by_cases hi : v = i
    · subst hi
      by_cases hv : v < (wipeE ρ vs).length
      · rw [List.getElem?_set_self hv] at h; cases h
      · rw [List.getElem?_eq_none (by simpa using hv)] at h; cases h
    · rw [List.getElem?_set_ne hi] at h
      obtain ⟨h1, h2⟩ := wipeE_some h
      exact ⟨h1, by simp only [List.mem_cons, not_or]; exact ⟨fun e => hi e.symm, h2⟩⟩
/-- the same slots but those of vs: what is known of the others stands -/
theorem SRep.wiped {K : PySem.W.Frag} {τ : Nat → Addr} {A0 P : List Addr} {H : Hp} {σ σ2 : L2.St} {ρ : Env} (S : SRep K τ A0 H σ ρ P) {vs : List Nat} (h : ∀ i, i ∉ vs → σ2[i]? = σ[i]?) (hl : σ2.length = σ.length) : SRep K τ A0 H σ2 (wipeE ρ vs) P := by
  refine ⟨fun i m d q => ?_, fun i t ds q => ?_, fun i j t u es fs p hij e1 e2 e3 => ?_, S.tr, by rw [hl, wipeE_len]; exact S.len, S.dj, S.tb, fun i g q => ?_⟩
  rotate_right
  · obtain ⟨q1, n⟩ := wipeE_some q
    obtain ⟨n1, n2, n3⟩ := S.ns i g q1
    exact ⟨n1.gr (h i n) fun _ _ _ z => z, fun j k z => n2 j k (wipeE_some z).1, fun j t ds z => n3 j t ds (wipeE_some z).1⟩
  · obtain ⟨q1, n⟩ := wipeE_some q
    rw [h i n]
    exact S.pu i m d q1
  · obtain ⟨q1, n⟩ := wipeE_some q
    rw [h i n]
    exact S.own i t ds q1
  · obtain ⟨q1, n1⟩ := wipeE_some e1
    obtain ⟨q2, n2⟩ := wipeE_some e2
    rw [h i n1] at e3
    rw [h j n2]
    exact S.inj i j t u es fs p hij q1 q2 e3

theorem wipe_in {σ : L2.St} {i : Nat} : ∀ {vs : List Nat}, i ∈ vs → i < σ.length → (wipe σ vs)[i]? = some none
  | [], h, _ => absurd h (by simp)
  | v :: vs, h, hl => by
    unfold wipe
    by_cases e : v = i
    · rw [e, List.getElem?_set_self (by rw [wipe_length]; exact hl)]
    · rw [List.getElem?_set_ne e]
      exact wipe_in ((List.mem_cons.mp h).resolve_left fun z => e z.symm) hl
theorem wipe_same {σ σ2 : L2.St} {vs : List Nat} (hl : σ2.length = σ.length) (h : ∀ i, i ∉ vs → σ2[i]? = (wipe σ vs)[i]?) : wipe σ2 vs = wipe σ vs := by
  apply List.ext_getElem?
  intro i
  by_cases hv : i ∈ vs
  · by_cases hi : i < σ.length
    · rw [wipe_in hv hi, wipe_in hv (by rw [hl]; exact hi)]
    · rw [List.getElem?_eq_none (by rw [wipe_length]; omega), List.getElem?_eq_none (by rw [wipe_length]; omega)]
  · rw [wipe_out hv]
    exact h i hv
/-- the turns of a comprehension -/
def lcGo (bind : D → Env → Option Env) (ft fe : Env → RE) (vs : List Nat) : List D → List D → Env → RE
  | [], acc, ρ => .ok (.frs acc) ρ
  | d :: r, acc, ρ => match bind d ρ with
    | none => .st
    | some ρ1 => match ft ρ1 with
      | .ok w ρ2 => (match w.d with
        | .bool true => (match fe ρ2 with
          | .ok w3 ρ3 => if acc.length < sizeLine then lcGo bind ft fe vs r (acc ++ [w3.d]) (wipeE ρ3 vs) else .st
          | _ => .st)
        | .bool false => lcGo bind ft fe vs r acc (wipeE ρ2 vs)
        | _ => .st)
      | _ => .st
def fLc (src : Env → RI) (bind : D → Env → Option Env) (ft fe : Env → RE) (vs : List Nat) : Env → RE := fun ρ => match src ρ with
  | .ok items ρ1 => lcGo bind ft fe vs items [] (wipeE ρ1 vs)
  | .err c d => .err c d
  | .st => .st
theorem lcGo_frs {bind : D → Env → Option Env} {ft fe : Env → RE} {vs : List Nat} : ∀ {l acc : List D} {ρ : Env}, lcGo bind ft fe vs l acc ρ = .st ∨ ∃ acc' ρ', lcGo bind ft fe vs l acc ρ = .ok (.frs acc') ρ'
  | [], acc, ρ => .inr ⟨acc, ρ, rfl⟩
  | d :: r, acc, ρ => by
    unfold lcGo
    cases bind d ρ with
    | none => exact .inl rfl
    | some ρ1 =>
      dsimp only
      cases ft ρ1 with
      | ok w ρ2 =>
        dsimp only
        split
        · split
          · split
            · exact lcGo_frs
            · exact .inl rfl
          · exact .inl rfl
        · exact lcGo_frs
        · exact .inl rfl
      | err c d => exact .inl rfl
      | st => exact .inl rfl
abbrev E0 : XK := fun _ _ _ => False
section
variable {K : PySem.W.Frag} {E : XK} {τ : Nat → Addr} {A0 P : List Addr} {H : Hp} {σ : L2.St} {ρ : Env} {Q : VK}
theorem hid_upd_in {A : List Addr} {p : Addr} {o : HO} (h : p ∈ A) : hid A (upd H p o) = hid A H := by
  funext a
  unfold hid
  by_cases e : a ∈ A
  · rw [if_pos e, if_pos e]
  · rw [if_neg e, if_neg e, upd_ne (fun z => e (by rw [z]; exact h))]
/-- a hidden list that is none of ours changes -/
theorem SRep.updH {p : Addr} {xs ys : List V} (S : SRep K τ A0 H σ ρ P) (hp : p ∈ A0) (hl : H p = some (.lst ys)) : SRep K τ A0 (L2.upd H p (.lst xs)) σ ρ P := by
  have np : p ∉ P := fun z => S.dj p z hp
  have e : hid (P ++ A0) (L2.upd H p (.lst xs)) = hid (P ++ A0) H := hid_upd_in (List.mem_append_right _ hp)
  refine ⟨fun i m d q => ?_, fun i t ds q => ?_, S.inj, fun a z n => ?_, S.len, S.dj, fun b hb => tab_lst hl (S.tb b hb), fun i g q => ⟨(S.ns i g q).1.gr rfl fun a ys hm z => by rw [upd_ne (fun w => np (by rw [← w]; exact hm))]; exact z, (S.ns i g q).2⟩⟩
  · rw [hid_upd_in (hs_mem (List.mem_append_right _ hp))]
    exact S.pu i m d q
  · rw [e]
    obtain ⟨b, ys, h1, h2, h3, h4⟩ := S.own i t ds q
    exact ⟨b, ys, h1, h2, by rw [upd_ne (fun z => np (by rw [← z]; exact h2))]; exact h3, h4⟩
  · by_cases ha : a = p
    · rw [ha, upd_same] at n; cases n
    · rw [upd_ne ha] at n
      exact S.tr a z n
theorem stp_upd {p : Addr} {o : HO} {H0 : Hp} {P0 : List Addr} (t : Stp K H0 P0 H P) (hp : H0 p = none) (hl : H p = none ∨ ∃ ys, H p = some (.lst ys)) : Stp K H0 P0 (L2.upd H p o) P := by
  refine ⟨fun a u n e nt => ?_, t.nw, fun a e => ?_, fun z b hb => hl.elim (fun h => tab_none h (t.tb z b hb)) fun ⟨ys, h⟩ => tab_lst h (t.tb z b hb)⟩
  · rw [upd_ne (ne_of_none e hp)]
    exact t.kp a u n e nt
  · by_cases ha : a = p
    · rw [ha, upd_same] at e; cases e
    · rw [upd_ne ha] at e
      exact t.al a e
/-- one element of a comprehension -/
theorem cde_any {f : Env → RE} {w : W} {ρ2 : Env} {R : VK} (S : SRep K τ A0 H σ ρ P) (e : f ρ = .ok w ρ2) (h : ∀ v H' P', Stp K H P H' P' → SRep K τ A0 H' σ ρ2 P' → Rp K (hid (P' ++ A0) H') v w.d → R v H') : tDE K E f σ H R := by
  refine ⟨τ, A0, P, ρ, S, CDE.toD ?_⟩
  rw [e]
  exact h
theorem lc_of {src : Env → RI} {bind : D → Env → Option Env} {ft fe : Env → RE} {vs : List Nat} {g : TG} {js : List Nat} (hg : GtOk K g bind js) (hjs : ∀ j ∈ js, j ∈ vs)
    (h : tDE K E (fLc src bind ft fe vs) σ H Q) : tLc (tDI K E src) g (tTest (tDE K E0 ft)) (tDE K E0 fe) vs σ H Q := by
  obtain ⟨τ, A0, P, ρ, S, c⟩ := h
  refine ⟨τ, A0, P, ρ, S, ?_⟩
  unfold fLc at c
  cases q : src ρ with
  | err cc d => rw [q] at c; exact c
  | st => rw [q] at c; exact c
  | ok items ρ1 =>
    rw [q] at c
    dsimp only at c
    intro J H1 P1 t1 S1 wk Dl hD
    rcases lcGo_frs (bind := bind) (ft := ft) (fe := fe) (vs := vs) (l := items) (acc := []) (ρ := wipeE ρ1 vs) with e | ⟨accF, ρF, e⟩
    · rw [e] at c; exact c.elim
    rw [e] at c
    have c : ∀ p xs H' P', Stp K H P H' P' → H p = none → p ∉ P' → p ∉ A0 → SRep K τ (p :: A0) H' σ ρF P' → H' p = some (.lst xs) → Rps K (hid (P' ++ p :: A0) H') xs accF → Q (.ref p) H' := c
    have hD0 : H Dl = none := t1.al Dl hD
    obtain ⟨nP, nA⟩ := S1.fresh hD
    have tD : Stp K H1 P1 (L2.upd H1 Dl (.lst [])) P1 := stp_upd (Stp.rfl H1 P1) hD (.inl hD)
    have len_w : ∀ σ' : L2.St, σ'.length = σ.length → (wipe σ' vs).length = σ.length := fun σ' z => by rw [wipe_length]; exact z
    have S2 : SRep K τ (Dl :: A0) (L2.upd H1 Dl (.lst [])) (wipe σ vs) (wipeE ρ1 vs) P1 := (S1.addHid hD (Ext.gr (Evl.Ex.new hD)) (by rw [upd_same]; exact fun z => nomatch z)).wiped (fun i hi => wipe_out hi) (wipe_length σ vs)
    have hA1 : ∀ a ∈ Dl :: A0, a ∈ A0 ∨ H1 a = none := fun a z => (List.mem_cons.mp z).elim (fun z => .inr (by rw [z]; exact hD)) .inl
    refine ⟨fun i m H' => m = items.length - i ∧ i ≤ items.length ∧ ∃ acc ρ' P' xs, SRep K τ (Dl :: A0) H' (wipe σ vs) ρ' P' ∧ Stp K H1 P1 H' P' ∧ H' Dl = some (.lst xs) ∧ Rps K (hid (P' ++ Dl :: A0) H') xs acc ∧ lcGo bind ft fe vs (items.drop i) acc ρ' = .ok (.frs accF) ρF,
      ⟨_, rfl, Nat.zero_le _, [], wipeE ρ1 vs, P1, [], S2, tD, upd_same, .nil, e⟩, ?_⟩
    rintro i m H' ⟨rfl, hi, acc, ρ', P', xs, S3, t3, h3, r3, e3⟩
    obtain ⟨w1, w2⟩ := wk (Dl :: A0) i H' P' hA1 t3
    cases q2 : items[i]? with
    | none =>
      have hle : items.length ≤ i := List.getElem?_eq_none_iff.mp q2
      refine .inl ⟨w2 hle, ?_⟩
      rw [List.drop_eq_nil_of_le hle] at e3
      have e4 : acc = accF ∧ ρ' = ρF := by
        unfold lcGo at e3
        injection e3 with a b
        injection a with a
        exact ⟨a, b⟩
      obtain ⟨rfl, rfl⟩ := e4
      refine c Dl xs H' P' (t1.trans t3) hD0 (fun z => S3.dj Dl z List.mem_cons_self) nA ?_ h3 r3
      -- the slots of σ: those of the wiped one, and nothing told of vs
      refine ⟨fun j m d z => ?_, fun j t ds z => ?_, fun j k t u es fs p hjk z1 z2 z3 => ?_, S3.tr, by rw [← wipe_length σ vs]; exact S3.len, S3.dj, S3.tb, fun j g z => ?_⟩
      rotate_right
      · obtain ⟨⟨p, qs, n1, n2⟩, n3⟩ := S3.ns j g z
        exact ⟨⟨p, qs, (wipe_some n1).1, n2⟩, n3⟩
      · obtain ⟨v, a1, a2⟩ := S3.pu j m d z
        exact ⟨v, (wipe_some a1).1, a2⟩
      · obtain ⟨p, ys, a1, a2⟩ := S3.own j t ds z
        exact ⟨p, ys, (wipe_some a1).1, a2⟩
      · obtain ⟨p1, _, b1, _⟩ := S3.own j t es z1
        obtain ⟨p2, _, b2, _⟩ := S3.own k u fs z2
        have c1 := (wipe_some b1).1
        have c2 := (wipe_some b2).1
        rw [z3] at c1
        cases c1
        intro z4
        rw [z4] at c2
        cases c2
        exact S3.inj j k t u es fs p hjk z1 z2 b1 b2
    | some d =>
      have hlt : i < items.length := (List.getElem?_eq_some_iff.mp q2).1
      obtain ⟨go, yl⟩ := w1 d q2
      have ed : items.drop i = d :: items.drop (i + 1) := by
        rw [List.drop_eq_getElem_cons hlt, (List.getElem?_eq_some_iff.mp q2).2]
      rw [ed] at e3
      unfold lcGo at e3
      refine .inr ⟨go, fun H4 => ∃ acc ρ' P' xs, SRep K τ (Dl :: A0) H4 (wipe σ vs) ρ' P' ∧ Stp K H1 P1 H4 P' ∧ H4 Dl = some (.lst xs) ∧ Rps K (hid (P' ++ Dl :: A0) H4) xs acc ∧ lcGo bind ft fe vs (items.drop (i + 1)) acc ρ' = .ok (.frs accF) ρF,
        fun H4 ⟨acc4, ρ4, P4, xs4, k1, k2, k3, k4, k5⟩ => ⟨items.length - (i + 1), by omega, rfl, hlt, acc4, ρ4, P4, xs4, k1, k2, k3, k4, k5⟩, fun x H4 y => ?_⟩
      obtain ⟨ex, rx⟩ := yl x H4 y
      have rx := rx S3.tr
      have S4 := S3.grow ex.gr
      have t4 : Stp K H' P' H4 P' := Stp.ext ex
      cases q3 : bind d ρ' with
      | none => rw [q3] at e3; cases e3
      | some ρ5 =>
        rw [q3] at e3
        dsimp only at e3
        obtain ⟨σ5, S5, l5, o5, k5⟩ := hg τ (Dl :: A0) P' H4 (wipe σ vs) ρ' ρ5 x d S4 rx q3
        refine k5 _ ?_
        rw [wipe_length] at l5
        have w5 : wipe σ5 vs = wipe σ vs := wipe_same l5 fun j hj => o5 j fun z => hj (hjs j z)
        refine ⟨w5, ?_⟩
        have np : Dl ∉ P' := fun z => S3.dj Dl z List.mem_cons_self
        cases q4 : ft ρ5 with
        | err cc dd => rw [q4] at e3; cases e3
        | st => rw [q4] at e3; cases e3
        | ok wt ρ6 =>
          rw [q4] at e3
          dsimp only at e3
          refine cde_any S5 q4 fun v6 H6 P6 t6 S6 r6 => ?_
          have h6 : H6 Dl = some (.lst xs) := t6.kp Dl _ np (ex _ _ h3) (fun _ z => nomatch z)
          have r36 : Rps K (hid (P6 ++ Dl :: A0) H6) xs acc := r3.stp (t4.trans t6)
          split at e3
          · rename_i qb
            rw [qb] at r6
            refine ⟨true, rp_bool r6, iteT ?_⟩
            cases q5 : fe ρ6 with
            | err cc dd => rw [q5] at e3; cases e3
            | st => rw [q5] at e3; cases e3
            | ok we ρ7 =>
              rw [q5] at e3
              dsimp only at e3
              by_cases hz : acc.length < sizeLine
              · rw [if_pos hz] at e3
                refine cde_any S6 q5 fun v7 H7 P7 t7 S7 r7 => ?_
                have np6 : Dl ∉ P6 := fun z => S6.dj Dl z List.mem_cons_self
                have h7 : H7 Dl = some (.lst xs) := t7.kp Dl _ np6 h6 (fun _ z => nomatch z)
                have r37 : Rps K (hid (P7 ++ Dl :: A0) H7) xs acc := r36.stp t7
                have eh : hid (P7 ++ Dl :: A0) (L2.upd H7 Dl (.lst (xs ++ [v7]))) = hid (P7 ++ Dl :: A0) H7 := hid_upd_in (List.mem_append_right _ List.mem_cons_self)
                refine ⟨xs, h7, by rw [r37.length]; exact hz, acc ++ [we.d], wipeE ρ7 vs, P7, xs ++ [v7], ?_, stp_upd (t3.trans (t4.trans (t6.trans t7))) hD (.inr ⟨_, h7⟩), upd_same, ?_, e3⟩
                · exact (S7.updH List.mem_cons_self h7).wiped (fun j hj => by rw [wipe_out hj, o5 j fun z => hj (hjs j z), wipe_out hj]) (by rw [wipe_length]; exact l5.symm)
                · rw [eh]
                  exact r37.app (.one r7)
              · rw [if_neg hz] at e3
                cases e3
          · rename_i qb
            rw [qb] at r6
            refine ⟨false, rp_bool r6, iteF ?_⟩
            refine ⟨acc, wipeE ρ6 vs, P6, xs, ?_, t3.trans (t4.trans t6), h6, r36, e3⟩
            exact S6.wiped (fun j hj => by rw [wipe_out hj, o5 j fun z => hj (hjs j z), wipe_out hj]) (by rw [wipe_length]; exact l5.symm)
          · cases e3
end
section
variable {X : Cx} {E : XK} {elt tg iter : Expr} {ifs : List Expr} {scope : Scope} {own : List (Str × Nat)} {pos : Pos} {src : Env → RI} {bind : D → Env → Option Env} {ft fe : Env → RE} {g : TG} {js : List Nat}
/-- [elt for tg in iter if ifs] -/
theorem de_lc (hc : X.calm = true) (hN : X.N.Nodup) (hi : DI X E tg iter src) (ok : BlkOk X.N X.env.scope scope own) (hb : GtOk X.K g bind js) (hjs : ∀ j ∈ js, j ∈ own.map (·.2))
    (hg : ∀ (s : Shared) (H : Hp) (C : Addr) (cl : List (Str × Addr)) (fp : List Addr), PG (X.blk s H scope (compEnvC scope cl C X.env) fp) tg g) (ht : ∀ (s : Shared) (H : Hp) (C : Addr) (cl : List (Str × Addr)) (fp : List Addr), DTs (X.blk s H scope (compEnvC scope cl C X.env) fp) E0 ifs ft)
    (he : ∀ (s : Shared) (H : Hp) (C : Addr) (cl : List (Str × Addr)) (fp : List Addr), DE (X.blk s H scope (compEnvC scope cl C X.env) fp) E0 elt fe) (hs : ∀ x, foldedSetIterable iter X.env x = pure x := by intro _; rfl) :
    DE X E (.ListComp elt [⟨tg, iter, ifs, 0⟩] scope pos) (fLc src bind ft fe (own.map (·.2))) :=
  ⟨PE.weak (pe_lc hc hN hi.pi ok hg (fun s H C cl fp => (ht s H C cl fp).pts) (fun s H C cl fp => (he s H C cl fp).pe) hs) fun σ H Q h => lc_of hb hjs h⟩
end
end DL
/-! D6: statements. -/
namespace DL
open PySem L2 PyProof.Rows

inductive RS where
  | nx (ρ : Env)
  | ret (w : W) (ρ : Env)
  | bk (ρ : Env)
  | ct (ρ : Env)
  | err (c : Addr) (d : D)
  | st
/-- what follows a statement of that outcome -/
def CDS (K : PySem.W.Frag) (E : XK) (τ : Nat → Addr) (A0 : List Addr) (H : Hp) (P : List Addr) (o : RS) (Dn : Ends) : Prop :=
  match o with
  | .nx ρ' => ∀ σ' H' P', Stp K H P H' P' → SRep K τ A0 H' σ' ρ' P' → Dn.nx σ' H'
  | .bk ρ' => ∀ σ' H' P', Stp K H P H' P' → SRep K τ A0 H' σ' ρ' P' → Dn.bk σ' H'
  | .ct ρ' => ∀ σ' H' P', Stp K H P H' P' → SRep K τ A0 H' σ' ρ' P' → Dn.ct σ' H'
  | .ret (.pu d) ρ' => ∀ v σ' H' P', Stp K H P H' P' → SRep K τ A0 H' σ' ρ' P' → Rp K (hid (P' ++ A0) H') v d → Dn.rt v H'
  | .ret (.frs ds) ρ' => ∀ p xs σ' H' P', Stp K H P H' P' → (p ∈ P ∨ H p = none) → p ∉ P' → p ∉ A0 → SRep K τ (p :: A0) H' σ' ρ' P' → H' p = some (.lst xs) → Rps K (hid (P' ++ p :: A0) H') xs ds → Dn.rt (.ref p) H'
  | .err c d => ∀ dx v H' P', Stp K H P H' P' → (H dx = none ∧ H' dx = some (.xd [(("value" : Str), v)])) → Rp K (hid (P' ++ A0) H') v d → E (.ref c) (some dx) H'
  | .st => False
def tDS (K : PySem.W.Frag) (E : XK) (f : Env → RS) : TS := fun Dn σ H => ∃ τ A0 P ρ, SRep K τ A0 H σ ρ P ∧ CDS K E τ A0 H P (f ρ) Dn
structure DS (X : Cx) (E : XK) (s : Stmt) (f : Env → RS) : Prop where
  ps : PS X s (tDS X.K E f)
structure DSs (X : Cx) (E : XK) (s : List Stmt) (f : Env → RS) : Prop where
  pss : PSs X s (tDS X.K E f)
def sSeq (f g : Env → RS) : Env → RS := fun ρ => match f ρ with
  | .nx ρ1 => g ρ1
  | o => o
section
variable {K : PySem.W.Frag} {E : XK} {τ : Nat → Addr} {A0 P : List Addr} {H : Hp} {σ : L2.St} {ρ : Env} {Dn : Ends}
theorem CDS.stp {o : RS} {H' : Hp} {P' : List Addr} (t : Stp K H P H' P') (h : CDS K E τ A0 H P o Dn) : CDS K E τ A0 H' P' o Dn := by
  cases o with
  | nx ρ' => exact fun σ' H2 P2 t2 S => h σ' H2 P2 (t.trans t2) S
  | bk ρ' => exact fun σ' H2 P2 t2 S => h σ' H2 P2 (t.trans t2) S
  | ct ρ' => exact fun σ' H2 P2 t2 S => h σ' H2 P2 (t.trans t2) S
  | ret w ρ' =>
    cases w with
    | pu d => exact fun v σ' H2 P2 t2 S r => h v σ' H2 P2 (t.trans t2) S r
    | frs ds => exact fun p xs σ' H2 P2 t2 hn n1 n2 S hl hr => h p xs σ' H2 P2 (t.trans t2) (hn.elim (t.nw p) fun z => .inr (t.al p z)) n1 n2 S hl hr
  | err c d => exact fun dx v H2 P2 t2 hx hr => h dx v H2 P2 (t.trans t2) ⟨t.al _ hx.1, hx.2⟩ hr
  | st => exact h
/-- with another next -/
theorem CDS.next {o : RS} {D2 : Ends} (h : CDS K E τ A0 H P o D2) (hr : D2.rt = Dn.rt) (hb : D2.bk = Dn.bk) (hc : D2.ct = Dn.ct) (hn : ∀ ρ', o = .nx ρ' → CDS K E τ A0 H P o Dn) : CDS K E τ A0 H P o Dn := by
  cases o with
  | nx ρ' => exact hn ρ' rfl
  | bk ρ' => exact fun σ' H' P' t S => by rw [← hb]; exact h σ' H' P' t S
  | ct ρ' => exact fun σ' H' P' t S => by rw [← hc]; exact h σ' H' P' t S
  | ret w ρ' =>
    cases w with
    | pu d => exact fun v σ' H' P' t S r => by rw [← hr]; exact h v σ' H' P' t S r
    | frs ds => exact fun p xs σ' H' P' t n n1 n2 S hl r => by rw [← hr]; exact h p xs σ' H' P' t n n1 n2 S hl r
  | err c d => exact h
  | st => exact h
theorem seq_of {f g : Env → RS} (h : tDS K E (sSeq f g) Dn σ H) : tSeq (tDS K E f) (tDS K E g) Dn σ H := by
  obtain ⟨τ, A0, P, ρ, S, c⟩ := h
  refine ⟨τ, A0, P, ρ, S, ?_⟩
  unfold sSeq at c
  cases q : f ρ with
  | nx ρ1 =>
    rw [q] at c
    exact fun σ' H' P' t S' => ⟨τ, A0, P', ρ1, S', CDS.stp t c⟩
  | bk ρ' => rw [q] at c; exact c
  | ct ρ' => rw [q] at c; exact c
  | ret w ρ' =>
    rw [q] at c
    cases w with
    | pu d => exact c
    | frs ds => exact c
  | err cc d => rw [q] at c; exact c
  | st => rw [q] at c; exact c
theorem tds_nx (h : tDS K E .nx Dn σ H) : Dn.nx σ H := by
  obtain ⟨τ, A0, P, ρ, S, c⟩ := h
  exact c σ H P (Stp.rfl H P) S
end
section
variable {X : Cx} {E : XK} {s : Stmt} {rest a b : List Stmt} {e : Expr} {f g : Env → RS} {fe fc : Env → RE} {pos : Pos}
theorem dss_nil : DSs X E [] .nx := ⟨PSs.weak pss_nil fun _ _ _ h => tds_nx h⟩
theorem dss_cons (h1 : DS X E s f) (h2 : DSs X E rest g) : DSs X E (s :: rest) (sSeq f g) := ⟨PSs.weak (pss_cons h1.ps h2.pss) fun _ _ _ h => seq_of h⟩
theorem dss_one (h1 : DS X E s f) : DSs X E [s] f := ⟨pss_one h1.ps⟩
theorem ds_pass : DS X E (.Pass pos) .nx := ⟨PS.weak ps_pass fun _ _ _ h => tds_nx h⟩
theorem ds_break : DS X E (.Break pos) .bk := ⟨PS.weak ps_break fun Dn σ H ⟨τ, A0, P, ρ, S, c⟩ => c σ H P (Stp.rfl H P) S⟩
theorem ds_continue : DS X E (.Continue pos) .ct := ⟨PS.weak ps_continue fun Dn σ H ⟨τ, A0, P, ρ, S, c⟩ => c σ H P (Stp.rfl H P) S⟩
/-- an expression, then what its value makes -/
def sE (fa : Env → RE) (k : W → Env → RS) : Env → RS := fun ρ => match fa ρ with
  | .ok w ρ1 => k w ρ1
  | .err c d => .err c d
  | .st => .st
def sDrop (fa : Env → RE) : Env → RS := sE fa fun _ ρ => .nx ρ
def sRet (fa : Env → RE) : Env → RS := sE fa fun w ρ => .ret w ρ
/-- return x, x an own list: it goes out as a new one -/
def sIf (fc : Env → RE) (f g : Env → RS) : Env → RS := sE fc fun w ρ => match w.d with
  | .bool true => f ρ
  | .bool false => g ρ
  | _ => .st
def sPut (i : Nat) (fa : Env → RE) : Env → RS := sE fa fun w ρ => .nx (ρ.set i (some (.pu w.d)))
theorem ds_drop (he : DE X E e fe) (hs : swapsWith e none pos.line X.env = pure false := by rfl) : DS X E (.Expr e pos) (sDrop fe) := by
  refine ⟨PS.weak (ps_expr he.pe hs) fun Dn σ H ⟨τ, A0, P, ρ, S, c⟩ => ⟨τ, A0, P, ρ, S, CDE.toD ?_⟩⟩
  unfold sDrop sE at c
  cases q : fe ρ with
  | ok w ρ1 => rw [q] at c; exact fun v H' P' t S' r => c σ H' P' t S'
  | err cc d => rw [q] at c; exact c
  | st => rw [q] at c; exact c
theorem ds_ret (he : DE X E e fe) : DS X E (.Return (some e) pos) (sRet fe) := by
  refine ⟨PS.weak (ps_ret he.pe) fun Dn σ H ⟨τ, A0, P, ρ, S, c⟩ => ⟨τ, A0, P, ρ, S, ?_⟩⟩
  unfold sRet sE at c
  cases q : fe ρ with
  | ok w ρ1 =>
    rw [q] at c
    cases w with
    | pu d => exact fun v H' P' t S' r => c v σ H' P' t S' r
    | frs ds => exact fun p xs H' P' t n n1 n2 S' hl r => c p xs σ H' P' t (.inr n) n1 n2 S' hl r
  | err cc d => rw [q] at c; exact c
  | st => rw [q] at c; exact c
theorem ds_retN : DS X E (.Return none pos) fun ρ => .ret (.pu .none) ρ :=
  ⟨PS.weak ps_retN fun Dn σ H ⟨τ, A0, P, ρ, S, c⟩ => c .non σ H P (Stp.rfl H P) S .non⟩
theorem ds_put {i : Nat} {x : Str} {pos' : Pos} (hN : X.N.Nodup) (hi : X.N[i]? = some x) (hx : Loc X.env.scope x) (he : DE X E e fe) (hs : swapsWith e (some (.Name x pos')) pos.line X.env = pure false := by rfl) (hf : X.fn x = true ∨ X.env.scope.names.lookup x = some .local := by first | exact .inl rfl | exact .inr rfl | assumption) :
    DS X E (.Assign [.Name x pos'] e pos) (sPut i fe) := by
  refine ⟨PS.weak (ps_set hN hi hx he.pe hs hf) fun Dn σ H ⟨τ, A0, P, ρ, S, c⟩ => ⟨τ, A0, P, ρ, S, CDE.toD ?_⟩⟩
  unfold sPut sE at c
  cases q : fe ρ with
  | ok w ρ1 => rw [q] at c; exact fun v H' P' t S' r => c _ H' P' t (S'.put r i)
  | err cc d => rw [q] at c; exact c
  | st => rw [q] at c; exact c
theorem ds_if {c : Expr} (hc : DT X E c fc) (ha : DSs X E a f) (hb : DSs X E b g) : DS X E (.If c a b pos) (sIf fc f g) := by
  refine ⟨PS.weak (ps_if hc.pt ha.pss hb.pss) fun Dn σ H ⟨τ, A0, P, ρ, S, cc⟩ => ⟨τ, A0, P, ρ, S, CDE.toD ?_⟩⟩
  unfold sIf sE at cc
  cases q : fc ρ with
  | ok w ρ1 =>
    rw [q] at cc
    dsimp only at cc
    intro v H' P' t S' r
    split at cc
    · rename_i qb
      rw [qb] at r
      exact ⟨true, rp_bool r, iteT ⟨τ, A0, P', ρ1, S', CDS.stp t cc⟩⟩
    · rename_i qb
      rw [qb] at r
      exact ⟨false, rp_bool r, iteF ⟨τ, A0, P', ρ1, S', CDS.stp t cc⟩⟩
    · exact cc.elim
  | err ec d => rw [q] at cc; exact cc
  | st => rw [q] at cc; exact cc
end

/-! ### an own list: made, grown, stored into -/
section
variable {K : PySem.W.Frag} {E : XK} {τ : Nat → Addr} {A0 P : List Addr} {H : Hp} {σ : L2.St} {ρ : Env} {Dn : Ends}
/-- a slot is forgotten -/
theorem SRep.off (S : SRep K τ A0 H σ ρ P) (i : Nat) (o : Option V) : SRep K τ A0 H (σ.set i o) (ρ.set i none) P := by
  have g : ∀ {m : Nat} {s : Sl}, (ρ.set i none)[m]? = some (some s) → i ≠ m ∧ ρ[m]? = some (some s) := fun {m s} z => by
    by_cases hm : i = m
    · subst hm
      by_cases hi : i < ρ.length
      · rw [List.getElem?_set_self hi] at z; cases z
      · rw [List.getElem?_eq_none (by simpa using hi)] at z; cases z
    · rw [List.getElem?_set_ne hm] at z
      exact ⟨hm, z⟩
  refine ⟨fun j m d q => ?_, fun j t ds q => ?_, fun j k t u es fs p hjk e1 e2 e3 => ?_, S.tr, by simpa using S.len, S.dj, S.tb, fun j g2 q => ?_⟩
  rotate_right
  · obtain ⟨hj, q1⟩ := g q
    obtain ⟨n1, n2, n3⟩ := S.ns j g2 q1
    exact ⟨n1.gr (List.getElem?_set_ne hj) fun _ _ _ z => z, fun k h z => n2 k h (g z).2, fun k t ds z => n3 k t ds (g z).2⟩
  · obtain ⟨hj, q⟩ := g q
    rw [List.getElem?_set_ne hj]
    exact S.pu j m d q
  · obtain ⟨hj, q⟩ := g q
    rw [List.getElem?_set_ne hj]
    exact S.own j t ds q
  · obtain ⟨hj, q1⟩ := g e1
    obtain ⟨hk, q2⟩ := g e2
    rw [List.getElem?_set_ne hj] at e3
    rw [List.getElem?_set_ne hk]
    exact S.inj j k t u es fs p hjk q1 q2 e3
/-- the slot's own list goes out -/
theorem SRep.out (S : SRep K τ A0 H σ ρ P) {i : Nat} {t : Nat} {ds : List D} (hi : ρ[i]? = some (some (.own t ds))) :
    ∃ p xs P', σ[i]? = some (some (.ref p)) ∧ p ∈ P ∧ p ∉ P' ∧ p ∉ A0 ∧ (∀ a ∈ P', a ∈ P) ∧ H p = some (.lst xs) ∧ SRep K τ (p :: A0) H (σ.set i none) (ρ.set i none) P' ∧ Rps K (hid (P' ++ p :: A0) H) xs ds := by
  obtain ⟨p, xs, h1, h2, h3, h4, h5⟩ := S.own i t ds hi
  have hA : p ∉ A0 := S.dj p h2
  have T := S.off i none
  have hl : i < ρ.length := (List.getElem?_eq_some_iff.mp hi).1
  have e : hid (P.filter (fun a => decide (a ≠ p)) ++ p :: A0) H = hid (P ++ A0) H := hid_swap fun a => by
    simp only [List.mem_append, List.mem_cons, List.mem_filter, decide_eq_true_eq]
    constructor
    · rintro (z | z | z)
      · exact .inl z.1
      · exact .inl (by rw [z]; exact h2)
      · exact .inr z
    · rintro (z | z)
      · by_cases ea : a = p
        · exact .inr (.inl ea)
        · exact .inl ⟨z, ea⟩
      · exact .inr (.inr z)
  refine ⟨p, xs, P.filter (fun a => decide (a ≠ p)), h1, h2, fun z => (of_decide_eq_true (List.mem_filter.mp z).2) rfl, hA, fun a z => (List.mem_filter.mp z).1, h3, ⟨fun j m d q => ?_, fun j u es q => ?_, T.inj, fun a z => ?_, T.len, fun q hq z => ?_, T.tb, fun j g q => ?_⟩, by rw [e]; exact h4⟩
  rotate_right
  · by_cases hj : i = j
    · subst hj
      rw [List.getElem?_set_self hl] at q
      cases q
    · rw [List.getElem?_set_ne hj] at q
      exact absurd hi ((S.ns j g q).2.2 i t ds)
  · rw [hs_eq e]
    exact T.pu j m d q
  · rw [e]
    obtain ⟨b, ys, b1, b2, b3, b4, b5⟩ := T.own j u es q
    have hj : i ≠ j := fun z => by
      subst z
      rw [List.getElem?_set_self hl] at q
      cases q
    refine ⟨b, ys, b1, List.mem_filter.mpr ⟨b2, decide_eq_true fun z => ?_⟩, b3, b4, b5⟩
    subst z
    rw [List.getElem?_set_ne hj] at q b1
    exact S.inj i j t u ds es b hj hi q h1 b1
  · rcases List.mem_append.mp z with z | z
    · exact S.tr a (List.mem_append_left _ (List.mem_filter.mp z).1)
    · rcases List.mem_cons.mp z with z | z
      · rw [z, h3]; exact fun q => nomatch q
      · exact S.tr a (List.mem_append_right _ z)
  · rcases List.mem_cons.mp z with z | z
    · exact (of_decide_eq_true (List.mem_filter.mp hq).2) z
    · exact S.dj q (List.mem_filter.mp hq).1 z
/-- a hidden new list becomes the slot's own -/
theorem SRep.own_ {p : Addr} {xs : List V} {ds : List D} (S : SRep K τ (p :: A0) H σ ρ P) (hA : p ∉ A0) (h : H p = some (.lst xs)) (r : Rps K (hid (P ++ p :: A0) H) xs ds) (i : Nat) (hnn : noN ρ = true) : SRep K τ A0 H (σ.set i (some (.ref p))) (ρ.set i (some (.own 0 ds))) (p :: P) := by
  have T := S.off i (some (.ref p))
  have e : hid (P ++ p :: A0) H = hid (p :: P ++ A0) H := hid_swap fun a => by
    simp only [List.mem_append, List.mem_cons, List.cons_append]
    constructor
    · rintro (z | z | z)
      · exact .inr (.inl z)
      · exact .inl z
      · exact .inr (.inr z)
    · rintro (z | z | z)
      · exact .inr (.inl z)
      · exact .inl z
      · exact .inr (.inr z)
  have nP : p ∉ P := fun z => S.dj p z List.mem_cons_self
  have old : ∀ {m : Nat} {s : Sl}, i ≠ m → (ρ.set i (some (.own 0 ds)))[m]? = some (some s) → (ρ.set i Option.none)[m]? = some (some s) := fun {m s} hm z => by
    rw [List.getElem?_set_ne hm] at z ⊢
    exact z
  have oldσ : ∀ {m : Nat} {q : Addr} {t : Nat} {gs : List D}, i ≠ m → (ρ.set i Option.none)[m]? = some (some (.own t gs)) → (σ.set i (some (.ref p)))[m]? = some (some (.ref q)) → q ≠ p := fun {m q t gs} hm z1 z2 z3 => by
    obtain ⟨p2, _, b1, b2, _⟩ := T.own m t gs z1
    rw [b1] at z2
    cases z2
    exact nP (by rw [← z3]; exact b2)
  have atI_ : ∀ {s : Sl}, (ρ.set i (some (.own 0 ds)))[i]? = some (some s) → i < ρ.length ∧ s = .own 0 ds := fun {s} z => by
    by_cases hi : i < ρ.length
    · rw [List.getElem?_set_self hi] at z
      exact ⟨hi, (Option.some.inj (Option.some.inj z)).symm⟩
    · rw [List.getElem?_eq_none (by simpa using hi)] at z; cases z
  refine ⟨fun j m d q => ?_, fun j t es q => ?_, fun j k t u es fs b hjk e1 e2 e3 e4 => ?_, fun a z => ?_, by simpa using S.len, fun q hq z => ?_, S.tb, fun j g q => ?_⟩
  rotate_right
  · by_cases hj : i = j
    · subst hj
      exact nomatch (atI_ q).2
    · rw [List.getElem?_set_ne hj] at q
      exact (noN_of hnn q).elim
  · by_cases hj : i = j
    · subst hj
      exact nomatch (atI_ q).2
    · obtain ⟨v, b1, b2⟩ := T.pu j m d (old hj q)
      exact ⟨v, b1, by rw [← hs_eq e]; exact b2⟩
  · by_cases hj : i = j
    · subst hj
      obtain ⟨hi, q2⟩ := atI_ q
      cases q2
      exact ⟨p, xs, List.getElem?_set_self (by rw [S.len]; exact hi), List.mem_cons_self, h, by rw [← e]; exact r, .inl rfl⟩
    · obtain ⟨b, ys, b1, b2, b3, b4, b5⟩ := T.own j t es (old hj q)
      exact ⟨b, ys, b1, List.mem_cons_of_mem _ b2, b3, by rw [← e]; exact b4, b5⟩
  · by_cases hj : i = j
    · subst hj
      obtain ⟨hi, _⟩ := atI_ e1
      rw [List.getElem?_set_self (by rw [S.len]; exact hi)] at e3
      cases e3
      exact oldσ hjk (old hjk e2) e4 rfl
    · by_cases hk : i = k
      · subst hk
        obtain ⟨hi, _⟩ := atI_ e2
        rw [List.getElem?_set_self (by rw [S.len]; exact hi)] at e4
        cases e4
        exact oldσ hj (old hj e1) e3 rfl
      · exact T.inj j k t u es fs b hjk (old hj e1) (old hk e2) e3 e4
  · rcases List.mem_cons.mp z with z | z
    · rw [z, h]; exact fun q => nomatch q
    · rcases List.mem_append.mp z with z | z
      · exact S.tr a (List.mem_append_left _ z)
      · exact S.tr a (List.mem_append_right _ (List.mem_cons_of_mem _ z))
  · rcases List.mem_cons.mp hq with q2 | q2
    · rw [q2] at z; exact hA z
    · exact S.dj q q2 (List.mem_cons_of_mem _ z)
/-- an own list of ours changes: its items are borne -/
theorem SRep.chg {i t : Nat} {ds es : List D} {p : Addr} {ys : List V} (S : SRep K τ A0 H σ ρ P) (hi : ρ[i]? = some (some (.own t ds))) (hp : σ[i]? = some (some (.ref p))) (r : Rps K (hid (P ++ A0) H) ys es) :
    SRep K τ A0 (L2.upd H p (.lst ys)) σ (ρ.set i (some (.own t es))) P ∧ p ∈ P := by
  obtain ⟨p2, xs, b1, b2, b3, b4, b5⟩ := S.own i t ds hi
  rw [hp] at b1
  cases b1
  have hl : i < ρ.length := (List.getElem?_eq_some_iff.mp hi).1
  have e : hid (P ++ A0) (L2.upd H p (.lst ys)) = hid (P ++ A0) H := hid_upd_in (List.mem_append_left _ b2)
  have back : ∀ {j u : Nat} {gs : List D}, (ρ.set i (some (.own t es)))[j]? = some (some (.own u gs)) → ∃ hs, ρ[j]? = some (some (.own u hs)) := fun {j u gs} z => by
    by_cases hj : i = j
    · subst hj
      rw [List.getElem?_set_self hl] at z
      cases z
      exact ⟨_, hi⟩
    · rw [List.getElem?_set_ne hj] at z
      exact ⟨_, z⟩
  refine ⟨⟨fun j m d q => ?_, fun j u gs q => ?_, fun j k u u2 fs gs b hjk e1 e2 e3 => ?_, fun a z n => ?_, by simpa using S.len, S.dj, fun b hb => tab_lst b3 (S.tb b hb), fun j g q => ?_⟩, b2⟩
  rotate_right
  · by_cases hj : i = j
    · subst hj
      rw [List.getElem?_set_self hl] at q
      cases q
    · rw [List.getElem?_set_ne hj] at q
      exact absurd hi ((S.ns j g q).2.2 i t ds)
  · rw [hs_eq e]
    by_cases hj : i = j
    · subst hj
      rw [List.getElem?_set_self hl] at q
      cases q
    · rw [List.getElem?_set_ne hj] at q
      exact S.pu j m d q
  · rw [e]
    by_cases hj : i = j
    · subst hj
      rw [List.getElem?_set_self hl] at q
      cases q
      exact ⟨p, ys, hp, b2, upd_same, r, b5⟩
    · rw [List.getElem?_set_ne hj] at q
      obtain ⟨b, zs, c1, c2, c3, c4, c5⟩ := S.own j u gs q
      refine ⟨b, zs, c1, c2, ?_, c4, c5⟩
      rw [upd_ne fun z => ?_]
      · exact c3
      · subst z
        exact S.inj i j t u ds gs b hj hi q hp c1
  · obtain ⟨_, q1⟩ := back e1
    obtain ⟨_, q2⟩ := back e2
    exact S.inj j k u u2 _ _ b hjk q1 q2 e3
  · by_cases ha : a = p
    · rw [ha, upd_same] at n; cases n
    · rw [upd_ne ha] at n
      exact S.tr a z n
theorem stp_own {p : Addr} {o : HO} {xs : List V} (hp : p ∈ P) (hl : H p = some (.lst xs)) : Stp K H P (L2.upd H p o) P := ⟨fun a u n e _ => by rw [upd_ne (fun z => n (by rw [z]; exact hp))]; exact e, fun _ z => .inl z, fun a e => by
  by_cases ha : a = p
  · rw [ha, upd_same] at e; cases e
  · rw [upd_ne ha] at e; exact e, fun z b hb => tab_lst hl (z b hb)⟩
end
section
variable {X : Cx} {E : XK} {e : Expr} {fe : Env → RE} {pos : Pos}
/-- x = a new list, x to be changed later on -/
def sOwn (i : Nat) (fa : Env → RE) : Env → RS := sE fa fun w ρ => match w with
  | .frs ds => if noN ρ then .nx (ρ.set i (some (.own 0 ds))) else .st
  | _ => .st
theorem ds_own {i : Nat} {x : Str} {pos' : Pos} (hN : X.N.Nodup) (hi : X.N[i]? = some x) (hx : Loc X.env.scope x) (he : DE X E e fe) (hs : swapsWith e (some (.Name x pos')) pos.line X.env = pure false := by rfl) (hf : X.fn x = true ∨ X.env.scope.names.lookup x = some .local := by first | exact .inl rfl | exact .inr rfl | assumption) :
    DS X E (.Assign [.Name x pos'] e pos) (sOwn i fe) := by
  refine ⟨PS.weak (ps_set hN hi hx he.pe hs hf) fun Dn σ H ⟨τ, A0, P, ρ, S, c⟩ => ⟨τ, A0, P, ρ, S, ?_⟩⟩
  unfold sOwn sE at c
  cases q : fe ρ with
  | ok w ρ1 =>
    rw [q] at c
    cases w with
    | pu d => exact c.elim
    | frs ds =>
      dsimp only at c
      by_cases hnn : noN ρ1 = true
      · rw [if_pos hnn] at c
        exact fun p xs H' P' t n n1 n2 S' hl r => c _ H' (p :: P') ⟨t.kp, fun a z => (List.mem_cons.mp z).elim (fun z => .inr (by rw [z]; exact n)) (t.nw a), t.al, t.tb⟩ (S'.own_ n2 hl r i hnn)
      · rw [if_neg hnn] at c
        exact c.elim
  | err cc d => rw [q] at c; exact c
  | st => rw [q] at c; exact c
/-- return x, x an own list: it goes out as a new one -/
def sRetOwn (i : Nat) : Env → RS := fun ρ => match ρ[i]? with
  | some (some (.own _ ds)) => .ret (.frs ds) (ρ.set i none)
  | _ => .st
theorem ds_retOwn {i : Nat} {e : Expr} (h : PE X e (tVar i)) : DS X E (.Return (some e) pos) (sRetOwn i) := by
  refine ⟨PS.weak (ps_ret h) fun Dn σ H ⟨τ, A0, P, ρ, S, c⟩ => ?_⟩
  unfold sRetOwn at c
  split at c
  · rename_i t ds q
    obtain ⟨p, xs, P', h1, h2, h3, h4, h5, h6, h7, h8⟩ := S.out q
    exact ⟨.ref p, h1, c p xs _ H P' ⟨fun _ _ _ z _ => z, fun a z => .inl (h5 a z), fun _ z => z, fun z => z⟩ (.inl h2) h3 h4 h7 h6 h8⟩
  · exact c.elim
/-- x.append(e), x an own list -/
def sApp (i : Nat) (fa : Env → RE) : Env → RS := fun ρ0 => match ρ0[i]? with
  | some (some (.own _ _)) => sE fa (fun w ρ => match ρ[i]? with
    | some (some (.own t ds)) => if ds.length < sizeLine then .nx (ρ.set i (some (.own t (ds ++ [w.d])))) else .st
    | _ => .st) ρ0
  | _ => .st
theorem ds_app {i : Nat} {call : Expr} (hm : ∀ te, PE X e te → PE X call (tBM X.K "list" rAppend (tVar i) (tCons te tNil))) (he : DE X E e fe) (hs : swapsWith call none pos.line X.env = pure false := by rfl) :
    DS X E (.Expr call pos) (sApp i fe) := by
  refine ⟨PS.weak (ps_expr (hm _ he.pe) hs) fun Dn σ H ⟨τ, A0, P, ρ, S, c⟩ => ?_⟩
  unfold sApp at c
  split at c
  · rename_i t0 ds0 q0
    obtain ⟨p, xs, b1, b2, b3, b4, b5⟩ := S.own i t0 ds0 q0
    refine ⟨.ref p, b1, .inl ⟨rfl, xs, .inl (.inl b3)⟩, τ, A0, P, ρ, S, CDE.toD ?_⟩
    unfold sE at c
    cases q : fe ρ with
    | ok w ρ1 =>
      rw [q] at c
      dsimp only at c
      intro v H' P' st S' r
      split at c
      · rename_i t ds q1
        by_cases hz : ds.length < sizeLine
        · rw [if_pos hz] at c
          obtain ⟨p1, ys, d1, d2, d3, d4, d5⟩ := S'.own i t ds q1
          rw [b1] at d1
          cases d1
          obtain ⟨S2, hp⟩ := S'.chg q1 b1 (d4.app (.one r))
          exact ⟨p, ys, v, rfl, rfl, d3, by rw [d4.length]; exact hz, c σ _ P' (st.trans (stp_own hp d3)) S2⟩
        · rw [if_neg hz] at c
          exact c.elim
      · exact c.elim
    | err cc d => rw [q] at c; exact c
    | st => rw [q] at c; exact c
  · exact c.elim
end

/-! ### for -/
def forGo (bind : D → Env → Option Env) (body : Env → RS) : List D → Env → RS
  | [], ρ => .nx ρ
  | d :: r, ρ => match bind d ρ with
    | none => .st
    | some ρ1 => match body ρ1 with
      | .nx ρ2 => forGo bind body r ρ2
      | .ct ρ2 => forGo bind body r ρ2
      | .bk ρ2 => .nx ρ2
      | o => o
def sFor (src : Env → RI) (bind : D → Env → Option Env) (body : Env → RS) : Env → RS := fun ρ => match src ρ with
  | .ok items ρ1 => forGo bind body items ρ1
  | .err c d => .err c d
  | .st => .st
section
variable {K : PySem.W.Frag} {E : XK} {τ : Nat → Addr} {A0 P : List Addr} {H : Hp} {σ : L2.St} {ρ : Env} {Dn : Ends}
theorem for_of {src : Env → RI} {bind : D → Env → Option Env} {body : Env → RS} {g : TG} {js : List Nat} (hg : GtOk K g bind js) (h : tDS K E (sFor src bind body) Dn σ H) : tFor (tDI K E src) g (tDS K E body) Dn σ H := by
  obtain ⟨τ, A0, P, ρ, S, c⟩ := h
  refine ⟨τ, A0, P, ρ, S, ?_⟩
  unfold sFor at c
  cases q : src ρ with
  | err cc d => rw [q] at c; exact c
  | st => rw [q] at c; exact c
  | ok items ρ1 =>
    rw [q] at c
    dsimp only at c
    intro J H1 P1 t1 S1 wk
    have c := CDS.stp t1 c
    refine ⟨fun i m σ' H' => m = items.length - i ∧ i ≤ items.length ∧ ∃ ρ' P', SRep K τ A0 H' σ' ρ' P' ∧ Stp K H1 P1 H' P' ∧ CDS K E τ A0 H' P' (forGo bind body (items.drop i) ρ') Dn,
      ⟨_, rfl, Nat.zero_le _, ρ1, P1, S1, Stp.rfl _ _, c⟩, ?_⟩
    rintro i m σ' H' ⟨rfl, hi, ρ', P', S3, t3, c3⟩
    obtain ⟨w1, w2⟩ := wk A0 i H' P' (fun a z => .inl z) t3
    cases q2 : items[i]? with
    | none =>
      have hle : items.length ≤ i := List.getElem?_eq_none_iff.mp q2
      rw [List.drop_eq_nil_of_le hle] at c3
      exact .inl ⟨w2 hle, c3 σ' H' P' (Stp.rfl _ _) S3⟩
    | some d =>
      have hlt : i < items.length := (List.getElem?_eq_some_iff.mp q2).1
      obtain ⟨go, yl⟩ := w1 d q2
      have ed : items.drop i = d :: items.drop (i + 1) := by
        rw [List.drop_eq_getElem_cons hlt, (List.getElem?_eq_some_iff.mp q2).2]
      rw [ed] at c3
      unfold forGo at c3
      refine .inr ⟨go, fun σ4 H4 => ∃ ρ4 P4, SRep K τ A0 H4 σ4 ρ4 P4 ∧ Stp K H1 P1 H4 P4 ∧ CDS K E τ A0 H4 P4 (forGo bind body (items.drop (i + 1)) ρ4) Dn,
        fun σ4 H4 ⟨ρ4, P4, k1, k2, k3⟩ => ⟨items.length - (i + 1), by omega, rfl, hlt, ρ4, P4, k1, k2, k3⟩, fun x H4 y => ?_⟩
      obtain ⟨ex, rx⟩ := yl x H4 y
      have rx := rx S3.tr
      have S4 := S3.grow ex.gr
      have t4 : Stp K H' P' H4 P' := Stp.ext ex
      cases q3 : bind d ρ' with
      | none => rw [q3] at c3; exact c3.elim
      | some ρ5 =>
        rw [q3] at c3
        dsimp only at c3
        obtain ⟨σ5, S5, l5, o5, k5⟩ := hg τ A0 P' H4 σ' ρ' ρ5 x d S4 rx q3
        refine k5 _ ⟨τ, A0, P', ρ5, S5, ?_⟩
        have c4 := CDS.stp t4 c3
        cases q4 : body ρ5 with
        | nx ρ6 =>
          rw [q4] at c4
          exact fun σ6 H6 P6 t6 S6 => ⟨ρ6, P6, S6, t3.trans (t4.trans t6), CDS.stp t6 c4⟩
        | ct ρ6 =>
          rw [q4] at c4
          exact fun σ6 H6 P6 t6 S6 => ⟨ρ6, P6, S6, t3.trans (t4.trans t6), CDS.stp t6 c4⟩
        | bk ρ6 =>
          rw [q4] at c4
          exact c4
        | ret w ρ6 =>
          rw [q4] at c4
          cases w with
          | pu dd => exact c4
          | frs ds => exact c4
        | err cc dd =>
          rw [q4] at c4
          exact c4
        | st =>
          rw [q4] at c4
          exact c4
end
section
variable {X : Cx} {E : XK} {tg iter : Expr} {bodyS : List Stmt} {pos : Pos} {src : Env → RI} {bind : D → Env → Option Env} {body : Env → RS} {g : TG} {js : List Nat}
theorem ds_for (hp : PassesOwn (model X.prog X.w) X.A X.env X.xe) (hc : X.calm = true) (hi : DI X E tg iter src) (hb : GtOk X.K g bind js) (hg : PG X tg g) (hbody : DSs X E bodyS body) (hs : ∀ x, foldedSetIterable iter X.env x = pure x := by intro _; rfl) :
    DS X E (.For tg iter bodyS [] pos) (sFor src bind body) := ⟨PS.weak (ps_for hp hc hi.pi hg hbody.pss hs) fun Dn σ H h => for_of hb h⟩
end

/-! ### while: so many turns at most -/
def whGo (fc : Env → RE) (body : Env → RS) : Nat → Env → RS
  | 0, _ => .st
  | n + 1, ρ => match fc ρ with
    | .ok w ρ1 => (match w.d with
      | .bool true => (match body ρ1 with
        | .nx ρ2 => whGo fc body n ρ2
        | .ct ρ2 => whGo fc body n ρ2
        | .bk ρ2 => .nx ρ2
        | o => o)
      | .bool false => .nx ρ1
      | _ => .st)
    | .err c d => .err c d
    | .st => .st
section
variable {K : PySem.W.Frag} {E : XK} {τ : Nat → Addr} {A0 P : List Addr} {H : Hp} {σ : L2.St} {ρ : Env} {Dn : Ends}
theorem while_of {fc : Env → RE} {body : Env → RS} {N : Env → Nat} (h : tDS K E (fun ρ => whGo fc body (N ρ) ρ) Dn σ H) : tWhile (tTest (tDE K E fc)) (tDS K E body) Dn σ H := by
  obtain ⟨τ, A0, P, ρ, S, c⟩ := h
  refine ⟨fun m σ' H' => ∃ ρ' P', SRep K τ A0 H' σ' ρ' P' ∧ CDS K E τ A0 H' P' (whGo fc body m ρ') Dn, ⟨N ρ, ρ, P, S, c⟩, ?_⟩
  rintro m σ' H' ⟨ρ', P', S2, c2⟩
  refine ⟨τ, A0, P', ρ', S2, CDE.toD ?_⟩
  cases m with
  | zero => exact c2.elim
  | succ n =>
    unfold whGo at c2
    cases q : fc ρ' with
    | err cc d => rw [q] at c2; exact c2
    | st => rw [q] at c2; exact c2
    | ok w ρ1 =>
      rw [q] at c2
      dsimp only at c2
      intro v H3 P3 t3 S3 r3
      split at c2
      · rename_i qb
        rw [qb] at r3
        refine ⟨true, rp_bool r3, iteT ⟨fun σ4 H4 => ∃ ρ4 P4, SRep K τ A0 H4 σ4 ρ4 P4 ∧ CDS K E τ A0 H4 P4 (whGo fc body n ρ4) Dn, fun σ4 H4 ⟨ρ4, P4, k1, k2⟩ => ⟨n, Nat.lt_succ_self n, ρ4, P4, k1, k2⟩, τ, A0, P3, ρ1, S3, ?_⟩⟩
        have c3 := CDS.stp t3 c2
        cases q4 : body ρ1 with
        | nx ρ6 =>
          rw [q4] at c3
          exact fun σ6 H6 P6 t6 S6 => ⟨ρ6, P6, S6, CDS.stp t6 c3⟩
        | ct ρ6 =>
          rw [q4] at c3
          exact fun σ6 H6 P6 t6 S6 => ⟨ρ6, P6, S6, CDS.stp t6 c3⟩
        | bk ρ6 =>
          rw [q4] at c3
          exact c3
        | ret w ρ6 =>
          rw [q4] at c3
          cases w with
          | pu dd => exact c3
          | frs ds => exact c3
        | err cc dd =>
          rw [q4] at c3
          exact c3
        | st =>
          rw [q4] at c3
          exact c3
      · rename_i qb
        rw [qb] at r3
        exact ⟨false, rp_bool r3, iteF (c2 σ' H3 P3 t3 S3)⟩
      · exact c2.elim
end
theorem ds_while {X : Cx} {E : XK} {c : Expr} {bodyS : List Stmt} {pos : Pos} {fc : Env → RE} {body : Env → RS} (N : Env → Nat) (hp : PassesOwn (model X.prog X.w) X.A X.env X.xe) (hc : DT X E c fc) (hb : DSs X E bodyS body) :
    DS X E (.While c bodyS [] pos) (fun ρ => whGo fc body (N ρ) ρ) := ⟨PS.weak (ps_while hp hc.pt hb.pss) fun Dn σ H h => while_of h⟩
end DL
/-! D7: defs and their calls. -/
namespace DL
open PySem L2 PyProof.Rows

inductive RF where
  | ok (w : W) (bs : List (Nat × List D))
  | err (c : Addr) (d : D)
  | st
def BRep (K : PySem.W.Frag) (τ : Nat → Addr) (A0 : List Addr) (H : Hp) (P : List Addr) (bs : List (Nat × List D)) : Prop :=
  ∀ b ∈ bs, τ b.1 ∈ P ∧ ∃ xs, H (τ b.1) = some (.lst xs) ∧ Rps K (hid (P ++ A0) H) xs b.2
def CDF (K : PySem.W.Frag) (E : XK) (τ : Nat → Addr) (A0 : List Addr) (H : Hp) (P : List Addr) (o : RF) (Q : VK) : Prop :=
  match o with
  | .ok (.pu d) bs => ∀ v H' P', Stp K H P H' P' → BRep K τ A0 H' P' bs → Rp K (hid (P' ++ A0) H') v d → Q v H'
  | .ok (.frs ds) bs => ∀ p xs H' P', Stp K H P H' P' → (p ∈ P ∨ H p = none) → p ∉ P' → p ∉ A0 → BRep K τ (p :: A0) H' P' bs → H' p = some (.lst xs) → Rps K (hid (P' ++ p :: A0) H') xs ds → Q (.ref p) H'
  | .err c d => ∀ dx v H' P', Stp K H P H' P' → (H dx = none ∧ H' dx = some (.xd [(("value" : Str), v)])) → Rp K (hid (P' ++ A0) H') v d → E (.ref c) (some dx) H'
  | .st => False
/-- a def's promise by a function of plain data -/
def spF (K : PySem.W.Frag) (F : List Sl → RF) : Sp := fun vs H Q E => ∃ τ A0 P as, SRep K τ A0 H (vs.map some) (as.map some) P ∧ CDF K E τ A0 H P (F as) Q
def tagOf : Option Sl → Option (Nat × List D)
  | some (.own (t + 1) ds) => some (t + 1, ds)
  | _ => none
def colE (ρ : Env) : List (Nat × List D) := ρ.filterMap tagOf
def fnF (n : Nat) (g : Env → RS) : List Sl → RF := fun as => match g (as.map some ++ List.replicate (n - as.length) none) with
  | .ret w ρ' => if (colE ρ').map (·.1) = (colE (as.map some)).map (·.1) then .ok w (colE ρ') else .st
  | .nx ρ' => if (colE ρ').map (·.1) = (colE (as.map some)).map (·.1) then .ok (.pu .none) (colE ρ') else .st
  | .err c d => .err c d
  | _ => .st
section
variable {K : PySem.W.Frag} {E : XK} {τ : Nat → Addr} {A0 P : List Addr} {H : Hp} {σ : L2.St} {ρ : Env} {Q : VK}
theorem SRep.col (S : SRep K τ A0 H σ ρ P) : BRep K τ A0 H P (colE ρ) := fun b hb => by
  obtain ⟨o, ho, e⟩ := List.mem_filterMap.mp hb
  obtain ⟨i, hi⟩ := List.mem_iff_getElem?.mp ho
  unfold tagOf at e
  split at e
  · rename_i t ds
    cases e
    obtain ⟨p, xs, h1, h2, h3, h4, h5⟩ := S.own i (t + 1) ds hi
    have hp : p = τ (t + 1) := h5.resolve_left (Nat.succ_ne_zero t)
    subst hp
    exact ⟨h2, xs, h3, h4⟩
  · cases e
theorem getElem_pad {α : Type} {l : List α} {n i : Nat} {x : α} (h : (l.map some ++ List.replicate n none)[i]? = some (some x)) : (l.map some)[i]? = some (some x) := by
  by_cases hi : i < (l.map some).length
  · rw [List.getElem?_append_left hi] at h
    exact h
  · rw [List.getElem?_append_right (by omega)] at h
    rw [List.getElem?_replicate] at h
    split at h
    · cases h
    · cases h
theorem getElem_padL {α : Type} {l : List α} {n i : Nat} {x : α} (h : (l.map some)[i]? = some (some x)) : (l.map some ++ List.replicate n none)[i]? = some (some x) := by
  have hi : i < (l.map some).length := (List.getElem?_eq_some_iff.mp h).1
  rw [List.getElem?_append_left hi]
  exact h
theorem SRep.pad {vs : List V} {as : List Sl} (S : SRep K τ A0 H (vs.map some) (as.map some) P) (n : Nat) : SRep K τ A0 H (vs.map some ++ List.replicate (n - vs.length) none) (as.map some ++ List.replicate (n - as.length) none) P := by
  have hl : vs.length = as.length := by simpa using S.len
  refine ⟨fun i m d q => ?_, fun i t ds q => ?_, fun i j t u es fs p hij e1 e2 e3 e4 => ?_, S.tr, by simp [hl], S.dj, S.tb, fun i g q => ?_⟩
  rotate_right
  · have cut : ∀ {j : Nat} {s : Sl}, (as.map some ++ List.replicate (n - as.length) none)[j]? = some (some s) → (as.map some)[j]? = some (some s) := fun {j s} z => getElem_pad z
    obtain ⟨⟨p, qs, n1, n2⟩, n3, n4⟩ := S.ns i g (cut q)
    exact ⟨⟨p, qs, getElem_padL n1, n2⟩, fun j h z => n3 j h (cut z), fun j t ds z => n4 j t ds (cut z)⟩
  · obtain ⟨v, h1, h2⟩ := S.pu i m d (getElem_pad q)
    exact ⟨v, getElem_padL h1, h2⟩
  · obtain ⟨p, xs, h1, h2⟩ := S.own i t ds (getElem_pad q)
    exact ⟨p, xs, getElem_padL h1, h2⟩
  · exact S.inj i j t u es fs p hij (getElem_pad e1) (getElem_pad e2) (getElem_pad e3) (getElem_pad e4)
/-- the body's reading from the promise -/
theorem fnF_of {n : Nat} {g : Env → RS} {vs : List V} {N : List Str} (hn : N.length = n) (h : spF K (fnF n g) vs H Q E) : tDS K E g { nx := fun _ H' => Q .non H', rt := Q } (start N vs) H := by
  obtain ⟨τ, A0, P, as, S, c⟩ := h
  subst hn
  refine ⟨τ, A0, P, _, S.pad N.length, ?_⟩
  unfold fnF at c
  cases q : g (as.map some ++ List.replicate (N.length - as.length) none) with
  | nx ρ' =>
    rw [q] at c
    dsimp only at c
    split at c
    · exact fun σ' H' P' t S' => c .non H' P' t S'.col .non
    · exact c.elim
  | ret w ρ' =>
    rw [q] at c
    dsimp only at c
    split at c
    · cases w with
      | pu d => exact fun v σ' H' P' t S' r => c v H' P' t S'.col r
      | frs ds => exact fun p xs σ' H' P' t hp n1 n2 S' hl r => c p xs H' P' t hp n1 n2 S'.col hl r
    · exact c.elim
  | bk ρ' => rw [q] at c; exact c.elim
  | ct ρ' => rw [q] at c; exact c.elim
  | err cc d => rw [q] at c; exact c
  | st => rw [q] at c; exact c
end

/-- a def keeps its promise, wherever no guard is up -/
structure FD (P : Program) (w : World) (K : PySem.W.Frag) (mg : Str → Option Value) (base : Heap) (k : Nat) (f : Addr) (fd : FuncData) (ps : List Str) (F : List Sl → RF) : Prop where
  run : ∀ (A : Around) (outer : List PySem.Env) (s : Shared) (H : Hp) (args : Args) (us : List Value) (vs : List V) (Q : VK) (E : XK), A.guards = some [] → Room k A → Env0 P w K mg base A outer s H → BindsTo s fd args (ps.zip us) → Vals vs us → vs.length = ps.length →
    spF K F vs H Q E → codeAny (model P w) A (.call (.ref f) args) (CR (L2.CX P w) outer P w H s Q E) s
theorem FD.mono {P : Program} {w : World} {K : PySem.W.Frag} {mg : Str → Option Value} {base : Heap} {j k : Nat} {f : Addr} {fd : FuncData} {ps : List Str} {F : List Sl → RF} (h : FD P w K mg base j f fd ps F) (hj : j ≤ k) : FD P w K mg base k f fd ps F :=
  ⟨fun A outer s H args us vs Q E hg hr => h.run A outer s H args us vs Q E hg (hr.mono hj)⟩
section
variable {P : Program} {w : World} {K : PySem.W.Frag} {mg : Str → Option Value} {base : Heap}
/-- the context of a def's body -/
abbrev fx (P : Program) (w : World) (K : PySem.W.Frag) (mg : Str → Option Value) (base : Heap) (N : List Str) (qual : Str) (st : Stmt) (f : Addr) (cdv : Value) (A : Around) (outer : List PySem.Env) (s : Shared) (H : Hp) (E : XK) : Cx :=
  cxOf (L2.CX P w) P w K mg base N qual (defScope st) f cdv A outer s H E
theorem FD.mk' {x qual : Str} {st : Stmt} {f : Addr} {fd : FuncData} {N ps : List Str} {k n : Nat} {g : Env → RS} (F : Fun K x qual st f fd) (S : FnScope N ps (defScope st)) (hn : N.length = n)
    (hbody : ∀ (cdv : Value) (A : Around) (outer : List PySem.Env) (s : Shared) (H : Hp) (E : XK), A.guards = some [] → Room k (A.deeper (envOfC qual (defScope st) s.heap.objs.size f cdv)) → DSs (fx P w K mg base N qual st f cdv A outer s H E) E (defBody st) g) :
    FD P w K mg base (k + 1) f fd ps (fnF n g) := by
  obtain ⟨oc, od, kV, doc, pm, an, cdv, ct, osl, rfl, lk, hcd⟩ := F.ex
  refine ⟨fun A outer s H args us vs Q E hg hr e0 hb rv hl h => LamX.run_ofS lk hcd S hr e0 hb rv hl fun hr2 => ?_⟩
  exact ⟨_, (hbody cdv A outer s H E hg hr2).pss, fnF_of hn h⟩
end
theorem guards_deeper {A : Around} {env : PySem.Env} : (A.deeper env).guards = A.guards := rfl
section
variable {X : Cx} {E : XK} {k : Nat} {f : Addr} {fd : FuncData} {ps : List Str} {F : List Sl → RF} {x : Str} {e : Expr} {es : List Expr} {p pos : Pos}
theorem run_fd {pins : List (Addr × Obj)} {σ : L2.St} {H : Hp} {s : Shared} {Q : VK} {us : List Value} {vs : List V} (h : FD X.prog X.w X.K X.mg X.base k f fd ps F) (hgd : X.A.guards = some []) (hr : Room k X.A) (hx : Passes (L2.CX X.prog X.w) X E) {args : Args}
    (I : Inv X pins σ H s) (r : Vals vs us) (hl : vs.length = ps.length) (hb : BindsTo s fd args (ps.zip us)) (q : spF X.K F vs H Q E) : codeAny (model X.prog X.w) X.A (.call (.ref f) args) (fun r s' => match r with | .ok (.ret u) => EP X pins σ Q u s' | .ok _ => False | .error e => X.xe e s') s := by
  refine codeAny_mono (h.run X.A X.stack s H args us vs Q E hgd hr I.env0 hb r hl q) fun o s' ho => ?_
  cases o with
  | error er => exact hx pins σ H s er s' I ho
  | ok fl =>
    cases fl with
    | ret u => exact I.after ho
    | next => exact ho
    | brk => exact ho
    | cont => exact ho
def retC (r : RF) (ρ : Env) : RE := match r with
  | .ok w [] => .ok w ρ
  | .err c d => .err c d
  | _ => .st
def fCallG (n : Nat) (π : List D → List D) (F : List Sl → RF) (fs : Env → RL) : Env → RE := fun ρ => match fs ρ with
  | .ok ds ρ1 => if ds.length = n then retC (F ((π ds).map .pu)) ρ1 else .st
  | .err c d => .err c d
  | .st => .st
def fCall (n : Nat) (F : List Sl → RF) (fs : Env → RL) : Env → RE := fCallG n id F fs
theorem getElem_pu {ds : List D} {i : Nat} {s : Sl} (h : ((ds.map Sl.pu).map some)[i]? = some (some s)) : ∃ d, ds[i]? = some d ∧ s = .pu d := by
  rw [List.getElem?_map, List.getElem?_map] at h
  cases q : ds[i]? with
  | none => rw [q] at h; cases h
  | some d =>
    rw [q] at h
    exact ⟨d, rfl, (Option.some.inj (Option.some.inj h)).symm⟩
theorem srep_args {K : PySem.W.Frag} {τ : Nat → Addr} {A : List Addr} {H : Hp} {vs : List V} {ds : List D} (tr : ∀ a ∈ A, H a ≠ none) (tb : LamX.Tabs (TbK K) H) (r : Rps K (hid A H) vs ds) : SRep K τ A H (vs.map some) ((ds.map Sl.pu).map some) [] := by
  refine ⟨fun i m d q => ?_, fun i t es q => ?_, fun i j t u es fs p hij e1 e2 e3 => ?_, tr, by simp [r.length], fun p hp => absurd hp (by simp), tb, fun i g q => by
    obtain ⟨d2, q1, q2⟩ := getElem_pu q
    cases q2⟩
  · obtain ⟨d2, q1, q2⟩ := getElem_pu q
    cases q2
    obtain ⟨v, h1, h2⟩ := r.get q1
    exact ⟨v, by rw [List.getElem?_map, h1]; rfl, h2, fun z => nomatch z⟩
  · obtain ⟨d2, q1, q2⟩ := getElem_pu q
    cases q2
  · obtain ⟨d2, q1, q2⟩ := getElem_pu e1
    cases q2
theorem call_pure {K : PySem.W.Frag} {τ : Nat → Addr} {A0 P : List Addr} {H : Hp} {σ : L2.St} {ρ : Env} {Q : VK} {vs : List V} {ds : List D} (S : SRep K τ A0 H σ ρ P) (r : Rps K (hid (P ++ A0) H) vs ds)
    (c : CDE K E τ A0 H P σ (retC (F (ds.map .pu)) ρ) Q) : spF K F vs H Q E := by
  unfold retC at c
  refine ⟨τ, P ++ A0, [], ds.map .pu, srep_args S.tr S.tb r, ?_⟩
  have ex : ∀ {H' : Hp} {P' : List Addr}, Stp K H [] H' P' → Gr K H H' := fun t => t.toGr
  cases q : F (ds.map .pu) with
  | err cc d =>
    rw [q] at c
    exact fun dx v H' P' t hx hr => c dx v H' P (Stp.gr (ex t)) hx (hr.ext (hid_less fun a z => List.mem_append_right _ z))
  | st => rw [q] at c; exact c.elim
  | ok w bs =>
    rw [q] at c
    cases bs with
    | cons b bs => exact c.elim
    | nil =>
      cases w with
      | pu d => exact fun v H' P' t _ hr => c v H' P (Stp.gr (ex t)) (S.grow (ex t)) (hr.ext (hid_less fun a z => List.mem_append_right _ z))
      | frs es =>
        intro p xs H' P' t hp n1 n2 _ hl hr
        have hp0 : H p = none := hp.resolve_left (by simp)
        obtain ⟨m1, m2⟩ := S.fresh hp0
        refine c p xs H' P (Stp.gr (ex t)) hp0 m1 m2 (S.addHid hp0 (ex t) (by rw [hl]; exact fun z => nomatch z)) hl (hr.ext (hid_less fun a z => List.mem_append_right _ ?_))
        rcases List.mem_append.mp z with z | z
        · exact List.mem_cons_of_mem _ (List.mem_append_left _ z)
        · rcases List.mem_cons.mp z with z | z
          · rw [z]; exact List.mem_cons_self
          · exact List.mem_cons_of_mem _ (List.mem_append_right _ z)
end

/-- a def at hand -/
structure Df (P : Program) (w : World) (K : PySem.W.Frag) (mg : Str → Option Value) (base : Heap) (x : Str) (st : Stmt) (k : Nat) (ps : List Str) (F : List Sl → RF) : Prop where
  ex : ∃ (f : Addr) (fd : FuncData), mg x = some (.ref f) ∧ FD P w K mg base k f fd ps F ∧ PySem.W.keepIn K (.ref f) = true ∧ (∀ us : List Value, us.length = ps.length → bindArgs fd ⟨us, []⟩ = pure (ps.zip us)) ∧
    ∃ (kV doc pm : Value) (an : Option Addr) (cdv ct : Value), fd = PySem.W.fnOf x x (defArgs st) (defBody st) (defScope st) .none kV doc pm an cdv ct
/-- where one may call: no guard is up, there is room, exceptions pass -/
structure Cn (X : Cx) (E : XK) (k : Nat) : Prop where
  gd : X.A.guards = some []
  rm : Room k X.A
  px : Passes (L2.CX X.prog X.w) X E
  tk : Takes X fun cls d _ H => E cls d H
  cm : X.calm = true
theorem Cn.blk {X : Cx} {E : XK} {k : Nat} (c : Cn X E k) {s : Shared} {H : Hp} {scope : Scope} {env : PySem.Env} {fp : List Addr} : Cn (X.blk s H scope env fp) E0 k := ⟨c.gd, c.rm, passL, fun _ _ x => by
    obtain ⟨_, _, _, _, _, _, _, _, _, _, _, _, _, _, _, _, z⟩ := x
    exact z.elim, c.cm⟩
theorem Cn.mono {X : Cx} {E : XK} {j k : Nat} (c : Cn X E k) (h : j ≤ k) : Cn X E j := ⟨c.gd, c.rm.mono h, c.px, c.tk, c.cm⟩
theorem Fun.ofD {K : PySem.W.Frag} {x qual : Str} {st : Stmt} {f : Addr} {fd : FuncData} (F : FunD K x qual (defArgs st) (defBody st) (defScope st) [] [] f fd) : Fun K x qual st f fd := by
  obtain ⟨oc, od, dV, kV, doc, pm, an, cdv, ct, osl, e, lk, hcd, hD, hK⟩ := F.ex
  rcases hD with ⟨_, rfl⟩ | ⟨z, _⟩
  · exact ⟨⟨oc, od, kV, doc, pm, an, cdv, ct, osl, e, lk, hcd⟩, F.kp⟩
  · exact absurd rfl z
section
variable {P : Program} {w : World} {K : PySem.W.Frag} {mg : Str → Option Value} {base : Heap}
theorem Df.mk' {x : Str} {st : Stmt} {f : Addr} {fd : FuncData} {N ps : List Str} {k n : Nat} {g : Env → RS} (F : FunD K x x (defArgs st) (defBody st) (defScope st) [] [] f fd) (hm : mg x = some (.ref f)) (S : FnScope N ps (defScope st)) (hn : N.length = n)
    (hb : ∀ (kV doc pm : Value) (an : Option Addr) (cdv ct : Value) (us : List Value), us.length = ps.length → bindArgs (PySem.W.fnOf x x (defArgs st) (defBody st) (defScope st) .none kV doc pm an cdv ct) ⟨us, []⟩ = pure (ps.zip us))
    (hbody : ∀ (cdv : Value) (A : Around) (outer : List PySem.Env) (s : Shared) (H : Hp) (E : XK), Cn (fx P w K mg base N x st f cdv A outer s H E) E k → DSs (fx P w K mg base N x st f cdv A outer s H E) E (defBody st) g) :
    Df P w K mg base x st (k + 1) ps (fnF n g) := by
  refine ⟨f, fd, hm, FD.mk' (Fun.ofD F) S hn fun cdv A outer s H E hg hr => hbody cdv A outer s H E ⟨hg, hr, passes_call (W := fun cls d _ H => E cls d H) (takes_of rfl rfl rfl rfl) (fun _ _ _ _ h => h), takes_of rfl rfl rfl rfl, rfl⟩, F.kp, ?_, ?_⟩
  · obtain ⟨oc, od, kV, doc, pm, an, cdv, ct, osl, rfl, lk, hcd⟩ := (Fun.ofD F).ex
    exact hb kV doc pm an cdv ct
  · obtain ⟨oc, od, kV, doc, pm, an, cdv, ct, osl, rfl, lk, hcd⟩ := (Fun.ofD F).ex
    exact ⟨kV, doc, pm, an, cdv, ct, rfl⟩
theorem Df.mono {x : Str} {st : Stmt} {j k : Nat} {ps : List Str} {F : List Sl → RF} (h : Df P w K mg base x st j ps F) (hj : j ≤ k) : Df P w K mg base x st k ps F := by
  obtain ⟨f, fd, h1, h2, h3⟩ := h.ex
  exact ⟨f, fd, h1, h2.mono hj, h3⟩
end
section
variable {X : Cx} {E : XK} {k m : Nat} {st : Stmt} {ps : List Str} {F : List Sl → RF} {x : Str} {e : Expr} {es : List Expr} {p pos : Pos}
theorem spF_call {n : Nat} {π : List D → List D} {πV : List V → List V} (hπ : ∀ {H : Hp} {vs : List V} {ds : List D}, Rps X.K H vs ds → ds.length = n → Rps X.K H (πV vs) (π ds)) {σ : L2.St} {H : Hp} {Q : VK} {fs : Env → RL} (h : tDE X.K E (fCallG n π F fs) σ H Q) :
    tDA X.K E fs σ H fun vs H1 => vs.length = n ∧ spF X.K F (πV vs) H1 Q E := by
  obtain ⟨τ, A0, P, ρ, S, c⟩ := h
  refine ⟨τ, A0, P, ρ, S, ?_⟩
  unfold fCallG at c
  cases q : fs ρ with
  | ok ds ρ1 =>
    rw [q] at c
    dsimp only at c
    by_cases hn : ds.length = n
    · rw [if_pos hn] at c
      exact fun vs H1 P1 t1 S1 r1 => ⟨r1.length.trans hn, call_pure S1 (hπ r1 hn) (CDE.stp t1 c)⟩
    · rw [if_neg hn] at c
      exact c.elim
  | err cc d => rw [q] at c; exact c
  | st => rw [q] at c; exact c
theorem run_df {pins : List (Addr × Obj)} {σ : L2.St} {H : Hp} {s : Shared} {Q : VK} {us : List Value} {vs : List V} {f : Addr} {fd : FuncData} (h : FD X.prog X.w X.K X.mg X.base k f fd ps F) (c : Cn X E m) (hk : k ≤ m) {args : Args}
    (I : Inv X pins σ H s) (r : Vals vs us) (hl : vs.length = ps.length) (hb : bindArgs fd args = pure (ps.zip us)) (q : spF X.K F vs H Q E) : codeAny (model X.prog X.w) X.A (.call (.ref f) args) (fun r s' => match r with | .ok (.ret u) => EP X pins σ Q u s' | .ok _ => False | .error e => X.xe e s') s :=
  run_fd (h.mono hk) c.gd c.rm c.px I r hl (.of_eq hb) q
/-- f(e, ..) -/
theorem de_call (h : Df X.prog X.w X.K X.mg X.base x st k ps F) (c : Cn X E m) {fs : Env → RL} (ha : DA X E (e :: es) fs) (hk : k ≤ m := by decide) (hg : Gl X x := by rfl)
    (hdb : (x == ("__debug__" : Str)) = false := by decide) (he : starEach (e :: es) X.env = (false, eval e X.env) :: starEach es X.env := by rfl) (hpl : (backTo pos (starEach es X.env)).any (·.1) = false := by rfl) :
    DE X E (.Call (.Name x p) (e :: es) [] pos) (fCall ps.length F fs) := by
  obtain ⟨f, fd, hm, hF, hkp, hb, _⟩ := h.ex
  refine ⟨⟨fun pins s σ H Q I hw => ?_⟩⟩
  refine wpAny_Call_Name_kw (ld_glob I hg hm ?_ hdb)
  refine PySem.W.callWith_K (h₀ := X.base) I.ok.mod.kin hkp (thn (ha.pa.run pos pins s σ H _ I (spF_call (πV := id) (fun r _ => r) hw)) fun us s1 ⟨vs, H1, I1, r, hlv, q⟩ => ⟨I1.kIn, ?_⟩) he hpl
  refine wpAny_call (codeAny_mono (run_df hF c hk I1 r hlv (hb us (by rw [← r.length]; exact hlv)) q) fun o s' ho => ?_)
  cases o with
  | error er => exact ho
  | ok fl => cases fl <;> exact ho
/-- f() -/
theorem de_call0 (h : Df X.prog X.w X.K X.mg X.base x st k [] F) (c : Cn X E m) (hk : k ≤ m := by decide) (hg : Gl X x := by rfl) (hdb : (x == ("__debug__" : Str)) = false := by decide) :
    DE X E (.Call (.Name x p) [] [] pos) (fCall 0 F fNil) := by
  obtain ⟨f, fd, hm, hF, hkp, hb, _⟩ := h.ex
  refine ⟨⟨fun pins s σ H Q I hw => ?_⟩⟩
  refine wpAny_Call_Name_kw (ld_glob I hg hm ?_ hdb)
  obtain ⟨τ, A0, P, ρ, S, z⟩ := hw
  refine PySem.W.callWith_K0 I.kIn hkp ?_
  refine wpAny_call (codeAny_mono (run_df (vs := []) (us := []) hF c hk I .nil rfl (hb [] rfl) (call_pure (ds := []) S .nil z)) fun o s' ho => ?_)
  cases o with
  | error er => exact ho
  | ok fl => cases fl <;> exact ho
/-- f(k = e, ..): the values in the order of the parameters -/
def pick {α : Type} (z : α) (ix : List Nat) (l : List α) : List α := ix.map fun i => l.getD i z
theorem pick_rps {K : PySem.W.Frag} {H : Hp} {vs : List V} {ds : List D} (r : Rps K H vs ds) : ∀ ix : List Nat, Rps K H (pick .non ix vs) (pick .none ix ds)
  | [] => .nil
  | i :: ix => by
    refine .cons ?_ (pick_rps r ix)
    show Rp K H (vs.getD i .non) (ds.getD i .none)
    rw [List.getD_eq_getElem?_getD, List.getD_eq_getElem?_getD]
    cases q : ds[i]? with
    | some d =>
      obtain ⟨v, h1, h2⟩ := r.get q
      rw [h1]
      exact h2
    | none =>
      have h1 : vs[i]? = none := List.getElem?_eq_none_iff.mpr (by rw [r.length]; exact List.getElem?_eq_none_iff.mp q)
      rw [h1]
      exact .non
theorem pick_vals {vs : List V} {us : List Value} (r : Vals vs us) : ∀ ix : List Nat, Vals (pick .non ix vs) (pick .none ix us)
  | [] => .nil
  | i :: ix => by
    refine .cons ?_ (pick_vals r ix)
    show RelV (vs.getD i .non) (us.getD i .none)
    rw [List.getD_eq_getElem?_getD, List.getD_eq_getElem?_getD]
    have hl := r.length
    cases q : vs[i]? with
    | some v =>
      obtain ⟨u, q2, q3⟩ := r.get q
      rw [q2]
      exact q3
    | none =>
      rw [r.none_of q]
      exact rfl
/-- the values of keywords, from the left -/
structure DK (X : Cx) (E : XK) (kws : List Keyword) (f : Env → RL) : Prop where
  pk : PK X kws (tDA X.K E f)
theorem PK.weak {kws : List Keyword} {t t' : TA} (h : PK X kws t) (w : ∀ σ H Q, t' σ H Q → t σ H Q) : PK X kws t' := ⟨fun pos pins s σ H Q I q => h.run pos pins s σ H Q I (w σ H Q q)⟩
theorem dk_nil : DK X E [] fNil := ⟨PK.weak pk_nil fun σ H Q ⟨τ, A0, P, ρ, S, c⟩ => c [] H P (Stp.rfl H P) S .nil⟩
theorem dk_cons {fa : Env → RE} {fr : Env → RL} {nm : Option Str} {kws : List Keyword} {kpos : Pos} (ha : DE X E e fa) (hr : DK X E kws fr) : DK X E (⟨nm, e, kpos⟩ :: kws) (fCons fa fr) := by
  refine ⟨PK.weak (pk_cons ha.pe hr.pk) fun σ H Q ⟨τ, A0, P, ρ, S, c⟩ => ⟨τ, A0, P, ρ, S, CDE.toD ?_⟩⟩
  unfold fCons at c
  cases q : fa ρ with
  | ok w ρ1 =>
    rw [q] at c
    intro v H1 P1 t1 S1 r1
    refine ⟨τ, A0, P1, ρ1, S1, ?_⟩
    dsimp only at c
    cases q2 : fr ρ1 with
    | ok ds ρ2 =>
      rw [q2] at c
      exact fun vs H2 P2 t2 S2 r2 => c (v :: vs) H2 P2 (t1.trans t2) S2 (.cons (r1.stp t2) r2)
    | err cc d =>
      rw [q2] at c
      exact fun dx v H2 P2 t2 hx hr => c dx v H2 P2 (t1.trans t2) ⟨t1.al _ hx.1, hx.2⟩ hr
    | st =>
      rw [q2] at c
      exact c
  | err cc d =>
    rw [q] at c
    exact c
  | st =>
    rw [q] at c
    exact c
/-- f(k = e, ..), ix: where the parameters' values stand among the keywords -/
theorem de_callK (h : Df X.prog X.w X.K X.mg X.base x st k ps F) (c : Cn X E m) {kws : List Keyword} {fs : Env → RL} (ks : List Str) (ix : List Nat) (ha : DK X E kws fs)
    (hb : ∀ (kV doc pm : Value) (an : Option Addr) (cdv ct : Value) (us : List Value), us.length = ks.length → bindArgs (PySem.W.fnOf x x (defArgs st) (defBody st) (defScope st) .none kV doc pm an cdv ct) ⟨[], ks.zip us⟩ = pure (ps.zip (pick .none ix us)))
    (hk : k ≤ m := by decide) (hix : ix.length = ps.length := by rfl) (hg : Gl X x := by rfl) (hdb : (x == ("__debug__" : Str)) = false := by decide)
    (hall : (backToKw pos (keywordEach kws X.env)).all (·.1.isSome) = true := by rfl) (hks : (backToKw pos (keywordEach kws X.env)).filterMap (·.1) = ks := by rfl)
    (hpl : ((backTo pos (starEach [] X.env)).any (·.1) || (backToKw pos (keywordEach kws X.env)).any (·.1.isNone)) = false := by rfl) :
    DE X E (.Call (.Name x p) [] kws pos) (fCallG ks.length (pick .none ix) F fs) := by
  obtain ⟨f, fd, hm, hF, hkp, _, kV, doc, pm, an, cdv, ct, e1⟩ := h.ex
  refine ⟨⟨fun pins s σ H Q I hw => ?_⟩⟩
  refine wpAny_Call_Name_kw (ld_glob I hg hm ?_ hdb)
  refine PySem.W.callWith_KW0 (h₀ := X.base) I.ok.mod.kin hkp hall ?_ hpl
  refine thn (ha.pk.run pos pins s σ H _ I (spF_call (πV := pick .non ix) (fun r _ => pick_rps r ix) hw)) fun us s1 ⟨vs, H1, I1, r, hlv, q⟩ => ⟨I1.kIn, ?_⟩
  rw [hks]
  have hl : (pick V.non ix vs).length = ps.length := by rw [← hix]; exact List.length_map _
  refine wpAny_call (codeAny_mono (run_df hF c hk I1 (pick_vals r ix) hl (by rw [e1]; exact hb kV doc pm an cdv ct us (by rw [← r.length]; exact hlv)) q) fun o s' ho => ?_)
  cases o with
  | error er => exact ho
  | ok fl => cases fl <;> exact ho
end

/-! ### a call that is lent an own list -/
section
variable {K : PySem.W.Frag} {τ : Nat → Addr} {A0 P : List Addr} {H H' : Hp} {σ : L2.St} {ρ : Env}
/-- an own list of ours has changed, new things are beside it, some of them hidden -/
theorem SRep.chgMore {B0 : List Addr} {i t : Nat} {ds es : List D} {q : Addr} {ys : List V} (S : SRep K τ A0 H σ ρ P) (hi : ρ[i]? = some (some (.own t ds))) (hp : σ[i]? = some (some (.ref q)))
    (hA : ∀ a ∈ B0, a ∈ A0 ∨ H a = none) (hB : ∀ a ∈ B0, H' a ≠ none)
    (k : ∀ a o, a ≠ q → H a = some o → NT o → H' a = some o) (al : ∀ a, H' a = none → H a = none) (tb : LamX.Tabs (TbK K) H → LamX.Tabs (TbK K) H') (h' : H' q = some (.lst ys)) (r : Rps K (hid (P ++ B0) H') ys es) : SRep K τ B0 H' σ (ρ.set i (some (.own t es))) P := by
  obtain ⟨p2, xs, b1, b2, b3, b4, b5⟩ := S.own i t ds hi
  rw [hp] at b1
  cases b1
  have hl : i < ρ.length := (List.getElem?_eq_some_iff.mp hi).1
  have ex : Ext (hid (P ++ A0) H) (hid (P ++ B0) H') := fun a o z => by
    obtain ⟨n, e⟩ := hid_of z
    rw [List.mem_append, not_or] at n
    refine hid_in (fun w => ?_) (k a o (fun w => n.1 (by rw [w]; exact b2)) e (hid_nt z)) (hid_nt z)
    rcases List.mem_append.mp w with w | w
    · exact n.1 w
    · rcases hA a w with w | w
      · exact n.2 w
      · rw [w] at e; cases e
  refine ⟨fun j m d z => ?_, fun j u gs z => ?_, fun j m u u2 fs gs b hjk e1 e2 e3 => ?_, fun a z n => ?_, by simpa using S.len, fun p hp z => ?_, tb S.tb, fun j g z => ?_⟩
  rotate_right
  · by_cases hj : i = j
    · subst hj
      rw [List.getElem?_set_self hl] at z
      cases z
    · rw [List.getElem?_set_ne hj] at z
      exact absurd hi ((S.ns j g z).2.2 i t ds)
  · by_cases hj : i = j
    · subst hj
      rw [List.getElem?_set_self hl] at z
      cases z
    · rw [List.getElem?_set_ne hj] at z
      obtain ⟨v, c1, c2, c3⟩ := S.pu j m d z
      exact ⟨v, c1, c2.ext ex.hs, c3⟩
  · by_cases hj : i = j
    · subst hj
      rw [List.getElem?_set_self hl] at z
      cases z
      exact ⟨q, ys, hp, b2, h', r, b5⟩
    · rw [List.getElem?_set_ne hj] at z
      obtain ⟨b, zs, c1, c2, c3, c4, c5⟩ := S.own j u gs z
      refine ⟨b, zs, c1, c2, k b _ (fun w => ?_) c3 (fun _ z => nomatch z), c4.ext ex, c5⟩
      subst w
      exact S.inj i j t u ds gs b hj hi z hp c1
  · have back : ∀ {j u : Nat} {gs : List D}, (ρ.set i (some (.own t es)))[j]? = some (some (.own u gs)) → ∃ hs, ρ[j]? = some (some (.own u hs)) := fun {j u gs} z => by
      by_cases hj : i = j
      · subst hj
        rw [List.getElem?_set_self hl] at z
        cases z
        exact ⟨_, hi⟩
      · rw [List.getElem?_set_ne hj] at z
        exact ⟨_, z⟩
    obtain ⟨_, q1⟩ := back e1
    obtain ⟨_, q2⟩ := back e2
    exact S.inj j m u u2 _ _ b hjk q1 q2 e3
  · rcases List.mem_append.mp z with z | z
    · exact S.tr a (List.mem_append_left _ z) (al a n)
    · exact hB a z n
  · rcases hA p z with w | w
    · exact S.dj p hp w
    · exact S.tr p (List.mem_append_left _ hp) w
def fLend (n i : Nat) (F : List Sl → RF) (fs : Env → RL) : Env → RE := fun ρ => match ρ[i]? with
  | some (some (.own _ _)) => (match fs ρ with
    | .ok es ρ1 => (match ρ1[i]? with
      | some (some (.own t ds)) => if es.length + 1 = n then (match F (.own 1 ds :: es.map .pu) with
        | .ok w [(1, ds2)] => .ok w (ρ1.set i (some (.own t ds2)))
        | .err c d => .err c d
        | _ => .st) else .st
      | _ => .st)
    | .err c d => .err c d
    | .st => .st)
  | _ => .st
theorem call_lend {E : XK} {F : List Sl → RF} {Q : VK} {vs : List V} {es ds : List D} {i t : Nat} {p : Addr} (S : SRep K τ A0 H σ ρ P) (hi : ρ[i]? = some (some (.own t ds))) (hp : σ[i]? = some (some (.ref p))) (r : Rps K (hid (P ++ A0) H) vs es)
    (c : CDE K E τ A0 H P σ (match F (.own 1 ds :: es.map .pu) with
        | .ok w [(1, ds2)] => .ok w (ρ.set i (some (.own t ds2)))
        | .err c d => .err c d
        | _ => .st) Q) : spF K F (.ref p :: vs) H Q E := by
  obtain ⟨p2, xs, b1, b2, b3, b4, b5⟩ := S.own i t ds hi
  rw [hp] at b1
  cases b1
  have pA : p ∉ A0 := S.dj p b2
  let B := P.filter (fun a => decide (a ≠ p)) ++ A0
  have mB : ∀ a, a ∈ [p] ++ B ↔ a ∈ P ++ A0 := fun a => by
    simp only [B, List.mem_append, List.mem_filter, List.mem_singleton, decide_eq_true_eq]
    constructor
    · rintro (z | z | z)
      · exact .inl (by rw [z]; exact b2)
      · exact .inl z.1
      · exact .inr z
    · rintro (z | z)
      · by_cases hz : a = p
        · exact .inl hz
        · exact .inr (.inl ⟨z, hz⟩)
      · exact .inr (.inr z)
  have eB : hid ([p] ++ B) H = hid (P ++ A0) H := hid_swap mB
  have lk : ∀ {j : Nat} {s : Sl}, ((Sl.own 1 ds :: es.map Sl.pu).map some)[j]? = some (some s) → (j = 0 ∧ s = .own 1 ds) ∨ ∃ k d, j = k + 1 ∧ es[k]? = some d ∧ s = .pu d := fun {j s} z => by
    cases j with
    | zero => exact .inl ⟨rfl, (Option.some.inj (Option.some.inj z)).symm⟩
    | succ k =>
      obtain ⟨d, q1, q2⟩ := getElem_pu (ds := es) (i := k) (s := s) z
      exact .inr ⟨k, d, rfl, q1, q2⟩
  refine ⟨fun _ => p, B, [p], .own 1 ds :: es.map .pu, ⟨fun j m d q => ?_, fun j u gs q => ?_, fun j k u u2 fs gs b hjk e1 e2 e3 => ?_, fun a z => S.tr a ((mB a).mp z), by simp [r.length], fun q hq z => ?_, S.tb, fun j g q => ?_⟩, ?_⟩
  rotate_right 2
  · rcases lk q with ⟨rfl, q⟩ | ⟨k, d', rfl, q1, q2⟩
    · cases q
    · cases q2
  rotate_left
  · rcases lk q with ⟨_, q⟩ | ⟨k, d', rfl, q1, q2⟩
    · cases q
    · cases q2
      obtain ⟨v, h1, h2⟩ := r.get q1
      refine ⟨v, ?_, ?_, fun z => nomatch z⟩
      · show ((V.ref p :: vs).map some)[k + 1]? = _
        rw [List.map_cons, List.getElem?_cons_succ, List.getElem?_map, h1]; rfl
      · show Rp K (hid ([p] ++ B) H) v d
        rw [eB]; exact h2
  · rcases lk q with ⟨rfl, q⟩ | ⟨k, d', rfl, q1, q2⟩
    · cases q
      exact ⟨p, xs, rfl, List.mem_cons_self, b3, by rw [eB]; exact b4, .inr rfl⟩
    · cases q2
  · rcases lk e1 with ⟨rfl, _⟩ | ⟨k', d', rfl, q1, q2⟩
    · rcases lk e2 with ⟨rfl, _⟩ | ⟨k', d', rfl, q1, q2⟩
      · exact absurd rfl hjk
      · cases q2
    · cases q2
  · rw [List.mem_singleton.mp hq] at z
    rcases List.mem_append.mp z with z | z
    · exact (of_decide_eq_true (List.mem_filter.mp z).2) rfl
    · exact pA z
  have step : ∀ {H' : Hp} {P2 : List Addr}, Stp K H [p] H' P2 → Stp K H P H' P := fun t => ⟨fun a o n h nt => t.kp a o (fun z => n (by rw [List.mem_singleton.mp z]; exact b2)) h nt, fun _ z => .inl z, t.al, t.tb⟩
  have less : ∀ {H' : Hp} {P2 : List Addr}, p ∈ P2 → Ext (hid (P2 ++ B) H') (hid (P ++ A0) H') := fun {H' P2} hp2 => hid_less fun a z => by
    rcases List.mem_append.mp ((mB a).mpr z) with z | z
    · exact List.mem_append_left _ (by rw [List.mem_singleton.mp z]; exact hp2)
    · exact List.mem_append_right _ z
  cases q : F (.own 1 ds :: es.map .pu) with
  | err cc d =>
    rw [q] at c
    exact fun dx v H' P' t hx hr => c dx v H' (P.filter (fun a => decide (a ≠ p))) ⟨(step t).kp, fun a z => .inl (List.mem_filter.mp z).1, t.al, t.tb⟩ hx (hr.ext (hid_less fun a z => List.mem_append_right _ z))
  | st => rw [q] at c; exact c.elim
  | ok w bs =>
    rw [q] at c
    split at c
    · rename_i w' ds2 e
      cases e
      cases w with
      | pu d =>
        intro v H' P' t B2 hr
        obtain ⟨hp2, ys, hl, hy⟩ := B2 (1, ds2) List.mem_cons_self
        exact c v H' P (step t) (S.chgMore (B0 := A0) hi hp (fun a z => .inl z) (fun a z n => S.tr a (List.mem_append_right _ z) (t.al a n)) (fun a o n h nt => t.kp a o (fun z => n (List.mem_singleton.mp z)) h nt) t.al t.tb hl (hy.ext (less hp2))) (hr.ext (less hp2))
      | frs gs =>
        intro p2 zs H' P' t hf n1 n2 B2 hl2 hr
        obtain ⟨hp2, ys, hl, hy⟩ := B2 (1, ds2) List.mem_cons_self
        have hp0 : H p2 = none := hf.resolve_left fun z => n1 (by rw [List.mem_singleton.mp z]; exact hp2)
        obtain ⟨m1, m2⟩ := S.fresh hp0
        have lessF : Ext (hid (P' ++ p2 :: B) H') (hid (P ++ p2 :: A0) H') := hid_less fun a z => by
          rcases List.mem_append.mp z with z | z
          · have z2 := List.mem_append.mp ((mB a).mpr (List.mem_append_left _ z))
            rcases z2 with z2 | z2
            · exact List.mem_append_left _ (by rw [List.mem_singleton.mp z2]; exact hp2)
            · exact List.mem_append_right _ (List.mem_cons_of_mem _ z2)
          · rcases List.mem_cons.mp z with z | z
            · rw [z]; exact List.mem_append_right _ List.mem_cons_self
            · have z2 := List.mem_append.mp ((mB a).mpr (List.mem_append_right _ z))
              rcases z2 with z2 | z2
              · exact List.mem_append_left _ (by rw [List.mem_singleton.mp z2]; exact hp2)
              · exact List.mem_append_right _ (List.mem_cons_of_mem _ z2)
        refine c p2 zs H' P (step t) hp0 m1 m2 (S.chgMore (B0 := p2 :: A0) hi hp (fun a z => ?_) (fun a z n => ?_) (fun a o n h nt => t.kp a o (fun z => n (List.mem_singleton.mp z)) h nt) t.al t.tb hl (hy.ext lessF)) hl2 (hr.ext lessF)
        · rcases List.mem_cons.mp z with z | z
          · exact .inr (by rw [z]; exact hp0)
          · exact .inl z
        · rcases List.mem_cons.mp z with z | z
          · rw [z, hl2] at n; cases n
          · exact S.tr a (List.mem_append_right _ z) (t.al a n)
    · cases w <;> exact (by first | exact c.elim | (simp_all; done))
    · exact c.elim
end
end DL
/-! D8: lent lists, own lists read and written, further statements. -/
namespace DL
open PySem L2 PyProof.Rows

section
variable {X : Cx} {E : XK} {k m i : Nat} {st : Stmt} {ps : List Str} {F : List Sl → RF} {x : Str} {e0 e : Expr} {es : List Expr} {p pos : Pos} {fa fb : Env → RE}
/-- f(x, e, ..), x an own list, lent -/
theorem de_lend (h : Df X.prog X.w X.K X.mg X.base x st k ps F) (c : Cn X E m) {fs : Env → RL} (h0 : PE X e0 (tVar i)) (ha : DA X E es fs) (hk : k ≤ m := by decide) (hg : Gl X x := by rfl)
    (hdb : (x == ("__debug__" : Str)) = false := by decide) (he : starEach (e0 :: es) X.env = (false, eval e0 X.env) :: starEach es X.env := by rfl) (hpl : (backTo pos (starEach es X.env)).any (·.1) = false := by rfl) :
    DE X E (.Call (.Name x p) (e0 :: es) [] pos) (fLend ps.length i F fs) := by
  obtain ⟨f, fd, hm, hF, hkp, hb, _⟩ := h.ex
  refine ⟨⟨fun pins s σ H Q I hw => ?_⟩⟩
  refine wpAny_Call_Name_kw (ld_glob I hg hm ?_ hdb)
  have hw2 : tCons (tVar i) (tDA X.K E fs) σ H fun vs H1 => vs.length = ps.length ∧ spF X.K F vs H1 Q E := by
    obtain ⟨τ, A0, P, ρ, S, c⟩ := hw
    unfold fLend at c
    split at c
    · rename_i t0 ds0 q0
      obtain ⟨q, xs, b1, b2, b3, b4, b5⟩ := S.own i t0 ds0 q0
      refine ⟨.ref q, b1, τ, A0, P, ρ, S, ?_⟩
      cases q1 : fs ρ with
      | err cc d => rw [q1] at c; exact c
      | st => rw [q1] at c; exact c
      | ok ds ρ1 =>
        rw [q1] at c
        dsimp only at c
        intro vs H1 P1 t1 S1 r1
        split at c
        · rename_i t ds1 q2
          by_cases hn : ds.length + 1 = ps.length
          · rw [if_pos hn] at c
            exact ⟨by rw [List.length_cons, r1.length, hn], call_lend S1 q2 b1 r1 (CDE.stp t1 c)⟩
          · rw [if_neg hn] at c
            exact c.elim
        · exact c.elim
    · exact c.elim
  refine PySem.W.callWith_K (h₀ := X.base) I.ok.mod.kin hkp (thn ((pa_cons h0 ha.pa he).run pos pins s σ H _ I hw2) fun us s1 ⟨vs, H1, I1, r, hlv, q⟩ => ⟨I1.kIn, ?_⟩) he hpl
  refine wpAny_call (codeAny_mono (run_df hF c hk I1 r hlv (hb us (by rw [← r.length]; exact hlv)) q) fun o s' ho => ?_)
  cases o with
  | error er => exact ho
  | ok fl => cases fl <;> exact ho
/-- x[e], x an own list that stays so -/
def fIxO (i : Nat) (fb : Env → RE) : Env → RE := fun ρ => match ρ[i]? with
  | some (some (.own _ _)) => (match fb ρ with
    | .ok w ρ1 => (match ρ1[i]?, w.d with
      | some (some (.own _ ds)), .int j => resW ((atI ds j).map .pu) ρ1
      | _, _ => .st)
    | .err c d => .err c d
    | .st => .st)
  | _ => .st
theorem de_ixO {a : Expr} (h0 : PE X a (tVar i)) (hb : DE X E e fb) (hs : PlainIx e := by exact fun _ _ => rfl) : DE X E (.Subscript a e pos) (fIxO i fb) := by
  refine ⟨PE.weak (pe_ix ix_seq h0 hb.pe hs) fun σ H Q ⟨τ, A0, P, ρ, S, c⟩ => ?_⟩
  unfold fIxO at c
  split at c
  · rename_i t0 ds0 q0
    obtain ⟨q, xs, b1, b2, b3, b4, b5⟩ := S.own i t0 ds0 q0
    refine ⟨.ref q, b1, τ, A0, P, ρ, S, CDE.toD ?_⟩
    cases q1 : fb ρ with
    | err cc d => rw [q1] at c; exact c
    | st => rw [q1] at c; exact c
    | ok w ρ1 =>
      rw [q1] at c
      dsimp only at c
      intro v H1 P1 t1 S1 r1
      split at c
      · rename_i t ds j q2 q3
        rw [q3] at r1
        obtain ⟨q', xs', d1, d2, d3, d4, d5⟩ := S1.own i t ds q2
        rw [b1] at d1
        cases d1
        cases q4 : atI ds j with
        | none => rw [q4] at c; exact c.elim
        | some d =>
          rw [q4] at c
          obtain ⟨u, h2, h3⟩ := atI_rps d4 q4
          exact .inl ⟨q, xs', j, u, rfl, rp_int r1, .inl (.inl d3), h2, c u H1 P1 t1 S1 h3⟩
      · exact c.elim
  · exact c.elim
/-- x[e] = v, x an own list -/
def sSetO (i : Nat) (fv fi : Env → RE) : Env → RS := sE fv fun wv ρ1 => match ρ1[i]? with
  | some (some (.own _ _)) => sE fi (fun wi ρ2 => match ρ2[i]?, wi.d with
    | some (some (.own t ds)), .int j => (match ixN ds.length j with
      | some n => .nx (ρ2.set i (some (.own t (ds.set n wv.d))))
      | none => .st)
    | _, _ => .st) ρ1
  | _ => .st
theorem SRep.slot {K : PySem.W.Frag} {τ : Nat → Addr} {A0 P : List Addr} {H : Hp} {σ : L2.St} {ρ : Env} (S : SRep K τ A0 H σ ρ P) {i t : Nat} {ds : List D} (h : ρ[i]? = some (some (.own t ds))) : ∃ p xs, σ[i]? = some (some (.ref p)) ∧ p ∈ P ∧ H p = some (.lst xs) ∧ Rps K (hid (P ++ A0) H) xs ds := by
  obtain ⟨p, xs, h1, h2, h3, h4, _⟩ := S.own i t ds h
  exact ⟨p, xs, h1, h2, h3, h4⟩
end
/-- tuple targets, names -/
def sBind (bind : D → Env → Option Env) (fe : Env → RE) : Env → RS := sE fe fun w ρ => match bind w.d ρ with
  | some ρ1 => .nx ρ1
  | none => .st
section
variable {X : Cx} {E : XK} {e tg : Expr} {fe : Env → RE} {pos : Pos}
theorem ds_asg {bind : D → Env → Option Env} {g : TG} {js : List Nat} (hb : GtOk X.K g bind js) (hg : PG X tg g) (he : DE X E e fe) (hs : swapsWithSole [tg] e pos.line X.env = pure false := by rfl) (hw : swappedStores [tg] e X.env = pure none := by rfl)
    (h1 : (assignEach [tg] X.env).map (·.2) = [assign tg X.env] := by rfl) : DS X E (.Assign [tg] e pos) (sBind bind fe) := by
  refine ⟨PS.weak (ps_asg he.pe hg hs hw h1) fun Dn σ H ⟨τ, A0, P, ρ, S, c⟩ => ⟨τ, A0, P, ρ, S, CDE.toD ?_⟩⟩
  unfold sBind sE at c
  cases q : fe ρ with
  | err cc d => rw [q] at c; exact c
  | st => rw [q] at c; exact c
  | ok w ρ1 =>
    rw [q] at c
    dsimp only at c
    intro v H' P' t S' r
    cases q2 : bind w.d ρ1 with
    | none => rw [q2] at c; exact c.elim
    | some ρ2 =>
      rw [q2] at c
      obtain ⟨σ2, S2, _, _, k2⟩ := hb τ A0 P' H' σ ρ1 ρ2 v w.d S' r q2
      exact k2 _ (c σ2 H' P' t S2)
theorem ds_setO {i : Nat} {o ix : Expr} {fi : Env → RE} {p2 : Pos} (h0 : PE X o (tVar i)) (he : DE X E e fe) (hi : DE X E ix fi)
    (ha : ∀ v, assign (.Subscript o ix p2) X.env v = (do
      let ov ← holding [v] (eval o X.env)
      let iv ← holding [v, ov] (eval ix X.env)
      standAt p2
      holding [v, ov, iv] (setItem ov iv v)
      release [v, ov, iv] []) := by intro _; rfl)
    (hs : swapsWithSole [.Subscript o ix p2] e pos.line X.env = pure false := by rfl) (hw : swappedStores [.Subscript o ix p2] e X.env = pure none := by rfl) (h1 : (assignEach [.Subscript o ix p2] X.env).map (·.2) = [assign (.Subscript o ix p2) X.env] := by rfl) :
    DS X E (.Assign [.Subscript o ix p2] e pos) (sSetO i fe fi) := by
  refine ⟨PS.weak (ps_asg he.pe (pg_sub h0 hi.pe set_list ha) hs hw h1) fun Dn σ H ⟨τ, A0, P, ρ, S, c⟩ => ⟨τ, A0, P, ρ, S, CDE.toD ?_⟩⟩
  unfold sSetO sE at c
  cases q : fe ρ with
  | err cc d => rw [q] at c; exact c
  | st => rw [q] at c; exact c
  | ok w ρ1 =>
    rw [q] at c
    dsimp only at c
    intro v H1 P1 t1 S1 r1
    split at c
    · rename_i t0 ds0 q0
      obtain ⟨p, xs, b1, b2, b3, b4⟩ := S1.slot q0
      refine ⟨.ref p, b1, τ, A0, P1, ρ1, S1, CDE.toD ?_⟩
      cases q2 : fi ρ1 with
      | err cc d => rw [q2] at c; exact fun dx u H2 P2 t2 hx2 hr => c dx u H2 P2 (t1.trans t2) ⟨t1.al _ hx2.1, hx2.2⟩ hr
      | st => rw [q2] at c; exact c
      | ok wi ρ2 =>
        rw [q2] at c
        dsimp only at c
        intro u H2 P2 t2 S2 r2
        split at c
        · rename_i t ds j q3 q4
          rw [q4] at r2
          obtain ⟨p', ys, d1, d2, d3, d4⟩ := S2.slot q3
          rw [b1] at d1
          cases d1
          cases q5 : ixN ds.length j with
          | none => rw [q5] at c; exact c.elim
          | some n =>
            rw [q5] at c
            obtain ⟨S3, hp⟩ := S2.chg q3 b1 (d4.set (r1.stp t2) n)
            exact ⟨p, ys, j, n, rfl, rp_int r2, d3, by rw [d4.length]; exact q5, c σ _ P2 ((t1.trans t2).trans (stp_own hp d3)) S3⟩
        · exact c.elim
    · exact c.elim
/-- x, y = e1, e2; the second's value may be a new list, then y's own -/
def sPar (i j : Nat) (fa fb : Env → RE) : Env → RS := sE fa fun wa ρ1 => sE fb (fun wb ρ2 => match wb with
  | .pu d => .nx ((ρ2.set i (some (.pu wa.d))).set j (some (.pu d)))
  | .frs ds => if noN (ρ2.set i (some (.pu wa.d))) then .nx ((ρ2.set i (some (.pu wa.d))).set j (some (.own 0 ds))) else .st) ρ1
theorem ds_par {i j : Nat} {x y : Str} {a b : Expr} {fa fb : Env → RE} {px py pt : Pos} {kt k2 pt2} (hc : X.calm = true) (hN : X.N.Nodup) (hi : X.N[i]? = some x) (hj : X.N[j]? = some y) (hij : i ≠ j)
    (hx : X.env.scope.names.lookup x = some .local) (hy : X.env.scope.names.lookup y = some .local) (ha : DE X E a fa) (hb : DE X E b fb)
    (he : starEach [a, b] X.env = (false, eval a X.env) :: starEach [b] X.env := by rfl) (he2 : starEach [b] X.env = (false, eval b X.env) :: starEach [] X.env := by rfl)
    (hw : swappedStores [.Tuple [.Name x px, .Name y py] kt pt] (.Tuple [a, b] k2 pt2) X.env = pure (some [x, y]) := by rfl)
    (hs : swapsWithSole [.Tuple [.Name x px, .Name y py] kt pt] (.Tuple [a, b] k2 pt2) pos.line X.env = pure false := by rfl) :
    DS X E (.Assign [.Tuple [.Name x px, .Name y py] kt pt] (.Tuple [a, b] k2 pt2) pos) (sPar i j fa fb) := by
  refine ⟨PS.weak (ps_par hc hN hi hj hij hx hy (pa_cons ha.pe (pa_cons hb.pe pa_nil he2) he) hw hs) fun Dn σ H ⟨τ, A0, P, ρ, S, c⟩ => ⟨τ, A0, P, ρ, S, CDE.toD ?_⟩⟩
  unfold sPar sE at c
  cases q : fa ρ with
  | err cc d => rw [q] at c; exact c
  | st => rw [q] at c; exact c
  | ok wa ρ1 =>
    rw [q] at c
    dsimp only at c
    intro v H1 P1 t1 S1 r1
    refine ⟨τ, A0, P1, ρ1, S1, ?_⟩
    cases q2 : fb ρ1 with
    | err cc d => rw [q2] at c; exact fun dx u H2 P2 t2 hx2 hr => c dx u H2 P2 (t1.trans t2) ⟨t1.al _ hx2.1, hx2.2⟩ hr
    | st => rw [q2] at c; exact c
    | ok wb ρ2 =>
      rw [q2] at c
      dsimp only at c
      cases wb with
      | pu d => exact fun u H2 P2 t2 S2 r2 => ⟨v, u, rfl, c _ H2 P2 (t1.trans t2) ((S2.put (r1.stp t2) i).put r2 j)⟩
      | frs ds =>
        dsimp only at c
        by_cases hnn : noN (ρ2.set i (some (.pu wa.d))) = true
        rotate_left
        · rw [if_neg hnn] at c
          exact c.elim
        rw [if_pos hnn] at c
        intro p xs H2 P2 t2 n n1 n2 S2 hl r2
        refine ⟨v, .ref p, rfl, c _ H2 (p :: P2) ⟨(t1.trans t2).kp, fun a z => ?_, (t1.trans t2).al, (t1.trans t2).tb⟩ (((S2.put (v := v) (d := wa.d) ?_ i)).own_ n2 hl r2 j hnn)⟩
        · rcases List.mem_cons.mp z with z | z
          · exact .inr (by rw [z]; exact t1.al p n)
          · exact (t1.trans t2).nw a z
        · refine r1.ext fun a o z => ?_
          obtain ⟨m, z2⟩ := hid_of z
          rw [List.mem_append, not_or] at m
          refine hid_in (fun w => ?_) (t2.kp a o m.1 z2 (hid_nt z)) (hid_nt z)
          rcases List.mem_append.mp w with w | w
          · rcases t2.nw a w with w | w
            · exact m.1 w
            · rw [w] at z2; cases z2
          · rcases List.mem_cons.mp w with w | w
            · rw [w, n] at z2; cases z2
            · exact m.2 w
end
/-! ### a < b < c; a module's constant -/
def fChain (g g' : D → D → Option W) (fa fb fc : Env → RE) : Env → RE := fun ρ => match fa ρ with
  | .ok wa ρ1 => (match fb ρ1 with
    | .ok wb ρ2 => (match g wa.d wb.d with
      | some (.pu (.bool true)) => (match fc ρ2 with
        | .ok wc ρ3 => resW (g' wb.d wc.d) ρ3
        | .err c d => .err c d
        | .st => .st)
      | some (.pu (.bool false)) => .ok (.pu (.bool false)) ρ2
      | _ => .st)
    | .err c d => .err c d
    | .st => .st)
  | .err c d => .err c d
  | .st => .st
section
variable {X : Cx} {E : XK} {a b c : Expr} {fa fb fc : Env → RE} {pos : Pos} {r r' : R2} {g g' : D → D → Option W} {op op' : CmpOp}
theorem chain_of {σ : L2.St} {H : Hp} {Q : VK} (h1 : Op2R X.K r g) (h2 : Op2R X.K r' g') (h : tDE X.K E (fChain g g' fa fb fc) σ H Q) : tChain r r' (tDE X.K E fa) (tDE X.K E fb) (tDE X.K E fc) σ H Q := by
  obtain ⟨τ, A0, P, ρ, S, z⟩ := h
  refine ⟨τ, A0, P, ρ, S, CDE.toD ?_⟩
  unfold fChain at z
  cases q : fa ρ with
  | err cc d => rw [q] at z; exact z
  | st => rw [q] at z; exact z
  | ok wa ρ1 =>
    rw [q] at z
    dsimp only at z
    intro v1 H1 P1 t1 S1 r1
    refine ⟨τ, A0, P1, ρ1, S1, CDE.toD ?_⟩
    cases q2 : fb ρ1 with
    | err cc d => rw [q2] at z; exact fun dx u H2 P2 t2 hx2 hr => z dx u H2 P2 (t1.trans t2) ⟨t1.al _ hx2.1, hx2.2⟩ hr
    | st => rw [q2] at z; exact z
    | ok wb ρ2 =>
      rw [q2] at z
      dsimp only at z
      intro v2 H2 P2 t2 S2 r2
      have fin : ∀ {w : W}, g wa.d wb.d = some w → (∀ v H3, Ext H2 H3 → Rp X.K (hid (P2 ++ A0) H3) v w.d → w = .pu w.d → ∃ k, v = .bl k ∧ if k = true then tDE X.K E fc σ H3 fun w' H4 => r' v2 w' H4 Q else Q (.bl false) H3) → (∀ ds, w ≠ .frs ds) →
          r v1 v2 H2 fun z H3 => ∃ k, z = .bl k ∧ if k = true then tDE X.K E fc σ H3 fun w' H4 => r' v2 w' H4 Q else Q (.bl false) H3 := fun {w} hg hq hn => by
        refine h1 (P2 ++ A0) H2 v1 v2 wa.d wb.d w _ S2.tr (r1.stp t2) r2 hg ?_
        cases w with
        | pu d => exact fun v H3 e3 r3 => hq v H3 e3 r3 rfl
        | frs ds => exact absurd rfl (hn ds)
      split at z
      · rename_i hg
        refine fin hg (fun v H3 e3 r3 _ => ⟨true, rp_bool r3, ?_⟩) fun ds w => nomatch w
        rw [if_pos rfl]
        refine ⟨τ, A0, P2, ρ2, S2.grow e3.gr, CDE.toD ?_⟩
        have t3 : Stp X.K H2 P2 H3 P2 := Stp.ext e3
        cases q3 : fc ρ2 with
        | err cc d => rw [q3] at z; exact fun dx u H4 P4 t4 hx2 hr => z dx u H4 P4 (t1.trans (t2.trans (t3.trans t4))) ⟨(t1.trans (t2.trans t3)).al _ hx2.1, hx2.2⟩ hr
        | st => rw [q3] at z; exact z
        | ok wc ρ3 =>
          rw [q3] at z
          dsimp only [resW] at z
          intro v4 H4 P4 t4 S4 r4
          cases q4 : g' wb.d wc.d with
          | none => rw [q4] at z; exact z.elim
          | some w =>
            rw [q4] at z
            exact h2 (P4 ++ A0) H4 v2 v4 wb.d wc.d w Q S4.tr ((r2.ext (Stp.hid t3)).stp t4) r4 q4 (giveW S4 (CDE.stp (t1.trans (t2.trans (t3.trans t4))) z))
      · rename_i hg
        refine fin hg (fun v H3 e3 r3 _ => ⟨false, rp_bool r3, ?_⟩) fun ds w => nomatch w
        rw [if_neg Bool.false_ne_true]
        exact z (.bl false) H3 P2 (t1.trans (t2.trans (Stp.ext e3))) (S2.grow e3.gr) (.bl false)
      · exact z.elim
theorem dt_chain (ho : OpR X (compareOp op) r) (h1 : Op2R X.K r g) (ho' : OpR X (compareOp op') r') (h2 : Op2R X.K r' g') (ha : DE X E a fa) (hb : DE X E b fb) (hc : DE X E c fc)
    (hm : lastMarks [op, op'] [b, c] = false := by with_unfolding_all rfl) : DT X E (.Compare a [op, op'] [b, c] pos) (fChain g g' fa fb fc) :=
  ⟨PT.weak (pt_chain ho ho' ha.pe hb.pe hc.pe hm) fun σ H Q h => chain_of h1 h2 h⟩
/-- a module's constant -/
theorem de_glob {x : Str} {v : V} {u : Value} {d : D} (hm : X.mg x = some u) (rl : RelV v u) (r : ∀ H, Rp X.K H v d) (hg : Gl X x := by rfl) (hd : (x == ("__debug__" : Str)) = false := by decide) : DE X E (.Name x pos) (fC d) := de_const (pe_glob hg hm rl hd) r
end
end DL
/-! D9: repr, cuts, list.index, list.count, the empty dict. -/
namespace DL
open PySem L2 PyProof.Rows

/-! ### repr -/
def gRepr : List D → Option W
  | [.dict []] => some (.pu (.str "{}"))
  | [d] => if d.canLay0 && d.showable && decide (d.shown.length ≤ sizeLine) && decide (d.depth ≤ 60) then some (.pu (.str d.shown)) else none
  | _ => none
def rRepr (K : PySem.W.Frag) : List V → Hp → VK → Prop := fun xs H Q => ∃ v d A, xs = [v] ∧ Rp K (hid A H) v d ∧ ((d = .dict [] ∧ Q (.str "{}") H) ∨ (d.canLay0 = true ∧ d.showable = true ∧ d.shown.length ≤ sizeLine ∧ d.depth ≤ 60 ∧ Q (.str d.shown) H))
section
variable {X : Cx} {E : XK} {m : Nat}
theorem shown_empty : (PyData.dict []).shown = ("{}" : Str) := by decide +kernel
theorem call_repr (c : Cn X E m) : CallR X (.builtin "repr") (rRepr X.K) := by
  intro pins s σ H xs us Q I r h
  obtain ⟨v, d, A, rfl, rd, q⟩ := h
  obtain ⟨u, rfl, ru⟩ := Vals.one r
  have un := c.rm.units
  have keep : ∀ {h' : Heap} {u2 : Tok} {tk : Nat} {x : Str}, (∀ b o, s.heap.get? b = some o → h'.get? b = some o) → Q (.str x) H → EP X pins σ Q (.str x u2) { s with heap := h', toks := tk } := fun {h' u2 tk x} hk q => ⟨.str x, H, I.kept hk, ⟨u2, rfl⟩, q⟩
  rcases q with ⟨rfl, q⟩ | ⟨hc, hs, hz, hd, q⟩
  · cases rd with
    | @emp ad h =>
      cases ru
      obtain ⟨_, ns, vs, kv, o, es, ep, e1, e2, e3, _, e5, _⟩ := I.hok _ _ (hid_of h).2
      have hcls : o.cls = .type "dict" := e2.1
      cases kv
      have hes : es.toList = [] := by
        cases hl : es.toList with
        | nil => rfl
        | cons x l => rw [hl] at e5; cases e5
      refine PySem.repr_of_reads' (d := .dict []) (as := [ad]) (h₀ := s.heap) (Reads.dict (kvs := []) (as := []) (bs := []) e1 hcls e3 (by rw [hes]; exact .nil) (by rw [hes]; exact .nil)) (by decide +kernel) (fun _ z => ?_) c.gd (by show X.A.units + (PyData.depth (.dict []) + 1) < cLine; simp only [PyData.depth, PyData.depthKv]; omega) (fun _ _ e => e) (fun h' u2 tk hk => ?_) (by rw [shown_empty]; decide +kernel)
      · rw [List.mem_singleton.mp z, beq_self_eq_true] at ns
        cases ns
      · rw [shown_empty]
        exact keep hk q
  · obtain ⟨as, rr⟩ := Dp.reads I d v u ((rd.ext hid_ext).dp hc) ru
    have go : ∀ a, u = .ref a → wpAny (model X.prog X.w) X.A (call (.builtin "repr") [u]) (EP X pins σ Q) X.xe s := fun a e => by
      subst e
      exact PySem.repr_of_reads' rr hs (fun z => by rw [PyData.hasDict_of_canLay d hc] at z; cases z) c.gd (by omega) (fun _ _ e => e) (fun h' u2 tk hk => keep hk q) hz
    cases rd with
    | non => cases ru; exact P.repr_of_none (keep (fun _ _ e => e) (by simpa only [PyData.shown] using q))
    | bl b => cases ru; exact P.repr_of_bool (keep (fun _ _ e => e) (by simpa only [PyData.shown] using q))
    | int i =>
      obtain ⟨t, rfl⟩ := ru
      exact P.repr_of_int (by simpa [PyData.showable] using hs) (keep (fun _ _ e => e) (by simpa only [PyData.shown] using q))
    | str x =>
      obtain ⟨t, rfl⟩ := ru
      exact P.repr_of_str (keep (fun _ _ e => e) (by simpa only [PyData.shown] using q)) (by simpa only [PyData.shown] using hz)
    | lst h r => cases ru; exact go _ rfl
    | tup h r => cases ru; exact go _ rfl
    | emp h => cases hc
    | exc h1 h2 r => cases hc
    | fn => cases hc
theorem cal_repr {K : PySem.W.Frag} : CalR K (rRepr K) gRepr := fun A H xs ds w Q tr r q gw => by
  unfold gRepr at q
  split at q
  · cases q
    obtain ⟨v, rfl, h1⟩ := rps_one r
    exact ⟨v, _, A, rfl, h1, .inl ⟨rfl, give_pu (.str _) gw⟩⟩
  · rename_i d _
    obtain ⟨v, rfl, h1⟩ := rps_one r
    by_cases c : (d.canLay0 && d.showable && decide (d.shown.length ≤ sizeLine) && decide (d.depth ≤ 60)) = true
    · rw [if_pos c] at q
      cases q
      simp only [Bool.and_eq_true, decide_eq_true_eq] at c
      exact ⟨v, d, A, rfl, h1, .inr ⟨c.1.1.1, c.1.1.2, c.1.2, c.2, give_pu (.str _) gw⟩⟩
    · rw [if_neg c] at q
      cases q
  · cases q
theorem d_repr {e : Expr} {fr : Env → RL} {p pos : Pos} (c : Cn X E m) (ha : DA X E [e] fr) (hm : X.mg "repr" = none) (hg : Gl X "repr" := by rfl) (he : starEach [e] X.env = (false, eval e X.env) :: starEach [] X.env := by rfl) :
    DE X E (.Call (.Name "repr" p) [e] [] pos) (bndA fr gRepr) := de_callB (call_repr c) cal_repr hg hm (by decide +kernel) ha (by decide) (by decide) he

/-! ### cuts with written bounds -/
theorem po_c {i : Int} {j p} : PO X (some (.Constant (.int i) j p)) (fun _ H Q => Q (some i) H) := by
  refine ⟨fun pins s σ H Q I h => (po_some (pe_int (i := i))).run pins s σ H Q I ⟨i, rfl, h⟩⟩
theorem po_n : PO X none (fun _ H Q => Q none H) := po_none
def cutD (ds : List D) (lo hi : Option Int) : List D := (ds.drop (HT.sIx ds.length 0 lo)).take (HT.sIx ds.length ds.length hi - HT.sIx ds.length 0 lo)
def gCut (lo hi : Option Int) : D → Option W
  | .list ds => some (.frs (cutD ds lo hi))
  | _ => none
theorem Rps.cut {K : PySem.W.Frag} {H : Hp} {vs : List V} {ds : List D} (r : Rps K H vs ds) (lo hi : Option Int) : Rps K H (cutV vs lo hi) (cutD ds lo hi) := by
  unfold cutV cutD
  rw [r.length]
  exact (r.drop _).take _
theorem de_cut {lo hi : Option Expr} {l h : Option Int} {e : Expr} {fa : Env → RE} {p2 pos : Pos} (hl : PO X lo (fun _ H Q => Q l H)) (hh : PO X hi (fun _ H Q => Q h H)) (ha : DE X E e fa) : DE X E (.Subscript e (.Slice lo hi none p2) pos) (fOp1 (gCut l h) fa) := by
  refine ⟨PE.weak (pe_slice sl_list ha.pe hl hh) fun σ H Q z => ?_⟩
  refine tde_bnd z fun v H' τ A0 P' ρ' d S r c => ?_
  unfold gCut at c
  cases d with
  | list ds =>
    obtain ⟨b, xs, rfl, h1, _, s1⟩ := rp_out r
    refine ⟨b, xs, rfl, .inl (.inl h1), fun p hp => ?_⟩
    have g := giveW S c
    exact give_lst (s1.cut l h) g p hp
  | _ => exact c.elim
end
end DL
/-! D10: own exceptions X(value), whose __init__ says super().__init__(value); self.value = value. -/
namespace DLX
open PySem PySem.W PySem.Calls PyProof.Rows PySem.HandSPX

def xA (p1 p2 p3 : Pos) (j : Nat) : Arguments := { posonlyargs := [], args := [⟨"self", none, p1⟩, ⟨"value", none, p2⟩], vararg := none, kwonlyargs := [], kw_defaults := [], kwarg := none, defaults := [.Constant .none j p3] }
def xB (a b c d e f g h i k : Pos) : List Stmt := [.Expr (.Call (.Attribute (.Call (.Name "super" a) [] [] b) "__init__" c) [.Name "value" d] [] e) f, .Assign [.Attribute (.Name "self" g) "value" h] (.Name "value" i) k]
def xS : Scope := { kind := .function, names := [(PySem.Str.ofString "self", .local), (PySem.Str.ofString "value", .local), (PySem.Str.ofString "__class__", .free), (PySem.Str.ofString "super", .globalImplicit)], isGenerator := false, isCoroutine := false, more := [] }

/-- what the written part says of an own exception class at C and its __init__ at fI -/
structure ExT (prog : Program) (K : Frag) (mg : Str → Option Value) (x : Str) (C : Addr) : Prop where
  gC : mg x = some (.ref C)
  noS : mg "super" = none
  top : (prog.main.scope.names.lookup ("super" : Str)).isSome = false
  kC : keepIn K (.ref C) = true
  cls : ∃ nm q N bs bm sn sub ab col dd k0 k1 k2 k3 k5, K.lookup C = some (excClassObj nm q C N bs bm true sn sub ab col dd k0 k1 k2 k3 k5 "ValueError.__new__") ∧ refsVE bm = true
  sa : findIn K (.ref C) "__setattr__" = some (some (.builtin "object.__setattr__"))
  ga : findIn K (.ref C) "__getattribute__" = some (some (.builtin "BaseException.__getattribute__"))
  gg : findIn K (.ref C) "__getattr__" = some none
  noN : findIn K (.ref C) "value" = some none
  exC : subIn K (.ref C) (.type "BaseException") = some true
  tyC : typeIn K (.ref C) = some (.type "type")
  hdC : hasDictIn K C = true
  sup : ks_superIn K C C "__init__" = some (some (.builtin "ValueError.__init__"))
  opq : nsIn K cStatics "thirdparty.any" = some none
  sV : subIn K (.ref C) (.type "ValueError") = some true
  mroC : mroIn K C (.ref C) = some true
  fn : ∃ (fI : Addr) (oc : Value) (od : Option Addr) (T : Addr) (kV doc pm : Value) (an : Option Addr) (cda cc : Addr) (ct : Value) (osl : Array (Option Value)) (qual : Str) (A : Arguments) (B : List Stmt),
    findIn K (.ref C) "__init__" = some (some (.ref fI)) ∧ typeIn K (.ref fI) = some (.type "function") ∧
    K.lookup fI = some ⟨oc, od, .func (ksFn "__init__" qual A B xS (.ref T) kV doc pm an (.ref cda) ct cc), osl⟩ ∧ (∃ (oT : Obj) (n : Nat), K.lookup T = some oT ∧ oT.data = .seq [Value.none].toArray n) ∧ codeIn K (.ref cda) qual = true ∧
    (∃ (p1 p2 p3 : Pos) (j : Nat), A = xA p1 p2 p3 j) ∧ (∃ a b c d e f g h i k : Pos, B = xB a b c d e f g h i k ∧ (c.endLine == e.line) = true) ∧
    (∃ (cl : Value) (cld : Option Addr) (csl : Array (Option Value)), K.lookup cc = some ⟨cl, cld, .cell (some (.ref C)), csl⟩) ∧
    ∃ (ccl : Value) (cdd : Option Addr) (vs : Array Value) (ccs : Array (Option Value)) (file : Str) (tf : Tok), K.lookup cda = some ⟨ccl, cdd, .fields vs, ccs⟩ ∧ vs[2]? = some (.str file tf) ∧ ((prog.main.file : Str) == file) = true

theorem one_size (v : Value) : [v].length ≤ sizeLine := by
  rw [sizeLine_eq]
  exact (by decide : 1 ≤ 16777216)
theorem kept_but {K : Frag} {h h' : Heap} {x : Addr} (X : K.In h) (hx : K.lookup x = none) (k : ∀ b o, b ≠ x → h.get? b = some o → h'.get? b = some o) : K.In h' := fun a o e =>
  k a o (fun z => by rw [z, hx] at e; cases e) (X a o e)
theorem xs_call {prog : Program} {w : World} {A : Around} {c : Code} {E : Value → Shared → Prop} {s : Shared} {env : Env} {o e : Expr} {name : Str} {apos pos : Pos} {Q : Value → Shared → Prop} (hline : (apos.endLine == pos.line) = true)
    (h : _root_.PySem.wpAt (model prog w) A c (attributeBase o name env (eval o env)) (fun ov s₁ => ∀ pl : Sem Bool, wpAny (model prog w) A (getMethod ov name pl) (fun fx s₂ => wpAny (model prog w) A (callWith pos fx.1 fx.2 (backTo pos (starEach [e] env)) []) Q E s₂) E s₁) E s)
    (hform : methodCallForm 1 (backTo pos (starEach [e] env)) (backToKw pos (keywordEach [] env)) = true := by rfl) :
    _root_.PySem.wpAt (model prog w) A c (eval (.Call (.Attribute o name apos) [e] [] pos) env) Q E s := by
  rw [arm_eval_Call]
  refine _root_.PySem.wpAt_bind (ks_wpAt_mono h (fun ov s1 h1 => _root_.PySem.wpAt_of_wpAny (wpAny_bind (wpAny_standAt ?_))) fun _ _ x => x)
  have hpos : methodCallPos true o env apos pos = pure pos := by
    unfold methodCallPos
    simp [hline]
  show wpAny _ _ (methodCall o name apos pos env ov 1 (backTo pos (starEach [e] env)) (backToKw pos (keywordEach [] env))) _ _ _
  unfold methodCall
  rw [hform]
  refine wpAny_bind (wpAny_holding ?_)
  have key : ∀ (fx : Value × List Value) (s2 : Shared), wpAny (model prog w) A (callWith pos fx.1 fx.2 (backTo pos (starEach [e] env)) []) Q E s2 → wpAny (model prog w) A (do
      let callPos ← methodCallPos true o env apos pos
      callWith callPos fx.1 fx.2 (backTo pos (starEach [e] env)) (backToKw pos (keywordEach [] env))) Q E s2 := fun fx s2 z => by
    rw [hpos]
    exact wpAny_bind (wpAny_pure z)
  exact wpAny_mono (h1 _) (fun fx s2 z => key fx s2 z) fun _ _ x => x
/-- the module's side of a heap -/
structure Glo (prog : Program) (mg : Str → Option Value) (h : Heap) : Prop where
  g : h.Ns mainGlobals mg
  b : ∃ mb, h.Ns builtinsNs mb ∧ ∀ x : Str, x ≠ "__name__" → mb x = bootBuiltins x
  lim : h.NoLimit
theorem Glo.keeps {prog : Program} {mg : Str → Option Value} {h h' : Heap} (G : Glo prog mg h) (k : ∀ b o, h.get? b = some o → h'.get? b = some o) : Glo prog mg h' := by
  obtain ⟨mb, h1, h2⟩ := G.b
  exact ⟨G.g.keeps k, ⟨mb, h1.keeps k, h2⟩, G.lim.keeps k⟩
/-- what __init__ leaves of a fresh exception at x -/
structure InitEnd (h h' : Heap) (x C dx t1 : Addr) (v : Value) : Prop where
  keep : ∀ b o, b ≠ x → h.get? b = some o → h'.get? b = some o
  obj : h'.get? x = some { cls := .ref C, dict := some dx, data := .fields #[.ref t1, .none, .none, .none, .bool false, .none] }
  dbig : h.objs.size ≤ dx
  dne : dx ≠ x
  ns : h'.Ns1 dx (fun y => if y = "value" then some v else none)
section
variable {prog : Program} {w : World} {A : Around} {E : Value → Shared → Prop} {R : Result → Shared → Prop} {s : Shared} {K : Frag} {mg : Str → Option Value} {C : Addr} {cn : Str}
theorem ex_init (T : ExT prog K mg cn C) {x t0 fI : Addr} {v : Value} (X : K.In s.heap) (G : Glo prog mg s.heap) (hi : findIn K (.ref C) "__init__" = some (some (.ref fI))) (hx : s.heap.get? x = some (excO C t0)) (hnx : K.lookup x = none) (hroom : A.depth < recursionLimit)
    (hq : ∀ h' tk dx t1, InitEnd s.heap h' x C dx t1 v → R (.ok (.ret .none)) { s with heap := h', toks := tk }) :
    codeAny (model prog w) A (.call (.ref fI) ⟨[.ref x, v], []⟩) R s := by
  obtain ⟨fI', oc, od, TD, kV, doc, pm, an, cda, cc, ct, osl, qual, AA, BB, hi', tI, ho, ⟨oT, nT, hT, hTd⟩, hcd, ⟨p1, p2, p3, j, rfl⟩, ⟨a, b, c, d, e, f, g, h, i, k, rfl, hln⟩, ⟨cl, cld, csl, hcell⟩, ccl, cdd, vs, ccs, file, tf, hcode, hvs, hfile⟩ := T.fn
  rw [hi] at hi'
  cases hi'
  obtain ⟨nm, q, N, bs, bm, sn, sub, ab, col, dd, k0, k1, k2, k3, k5, hC, hbm⟩ := T.cls
  have hcl : clsIn K C = some { name := nm, bases := bs, mro := .ref C :: bm, ns := N, qualname := q, hasDict := true, slotNames := sn, subclasses := sub, abstract := ab, collection := col, hasDel := false } := by unfold clsIn; rw [hC] <;> rfl
  refine ks_codeAny_call_defAt (fd := ksFn "__init__" qual (xA p1 p2 p3 j) (xB a b c d e f g h i k) xS (.ref TD) kV doc pm an (.ref cda) ct cc) (binds := [("self", .ref x), ("value", v)]) hroom (X _ _ ho) rfl G.lim (codeRec_of X hcd) rfl (BindsTo.of_defaults (T := TD) rfl (X _ _ hT) hTd (by first | rfl | with_unfolding_all rfl) (by first | rfl | with_unfolding_all rfl)) (by show ∀ y ∈ xS.names, y.2 ≠ .cell; decide) (by
    intro y hy
    rcases List.mem_cons.mp hy with z | hy
    · rw [z]; rfl
    · rw [List.mem_singleton.mp hy]; rfl) (fun h₁ hns hk₁ => ?_)
  have X₁ : K.In h₁ := X.keeps hk₁
  have G₁ := G.keeps hk₁
  have hx₁ := hk₁ _ _ hx
  have IA : InstAt h₁ x (excO C t0) C none := ⟨hx₁, rfl, rfl, trivial⟩
  obtain ⟨hp, gs, dr, tk, os⟩ := s
  obtain ⟨oD, hD1, hD2⟩ : ∃ oD, h₁.get? C = some oD ∧ ∃ cd, oD.data = .cls cd := ⟨_, X₁ _ _ hC, _, rfl⟩
  obtain ⟨cdD, hD2⟩ := hD2
  refine ks_wpAt_execs_cons (ks_wpAt_Expr_any (xs_call hln ?_))
  obtain ⟨mb, hb1, hb2⟩ := G₁.b
  refine ks_wpAt_super_base (env := ksEnv qual xS hp.objs.size fI (.ref cda) cc) (by rfl) (by rfl) (by decide) rfl (X₁ _ _ ho) rfl (by rfl) rfl (X₁ _ _ hcode) rfl hvs hfile T.top ?_
  refine ks_loadName_global (by rfl) (by rfl) (loadGlobal_builtin (env := ksEnv qual xS hp.objs.size fI (.ref cda) cc) G₁.g T.noS hb1 ((hb2 _ (by decide +kernel)).trans (by kernel_rfl)) ⟨rfl, ?_⟩)
  refine wpAny_loadName_free (by rfl) (by rfl) (by rfl) ⟨_, X₁ _ _ hcell, rfl⟩ ?_
  refine wpAny_loadName_local (by rfl) (by rfl) hns (by first | rfl | with_unfolding_all rfl | kernel_rfl) ?_
  refine ks_wpAny_isType_cls hD1 hD2 ⟨rfl, ?_⟩
  refine ks_wpAny_call_super hD1 hD2 IA.at_ IA.cls (fun c e => ?_) (looks_mroIn X₁ T.mroC) (fun h2 e2 kk2 => ?_)
  · have := IA.no
    unfold notCls at this
    rw [e] at this
    exact Bool.noConfusion this
  have X₂ : K.In h2 := X₁.keeps kk2
  have hx₂ := kk2 _ _ hx₁
  have IA2 : InstAt h2 x (excO C t0) C none := ⟨hx₂, rfl, rfl, trivial⟩
  have hxC : x ≠ C := fun z => by rw [z] at hx₂; rw [X₂ _ _ hC] at hx₂; cases hx₂
  have hI : Looks (model prog w) h2 (isInstance (.ref x) (.type "ValueError")) true := IA2.type.andThen (looks_subIn X₂ T.sV)
  have hsup := T.sup
  unfold ks_superIn at hsup
  rw [hcl] at hsup
  intro pl
  have hC₂ := X₂ _ _ hC
  have hmro : Looks (model prog w) h2 (mroOf (.ref C)) (.ref C :: bm) := (looks_clsIn X₂ hcl).andThen .now
  refine kxs_getMethod kxs_ValueError e2 (looks_opaque X₂ T.opq) hmro rfl X₂ hsup hI hxC (by decide) ?_
  have kk3 : ∀ b o, h2.get? b = some o → (h2.push (kxs_mw "ValueError.__init__" x)).get? b = some o := fun b o z => Heap.get?_push_of_some _ z
  have hu3 : (h2.push (kxs_mw "ValueError.__init__" x)).get? h2.objs.size = some (kxs_mw "ValueError.__init__" x) := Heap.get?_push_at rfl rfl
  have hns3 := (hns.keeps kk2).keeps kk3
  have X₃ : K.In (h2.push (kxs_mw "ValueError.__init__" x)) := X₂.keeps kk3
  have hx₃ := kk3 _ _ hx₂
  have hC₃ := X₃ _ _ hC
  have hvl : ∀ {A' : Around} {E' : Value → Shared → Prop} {Q' : Value → Shared → Prop} {h' : Heap} {t' : Nat} {pp : Pos}, h'.Ns hp.objs.size (fun y => [(("self" : Str), Value.ref x), (("value" : Str), v)].reverse.lookup y) → Q' v ⟨h', gs, dr, t', os⟩ → wpAny (model prog w) A' (eval (.Name "value" pp) (ksEnv qual xS hp.objs.size fI (.ref cda) cc)) Q' E' ⟨h', gs, dr, t', os⟩ := fun hn q =>
    wpAny_Name (wpAny_loadName_local (by rfl) (by rfl) hn (by first | rfl | with_unfolding_all rfl | kernel_rfl) q) (by decide)
  refine kxs_callWith (i := "ValueError.__init__") (x := x) (u := h2.objs.size) (by rfl) (evalArgs_plain ?_)
  refine Calls.spliced_cons (hvl hns3 ?_)
  refine Calls.spliced_nil ⟨hu3, ?_⟩
  refine wpAny_call (codeAny_of_tree ?_)
  show wpAny _ (Around.in1 _) (callAny (.ref h2.objs.size) ⟨[v], []⟩) _ _ _
  simp only [callAny]
  refine wpAny_bind (wpAny_load hu3 ?_)
  have tt : (Value.type "method-wrapper" == Value.type "method" || Value.type "method-wrapper" == Value.type "builtin_function_or_method"
      || Value.type "method-wrapper" == Value.type "method-wrapper") = true := by decide
  simp only [kxs_mw, tt, if_true]
  refine KFB.if_so (by decide) ?_
  have FB := PySem.F.excBase_ValueError
  refine wpAny_bind (check_bound_init FB.toExcCallFacts hC₃ hx₃ rfl ?_)
  refine wpAny_bind (wpAny_pure (wpAny_pure ?_))
  refine ⟨plainId_quiet FB.init.plain _, codeAny_builtin FB.initEntry ?_⟩
  refine exc_init_tree (cls := .ref C) (t0 := t0) (dv := none) (c2 := .none) (c3 := .none) (b4 := .bool false) hx₃ (one_size v) fun h4 kk4 ex4 et4 => ?_
  -- self.value = value
  refine _root_.PySem.wpAt_of_wpAny ?_
  have hxlt : x < hp.objs.size := Heap.lt_size hx
  have l1 : hp.objs.size < h₁.objs.size := hns.lt
  have l2 : h₁.objs.size < h2.objs.size := Heap.lt_size e2
  have l3 : (h2.push (kxs_mw "ValueError.__init__" x)).objs.size < h4.objs.size := Heap.lt_size et4
  have l3' : h2.objs.size < h4.objs.size := by
    rw [Heap.size_push] at l3
    omega
  have hns4 : h4.Ns hp.objs.size (fun y => [(("self" : Str), Value.ref x), (("value" : Str), v)].reverse.lookup y) := by
    obtain ⟨oL, es, ep, hL, r⟩ := hns3
    exact ⟨oL, es, ep, kk4 _ _ (Nat.ne_of_gt hxlt) hL, r⟩
  have X₄ : K.In h4 := kept_but X₃ hnx kk4
  have IA4 : InstAt h4 x _ C none := ⟨ex4, rfl, rfl, trivial⟩
  show wpAny _ _ (execs _ _) _ _ _
  refine wpAny_execs_cons (plainObj_wpAny_Assign_Attribute ?_)
  refine hvl hns4 ?_
  refine wpAny_Name (wpAny_loadName_local (by rfl) (by rfl) hns4 (v := .ref x) (by first | rfl | with_unfolding_all rfl | kernel_rfl) ?_) (by decide)
  refine set_plain X₄ IA4 T.sa ?_
  refine exc_osa X₄ ex4 hcl (show refsVE (.ref C :: bm) = true from hbm) rfl T.noN (fun h5 tk5 dx k5' dn dne hx5 hn5 => ?_)
  refine wpAny_execs_nil (hq h5 tk5 dx _ ⟨fun b o hb z => k5' b o hb (kk4 b o hb (kk3 _ _ (kk2 _ _ (hk₁ _ _ z)))), hx5, ?_, dne, hn5⟩)
  have dn' : h4.objs.size ≤ dx := dn
  show hp.objs.size ≤ dx
  omega
/-- a made X(v) -/
structure OwnMade (h h' : Heap) (e C d : Addr) (v : Value) : Prop where
  keep : ∀ b o, h.get? b = some o → h'.get? b = some o
  new : h.objs.size ≤ e
  obj : ∃ oe vs, h'.get? e = some oe ∧ oe.cls = .ref C ∧ oe.dict = some d ∧ oe.data = .fields vs ∧ vs[1]? = some .none
  dbig : h.objs.size ≤ d
  dne : d ≠ e
  ns : h'.Ns1 d (fun y => if y = "value" then some v else none)
theorem ex_made (T : ExT prog K mg cn C) {v : Value} (X : K.In s.heap) (G : Glo prog mg s.heap) (hroom : A.depth + 1 < recursionLimit)
    (hq : ∀ h' tk e d, OwnMade s.heap h' e C d v → R (.ok (.ret (.ref e))) { s with heap := h', toks := tk }) :
    codeAny (model prog w) A (.call (.ref C) ⟨[v], []⟩) R s := by
  obtain ⟨nm, q, N, bs, bm, sn, sub, ab, col, dd, k0, k1, k2, k3, k5, hC, hbm⟩ := T.cls
  have fn := T.fn
  obtain ⟨fI, _, _, _, _, _, _, _, _, _, _, _, _, _, _, iC, tC, _⟩ := fn
  obtain ⟨hp, g, dr, tk, os⟩ := s
  have k : ∀ b o, hp.get? b = some o → ((hp.push (kdv_tup [v])).push (excO C hp.objs.size)).get? b = some o := fun b o e => Heap.get?_push_of_some _ (Heap.get?_push_of_some _ e)
  have hget : ((hp.push (kdv_tup [v])).push (excO C hp.objs.size)).get? (hp.objs.size + 1) = some (excO C hp.objs.size) := by heap_get
  have hnx : K.lookup (hp.objs.size + 1) = none := by
    cases e : K.lookup (hp.objs.size + 1) with
    | none => rfl
    | some o =>
      have z : hp.get? (hp.objs.size + 1) = some o := X _ _ e
      exact absurd (Nat.lt_of_succ_lt (Heap.lt_size z)) (Nat.lt_irrefl _)
  refine call_own PySem.F.excBase_ValueError (fun X => refsVE_contains X bm hbm) (X _ _ hC) (looks_findIn X iC) (fun self => bind_fn X self tC) (one_size v) ?_
  refine ex_init (s := ⟨(hp.push (kdv_tup [v])).push (excO C hp.objs.size), g, dr, tk, os⟩) T (X.keeps k) (G.keeps k) iC hget hnx ?_ fun h' tk' dx t1 ⟨k', hx, dn, dne, hns⟩ => ?_
  · show A.depth + 1 < recursionLimit
    exact hroom
  · have old : ∀ b o, hp.get? b = some o → h'.get? b = some o := fun b o e => k' b o (Nat.ne_of_lt (Nat.lt_succ_of_lt (Heap.lt_size e))) (k b o e)
    have z : hp.objs.size + 1 + 1 ≤ dx := by
      have q := dn
      rw [Heap.size_push, Heap.size_push] at q
      exact q
    exact ⟨rfl, hq h' tk' (hp.objs.size + 1) dx ⟨old, Nat.le_succ _, ⟨_, _, hx, rfl, rfl, rfl, rfl⟩, Nat.le_trans (Nat.le_trans (Nat.le_succ _) (Nat.le_succ _)) z, dne, hns⟩⟩
end
end DLX
/-! D11: raise X(e); an exception that is held. -/
namespace DL
open PySem L2 PyProof.Rows DLX

theorem relO_value {v : V} {v' : Value} (r : RelV v v') (f : Str) : RelO (List.lookup f [(("value" : Str), v)]) (if f = "value" then some v' else none) := by
  by_cases hw : f = "value"
  · rw [hw, if_pos rfl]
    have q : List.lookup ("value" : Str) [(("value" : Str), v)] = some v := by simp [List.lookup]
    rw [q]
    exact r
  · rw [if_neg hw]
    have q2 : List.lookup f [(("value" : Str), v)] = none := by
      have qw : (f == ("value" : Str)) = false := by simpa using hw
      simp [List.lookup, qw]
    rw [q2]
    trivial
section
variable {X : Cx} {E : XK} {C : Addr} {cn : Str} {k : Nat}
theorem glo_of {pins : List (Addr × Obj)} {σ : L2.St} {H : Hp} {s : Shared} (I : Inv X pins σ H s) : Glo X.prog X.mg s.heap := by
  obtain ⟨mb, h1, h2⟩ := I.mod.blt
  exact ⟨I.mod.glob.keeps I.bk, ⟨mb, h1.keeps I.bk, h2⟩, I.nolimit⟩
/-- X(e) -/
theorem pmk_x {a : Expr} {ta : TA} {p pos : Pos} (T : ExT X.prog X.K X.mg cn C) (hr : Room k X.A) (ha : PA X [a] ta) (hg : Gl X cn) (hdb : (cn == ("__debug__" : Str)) = false)
    (he : starEach (a :: []) X.env = (false, eval a X.env) :: starEach [] X.env := by rfl) (hpl : (backTo pos (starEach [] X.env)).any (·.1) = false := by rfl) :
    PMk X (.Call (.Name cn p) [a] [] pos) (fun σ H Q => ta σ H fun vs H1 => ∃ v, vs = [v] ∧ ∀ d, H1 d = none → Q (.ref C) (some d) (upd H1 d (.xd [(("value" : Str), v)]))) := by
  intro pins s σ H Q I h
  refine wpAny_Call_Name_kw (ld_glob I hg T.gC ?_ hdb)
  refine PySem.W.callWith_K (h₀ := X.base) I.ok.mod.kin T.kC (thn (ha.run pos pins s σ H _ I h) fun us s1 hh => ?_) he hpl
  obtain ⟨vs, H1, I1, r1, v, ev, q1⟩ := hh
  subst ev
  refine ⟨I1.kIn, ?_⟩
  obtain ⟨v', rfl, rv⟩ := Vals.one r1
  have G1 := glo_of I1
  obtain ⟨hp, g, dr, tk, os⟩ := s1
  refine wpAny_call (ex_made T I1.kIn G1 (by have := hr.dp; omega) fun h' tk' e d M => ?_)
  show MkP X pins σ Q (.ref e) ⟨h', g, dr, tk', os⟩
  obtain ⟨oe, fv, hoe, hc, hd, hdat, h1⟩ := M.obj
  have hns := M.ns
  obtain ⟨G', g1, g2⟩ := restrict h' fun b => decide (b ≠ e)
  have gk : ∀ b, b ≠ e → G'.get? b = h'.get? b := fun b hb => g1 b (decide_eq_true hb)
  have ge : G'.get? e = none := g2 e (by simp)
  have old : ∀ b o, hp.get? b = some o → G'.get? b = some o := fun b o q => (gk b (Nat.ne_of_lt (Nat.lt_of_lt_of_le (Heap.lt_size q) M.new))).trans (M.keep b o q)
  have ob : ObjOk X.prog X.w (upd H1 d (.xd [(("value" : Str), v)])) G' d (.xd [(("value" : Str), v)]) := ⟨_, hns.at (fun o q => (gk d M.dne).trans q), fun f => relO_value rv f⟩
  have J : Inv X pins σ (upd H1 d (.xd [(("value" : Str), v)])) ⟨G', g, dr, tk', os⟩ := I1.laid (t' := tk') old M.dbig ob
  refine ⟨e, oe, fv, ⟨G', g, dr, tk', os⟩, _, .ref C, some d, rfl, J, fun b o q => ?_, ge, hoe, ⟨hc, hd⟩, hdat, h1, ?_, rfl, I1.bare, raises_own T.exC T.tyC, q1 d (I1.hok.fresh M.dbig)⟩
  · by_cases hb : b = e
    · have q' : G'.get? b = some o := q
      rw [hb, ge] at q'; cases q'
    · exact (gk b hb).symm.trans q
  · rw [upd_ne (Ne.symm M.dne)]
    exact I1.hok.fresh M.new
def sRaise (C : Addr) (fs : Env → RL) : Env → RS := fun ρ => match fs ρ with
  | .ok [d] _ => .err C d
  | .ok _ _ => .st
  | .err c d => .err c d
  | .st => .st
theorem ds_raise {a : Expr} {fs : Env → RL} {p pos pos2 : Pos} (T : ExT X.prog X.K X.mg cn C) (c : Cn X E k) (ha : DA X E [a] fs) (hg : Gl X cn := by rfl) (hdb : (cn == ("__debug__" : Str)) = false := by decide)
    (he : starEach (a :: []) X.env = (false, eval a X.env) :: starEach [] X.env := by rfl) (hpl : (backTo pos (starEach [] X.env)).any (·.1) = false := by rfl) :
    DS X E (.Raise (some (.Call (.Name cn p) [a] [] pos)) none pos2) (sRaise C fs) := by
  refine ⟨PS.weak (ps_raise c.cm c.tk (pmk_x T c.rm ha.pa hg hdb he hpl)) fun Dn σ H ⟨τ, A0, P, ρ, S, z⟩ => ⟨τ, A0, P, ρ, S, ?_⟩⟩
  unfold sRaise at z
  cases q : fs ρ with
  | err cc d => rw [q] at z; exact z
  | st => rw [q] at z; exact z
  | ok ds ρ1 =>
    rw [q] at z
    intro vs H1 P1 t1 S1 r1
    cases ds with
    | nil => exact z.elim
    | cons d ds =>
      cases ds with
      | cons _ _ => exact z.elim
      | nil =>
        obtain ⟨v, rfl, rv⟩ := rps_one r1
        refine ⟨v, rfl, fun dx hdx => ?_⟩
        have ex : Ext H1 (upd H1 dx (.xd [(("value" : Str), v)])) := Evl.Ex.new hdx
        exact z dx v _ P1 (t1.trans (Stp.ext ex)) ⟨t1.al dx hdx, upd_same⟩ (rv.ext (Gr.hid (K := X.K) ex.gr))
end
end DL
/-! D12: names bound to comprehensions on the same line. -/
namespace DL
open PySem L2 PyProof.Rows
section
variable {X : Cx} {E : XK} {elt tg iter : Expr} {ifs : List Expr} {scope : Scope} {own : List (Str × Nat)} {pos spos py : Pos} {src : Env → RI} {bind : D → Env → Option Env} {ft fe : Env → RE} {g : TG} {js : List Nat} {i : Nat} {y : Str}
/-- name = [elt for tg in iter if ifs] -/
theorem ps_lc (hc : X.calm = true) (hN : X.N.Nodup) (hy : X.N[i]? = some y) (hi : DI X E tg iter src) (ok : BlkOk X.N X.env.scope scope own) (hb : GtOk X.K g bind js) (hjs : ∀ j ∈ js, j ∈ own.map (·.2))
    (hg : ∀ (s : Shared) (H : Hp) (C : Addr) (cl : List (Str × Addr)) (fp : List Addr), PG (X.blk s H scope (compEnvC scope cl C X.env) fp) tg g) (ht : ∀ (s : Shared) (H : Hp) (C : Addr) (cl : List (Str × Addr)) (fp : List Addr), DTs (X.blk s H scope (compEnvC scope cl C X.env) fp) E0 ifs ft)
    (he : ∀ (s : Shared) (H : Hp) (C : Addr) (cl : List (Str × Addr)) (fp : List Addr), DE (X.blk s H scope (compEnvC scope cl C X.env) fp) E0 elt fe)
    (hyl : X.env.scope.names.lookup y = some .local) (hk : X.env.scope.kind = .function := by rfl) (hl : (py.line == pos.line) = true := by rfl) (ha : (scope.names.any fun (n, k) => n == y && (k == .local || k == .cell)) = false := by decide) (hs : ∀ x, foldedSetIterable iter X.env x = pure x := by intro _; rfl) :
    PS X (.Assign [.Name y py] (.ListComp elt [⟨tg, iter, ifs, 0⟩] scope pos) spos) (tAsg (tDE X.K E (fLc src bind ft fe (own.map (·.2)))) (gName i)) :=
  PS.weak (ps_setLc hc hN hy hyl (sw_true hk hyl hl ha) hi.pi ok hg (fun s H C cl fp => (ht s H C cl fp).pts) (fun s H C cl fp => (he s H C cl fp).pe) hs) fun Dn σ H h => lc_of hb hjs h
theorem put_of {K : PySem.W.Frag} {fe : Env → RE} {Dn : Ends} {σ : L2.St} {H : Hp} (h : tDS K E (sPut i fe) Dn σ H) : tAsg (tDE K E fe) (gName i) Dn σ H := by
  obtain ⟨τ, A0, P, ρ, S, c⟩ := h
  refine ⟨τ, A0, P, ρ, S, CDE.toD ?_⟩
  unfold sPut sE at c
  cases q : fe ρ with
  | ok w ρ1 =>
    rw [q] at c
    exact fun v H' P' t S' r => c _ H' P' t (S'.put r i)
  | err cc d => rw [q] at c; exact c
  | st => rw [q] at c; exact c
theorem own_of {K : PySem.W.Frag} {fe : Env → RE} {Dn : Ends} {σ : L2.St} {H : Hp} (h : tDS K E (sOwn i fe) Dn σ H) : tAsg (tDE K E fe) (gName i) Dn σ H := by
  obtain ⟨τ, A0, P, ρ, S, c⟩ := h
  refine ⟨τ, A0, P, ρ, S, ?_⟩
  unfold sOwn sE at c
  cases q : fe ρ with
  | ok w ρ1 =>
    rw [q] at c
    cases w with
    | pu d => exact c.elim
    | frs ds =>
      dsimp only at c
      by_cases hnn : noN ρ1 = true
      · rw [if_pos hnn] at c
        exact fun p xs H' P' t n n1 n2 S' hl r => c _ H' (p :: P') ⟨t.kp, fun a z => (List.mem_cons.mp z).elim (fun z => .inr (by rw [z]; exact n)) (t.nw a), t.al, t.tb⟩ (S'.own_ n2 hl r i hnn)
      · rw [if_neg hnn] at c
        exact c.elim
  | err cc d => rw [q] at c; exact c
  | st => rw [q] at c; exact c
theorem ds_lc {fe : Env → RE} {st : Stmt} (h : PS X st (tAsg (tDE X.K E fe) (gName i))) : DS X E st (sPut i fe) := ⟨PS.weak h fun _ _ _ z => put_of z⟩
theorem ds_lcOwn {fe : Env → RE} {st : Stmt} (h : PS X st (tAsg (tDE X.K E fe) (gName i))) : DS X E st (sOwn i fe) := ⟨PS.weak h fun _ _ _ z => own_of z⟩
end
end DL
/-! D13: built-in functions by their names, tests. -/
namespace DL
open PySem L2 PyProof.Rows
/-- names that the module does not bind -/
structure Bl (mg : Str → Option Value) : Prop where
  len : mg "len" = none
  isi : mg "isinstance" = none
  int : mg "int" = none
  bool : mg "bool" = none
  str : mg "str" = none
  list : mg "list" = none
  tuple : mg "tuple" = none
  max : mg "max" = none
  sum : mg "sum" = none
  enum : mg "enumerate" = none
  range : mg "range" = none
  repr : mg "repr" = none
  abs : mg "abs" = none
  sorted : mg "sorted" = none
theorem bt_int : bootBuiltins "int" = some (.type "int") := by decide +kernel
theorem bt_bool : bootBuiltins "bool" = some (.type "bool") := by decide +kernel
theorem bt_str : bootBuiltins "str" = some (.type "str") := by decide +kernel
theorem bt_list : bootBuiltins "list" = some (.type "list") := by decide +kernel
theorem bt_tuple : bootBuiltins "tuple" = some (.type "tuple") := by decide +kernel
theorem bt_len : bootBuiltins "len" = some (.builtin "len") := by decide +kernel
theorem bt_max : bootBuiltins "max" = some (.builtin "max") := by decide +kernel
theorem bt_sum : bootBuiltins "sum" = some (.builtin "sum") := by decide +kernel
section
variable {X : Cx} {E : XK} {e a b : Expr} {es : List Expr} {fa fb : Env → RE} {fr : Env → RL} {p p2 pos : Pos} {k : Nat}
theorem d_len (B : Bl X.mg) (ha : DA X E [e] fr) (hg : Gl X "len" := by rfl) (he : starEach [e] X.env = (false, eval e X.env) :: starEach [] X.env := by rfl) : DE X E (.Call (.Name "len" p) [e] [] pos) (bndA fr gLen) := de_callB call_len cal_len hg B.len bt_len ha (by decide) (by decide) he
theorem d_sum (c : Cn X E k) (B : Bl X.mg) (ha : DA X E [e] fr) (hg : Gl X "sum" := by rfl) (he : starEach [e] X.env = (false, eval e X.env) :: starEach [] X.env := by rfl) : DE X E (.Call (.Name "sum" p) [e] [] pos) (bndA fr gSum) := de_callB (cr_sum c.cm) cal_sum hg B.sum bt_sum ha (by decide) (by decide) he
theorem d_max2 (c : Cn X E k) (B : Bl X.mg) (ha : DA X E [a, b] fr) (hg : Gl X "max" := by rfl) (he : starEach [a, b] X.env = (false, eval a X.env) :: starEach [b] X.env := by rfl) (hpl : (backTo pos (starEach [b] X.env)).any (·.1) = false := by rfl) : DE X E (.Call (.Name "max" p) [a, b] [] pos) (bndA fr gMax2) := de_callB (call_max2 c.cm) cal_max2 hg B.max bt_max ha (by decide) (by decide) he hpl
theorem d_int (B : Bl X.mg) (ha : DA X E [e] fr) (hg : Gl X "int" := by rfl) (he : starEach [e] X.env = (false, eval e X.env) :: starEach [] X.env := by rfl) : DE X E (.Call (.Name "int" p) [e] [] pos) (bndA fr gInt1) := de_callTy call_int1 cal_int1 hg B.int bt_int ha (by decide) (by decide) he
theorem d_list (B : Bl X.mg) (ha : DA X E [e] fr) (hg : Gl X "list" := by rfl) (he : starEach [e] X.env = (false, eval e X.env) :: starEach [] X.env := by rfl) : DE X E (.Call (.Name "list" p) [e] [] pos) (bndA fr gListOf) := de_callTy call_list_of cal_list hg B.list bt_list ha (by decide) (by decide) he
theorem d_tupleOf (B : Bl X.mg) (ha : DA X E [e] fr) (hg : Gl X "tuple" := by rfl) (he : starEach [e] X.env = (false, eval e X.env) :: starEach [] X.env := by rfl) : DE X E (.Call (.Name "tuple" p) [e] [] pos) (bndA fr gTupleOf) := de_callTy call_tuple_of cal_tuple hg B.tuple bt_tuple ha (by decide) (by decide) he
/-- isinstance(e, T) -/
theorem d_isi (B : Bl X.mg) (n : Str) (T : String) (hT : tyOk T = true) (hm : X.mg n = none) (hv : bootBuiltins n = some (.type T)) (ha : DE X E e fa) (hg : Gl X "isinstance" := by rfl) (hgT : Gl X n := by rfl) (hn : n ≠ "__name__" := by decide) (hdT : (n == ("__debug__" : Str)) = false := by decide)
    (he : starEach [e, .Name n p2] X.env = (false, eval e X.env) :: starEach [.Name n p2] X.env := by rfl) (he2 : starEach [.Name n p2] X.env = (false, eval (.Name n p2) X.env) :: starEach [] X.env := by rfl) (hpl : (backTo pos (starEach [.Name n p2] X.env)).any (·.1) = false := by rfl) :
    DE X E (.Call (.Name "isinstance" p) [e, .Name n p2] [] pos) (fOp1 (gIsi T) fa) := de_isi hT hg B.isi hgT hm hv ha hn hdT he he2 hpl
theorem d_isi2 (B : Bl X.mg) (n1 n2 : Str) (T1 T2 : String) {kk : Nat} {p3 p4 : Pos} (hT1 : tyOk T1 = true) (hT2 : tyOk T2 = true) (hm1 : X.mg n1 = none) (hv1 : bootBuiltins n1 = some (.type T1)) (hm2 : X.mg n2 = none) (hv2 : bootBuiltins n2 = some (.type T2)) (ha : DE X E e fa)
    (hg : Gl X "isinstance" := by rfl) (hg1 : Gl X n1 := by rfl) (hg2 : Gl X n2 := by rfl)
    (hn1 : n1 ≠ "__name__" := by decide) (hd1 : (n1 == ("__debug__" : Str)) = false := by decide) (hn2 : n2 ≠ "__name__" := by decide) (hd2 : (n2 == ("__debug__" : Str)) = false := by decide)
    (he : starEach [e, .Tuple [.Name n1 p2, .Name n2 p3] kk p4] X.env = (false, eval e X.env) :: starEach [.Tuple [.Name n1 p2, .Name n2 p3] kk p4] X.env := by rfl)
    (hpl : (backTo pos (starEach [.Tuple [.Name n1 p2, .Name n2 p3] kk p4] X.env)).any (·.1) = false := by rfl) :
    DE X E (.Call (.Name "isinstance" p) [e, .Tuple [.Name n1 p2, .Name n2 p3] kk p4] [] pos) (fOp1 (gIsi2 T1 T2) fa) := de_isi2 hT1 hT2 hg B.isi hg1 hm1 hv1 hg2 hm2 hv2 ha hn1 hd1 hn2 hd2 he hpl
/-- tests -/
theorem t_lt (ha : DE X E a fa) (hb : DE X E b fb) : DT X E (.Compare a [.Lt] [b] pos) (fOp2 gLt fa fb) := dt_cmp op_lt (op2_I0 fun _ _ _ => .bl _) ha hb (nomark _)
theorem t_le (ha : DE X E a fa) (hb : DE X E b fb) : DT X E (.Compare a [.LtE] [b] pos) (fOp2 gLe fa fb) := dt_cmp op_le (op2_I0 fun _ _ _ => .bl _) ha hb (nomark _)
theorem t_gt (ha : DE X E a fa) (hb : DE X E b fb) : DT X E (.Compare a [.Gt] [b] pos) (fOp2 gGt fa fb) := dt_cmp op_gt (op2_I0 fun _ _ _ => .bl _) ha hb (nomark _)
theorem t_ge (ha : DE X E a fa) (hb : DE X E b fb) : DT X E (.Compare a [.GtE] [b] pos) (fOp2 gGe fa fb) := dt_cmp op_ge (op2_I0 fun _ _ _ => .bl _) ha hb (nomark _)
theorem t_eq (c : Cn X E k) (ha : DE X E a fa) (hb : DE X E b fb) : DT X E (.Compare a [.Eq] [b] pos) (fOp2 gEq fa fb) := dt_cmp ((op_eqD c.rm.units).or op_eq) op2_eq ha hb (nomark _)
theorem t_ne (c : Cn X E k) (ha : DE X E a fa) (hb : DE X E b fb) : DT X E (.Compare a [.NotEq] [b] pos) (fOp2 gNe fa fb) := dt_cmp ((op_neD c.rm.units).or op_ne) op2_ne ha hb (nomark _)
theorem t_is (ha : DE X E a fa) (hb : DE X E b fb) : DT X E (.Compare a [.Is] [b] pos) (fOp2 gIsN fa fb) := dt_cmp (op_isN.or op_isBlA) op2_is ha hb (nomark _)
theorem t_isnot (ha : DE X E a fa) (hb : DE X E b fb) : DT X E (.Compare a [.IsNot] [b] pos) (fOp2 gNotN fa fb) := dt_cmp (op_notN.or op_notBlA) op2_not ha hb (nomark _)
/-- a <= b <= c -/
theorem t_le2 {c : Expr} {fc : Env → RE} (ha : DE X E a fa) (hb : DE X E b fb) (hc : DE X E c fc) (hm : lastMarks [.LtE, .LtE] [b, c] = false := by with_unfolding_all rfl) : DT X E (.Compare a [.LtE, .LtE] [b, c] pos) (fChain gLe gLe fa fb fc) :=
  dt_chain op_le (op2_I0 fun _ _ _ => .bl _) op_le (op2_I0 fun _ _ _ => .bl _) ha hb hc hm
/-- displays -/
def gMkL : List D → Option W := fun ds => if ds.length ≤ sizeLine then some (.frs ds) else none
def gMkT : List D → Option W := fun ds => if ds.length ≤ sizeLine then some (.pu (.tuple ds)) else none
theorem de_mkL (ha : DA X E es fr) (hz : es.length ≤ 10000 := by decide) : DE X E (.List es pos) (bndA fr gMkL) := de_lst ha hz
theorem de_mkT {x1} (ha : DA X E es fr) : DE X E (.Tuple es x1 pos) (bndA fr gMkT) := de_tup ha
theorem de_globI {x : Str} {i : Int} {t : Tok} (hm : X.mg x = some (.int i t)) (hg : Gl X x := by rfl) (hd : (x == ("__debug__" : Str)) = false := by decide) : DE X E (.Name x pos) (fC (.int i)) := de_glob (v := .int i) hm ⟨t, rfl⟩ (fun _ => .int i) hg hd
/-- {} -/
def fDict0 : Env → RE := fun ρ => .ok (.pu (.dict [])) ρ
theorem de_dict0 : DE X E (.Dict [] [] pos) fDict0 := ⟨PE.weak pe_dnewK fun σ H Q ⟨τ, A0, P, ρ, S, c⟩ => fun p hp => by
  have e : Ext H (upd H p (.dK [])) := Evl.Ex.new hp
  obtain ⟨n1, n2⟩ := S.fresh hp
  refine c (.ref p) _ P (Stp.ext e) (S.grow e.gr) (.emp (hid_in (fun z => ?_) upd_same))
  rcases List.mem_append.mp z with z | z
  · exact n1 z
  · exact n2 z⟩
end
end DL
/-! D14: a grid of ints of our own, its rows too: made, read, written, returned. -/
namespace DL
open PySem L2 PyProof.Rows
def rowOf : D → Option (List Int)
  | .list ds => intsOf ds
  | _ => none
def rowsOf : List D → Option (List (List Int))
  | [] => some []
  | d :: r => match rowOf d, rowsOf r with
    | some i, some l => some (i :: l)
    | _, _ => none
def gridOf : D → Option (List (List Int))
  | .list ds => rowsOf ds
  | _ => none
def rowD (r : List Int) : D := .list (r.map .int)
def gridD (g : List (List Int)) : D := .list (g.map rowD)
theorem intsOf_eq : ∀ {ds : List D} {l : List Int}, intsOf ds = some l → ds = l.map .int
  | [], l, h => by cases h; rfl
  | .int i :: r, l, h => by
    unfold intsOf at h
    cases q : intsOf r with
    | none => rw [q] at h; cases h
    | some m =>
      rw [q] at h
      cases h
      rw [intsOf_eq q]
      rfl
  | .none :: _, _, h => by cases h
  | .bool _ :: _, _, h => by cases h
  | .str _ :: _, _, h => by cases h
  | .list _ :: _, _, h => by cases h
  | .tuple _ :: _, _, h => by cases h
  | .dict _ :: _, _, h => by cases h
theorem intsOf_map : ∀ l : List Int, intsOf (l.map .int) = some l
  | [] => rfl
  | i :: l => by
    show (intsOf (l.map .int)).map (i :: ·) = _
    rw [intsOf_map l]
    rfl
theorem rowsOf_eq : ∀ {ds : List D} {g : List (List Int)}, rowsOf ds = some g → ds = g.map rowD
  | [], l, h => by cases h; rfl
  | d :: r, l, h => by
    unfold rowsOf at h
    split at h
    · rename_i i l' h1 h2
      cases h
      rw [rowsOf_eq h2]
      cases d with
      | list ds =>
        have h1 : intsOf ds = some i := h1
        rw [intsOf_eq h1]
        rfl
      | _ => cases h1
    · cases h
theorem rowsOf_map : ∀ g : List (List Int), rowsOf (g.map rowD) = some g
  | [] => rfl
  | r :: g => by
    show (match rowOf (rowD r), rowsOf (g.map rowD) with | some i, some l => some (i :: l) | _, _ => none) = _
    rw [rowsOf_map g]
    show (match intsOf (r.map .int), some g with | some i, some l => some (i :: l) | _, _ => none) = _
    rw [intsOf_map r]
theorem gridOf_eq {d : D} {g : List (List Int)} (h : gridOf d = some g) : d = gridD g := by
  cases d with
  | list ds => exact congrArg PyData.list (rowsOf_eq h)
  | _ => cases h
theorem gridOf_grid (g : List (List Int)) : gridOf (gridD g) = some g := rowsOf_map g
theorem ints_rps {K : PySem.W.Frag} {H : Hp} : ∀ l : List Int, Rps K H (l.map V.int) (l.map .int)
  | [] => .nil
  | i :: l => .cons (.int i) (ints_rps l)
/-- no own list, no own grid -/
def bare (ρ : Env) : Bool := ρ.all fun o => match o with
  | some (.nst _) => false
  | some (.own _ _) => false
  | _ => true
theorem bare_own {ρ : Env} (h : bare ρ = true) {i t : Nat} {ds : List D} (q : ρ[i]? = some (some (.own t ds))) : False := by
  have z := List.all_eq_true.mp h _ (List.mem_of_getElem? q)
  cases z
theorem bare_nst {ρ : Env} (h : bare ρ = true) {i : Nat} {g : List (List Int)} (q : ρ[i]? = some (some (.nst g))) : False := by
  have z := List.all_eq_true.mp h _ (List.mem_of_getElem? q)
  cases z
section
variable {K : PySem.W.Frag} {E : XK} {τ : Nat → Addr} {A0 P : List Addr} {H H' : Hp} {σ : L2.St} {ρ : Env}
/-- a new grid of our own gets a slot -/
theorem SRep.putN (S : SRep K τ A0 H σ ρ P) (hb : bare ρ = true) (e : Ext H H') {p : Addr} {qs : List Addr} {g : List (List Int)} (N : Nst H' p qs g) (hn : ∀ a ∈ p :: qs, H a = none) (i : Nat) : SRep K τ A0 H' (σ.set i (some (.ref p))) (ρ.set i (some (.nst g))) (p :: qs ++ P) := by
  have old : ∀ {m : Nat} {s : Sl}, s ≠ .nst g → (ρ.set i (some (.nst g)))[m]? = some (some s) → i ≠ m ∧ ρ[m]? = some (some s) := fun {m s} hs z => by
    by_cases hm : i = m
    · subst hm
      by_cases hi : i < ρ.length
      · rw [List.getElem?_set_self hi] at z
        exact absurd (Option.some.inj (Option.some.inj z)).symm hs
      · rw [List.getElem?_eq_none (by simpa using hi)] at z; cases z
    · rw [List.getElem?_set_ne hm] at z
      exact ⟨hm, z⟩
  have atN : ∀ {m : Nat} {h : List (List Int)}, (ρ.set i (some (.nst g)))[m]? = some (some (.nst h)) → m = i ∧ h = g ∧ i < ρ.length := fun {m h} z => by
    by_cases hm : i = m
    · subst hm
      by_cases hi : i < ρ.length
      · rw [List.getElem?_set_self hi] at z
        cases z
        exact ⟨rfl, rfl, hi⟩
      · rw [List.getElem?_eq_none (by simpa using hi)] at z; cases z
    · rw [List.getElem?_set_ne hm] at z
      exact (bare_nst hb z).elim
  have ex : Ext (hid (P ++ A0) H) (hid ((p :: qs ++ P) ++ A0) H') := fun a o z => by
    obtain ⟨n, z1⟩ := hid_of z
    rw [List.mem_append, not_or] at n
    refine hid_in (fun w => ?_) (e a o z1) (hid_nt z)
    rcases List.mem_append.mp w with w | w
    · rcases List.mem_append.mp w with w | w
      · rw [hn a w] at z1; cases z1
      · exact n.1 w
    · exact n.2 w
  refine ⟨fun j m d q => ?_, fun j t ds q => (bare_own hb (old (fun z => by cases z) q).2).elim, fun j k t u es fs b hjk e1 _ _ => (bare_own hb (old (fun z => by cases z) e1).2).elim, fun a z => ?_, by simpa using S.len, fun a z w => ?_, fun b hb => (S.tb b hb).ext e, fun j h q => ?_⟩
  · obtain ⟨hj, q1⟩ := old (fun z => by cases z) q
    obtain ⟨v, h1, h2, h3⟩ := S.pu j m d q1
    exact ⟨v, by rw [List.getElem?_set_ne hj]; exact h1, h2.ext ex.hs, h3⟩
  · rcases List.mem_append.mp z with z | z
    · rcases List.mem_append.mp z with z | z
      · rcases List.mem_cons.mp z with z | z
        · rw [z, N.top]; exact fun w => nomatch w
        · obtain ⟨j, hj⟩ := List.mem_iff_getElem?.mp z
          have hlt : j < g.length := by rw [← N.len]; exact (List.getElem?_eq_some_iff.mp hj).1
          rw [N.row j a _ hj (List.getElem?_eq_getElem hlt)]
          exact fun w => by cases w
      · exact fun w => S.tr a (List.mem_append_left _ z) (e.back w)
    · exact fun w => S.tr a (List.mem_append_right _ z) (e.back w)
  · rcases List.mem_append.mp z with z | z
    · exact S.tr a (List.mem_append_right _ w) (hn a z)
    · exact S.dj a z w
  · obtain ⟨rfl, rfl, hi⟩ := atN q
    exact ⟨⟨p, qs, List.getElem?_set_self (by rw [S.len]; exact hi), N, fun a z => List.mem_append_left _ z⟩, fun k h2 z => (atN z).1, fun k t ds z => (bare_own hb (old (fun w => by cases w) z).2).elim⟩
end
/-- name = [list(x) for x in e], e a grid of ints -/
def sCopy (i k : Nat) (fa : Env → RE) : Env → RS := fun ρ => match fa ρ with
  | .ok w ρ1 => (match gridOf w.d with
    | some g => if bare ρ1 = true ∧ k < ρ1.length ∧ g.length ≤ sizeLine then .nx (ρ1.set i (some (.nst g))) else .st
    | none => .st)
  | .err c d => .err c d
  | .st => .st
section
variable {K : PySem.W.Frag} {E : XK} {σ : L2.St} {H : Hp} {Dn : Ends}
abbrev rLO (K : PySem.W.Frag) : List V → Hp → VK → Prop := fun xs H Q => ∃ p ys, xs = [.ref p] ∧ (SqL K H p ys ∨ SqT K H p ys) ∧ ∀ l, H l = none → Q (.ref l) (upd H l (.lst ys))
theorem copy_of {i k : Nat} {fa : Env → RE} (h : tDS K E (sCopy i k fa) Dn σ H) :
    tAsg (tLc (tDI K E (srcE fa itemsL)) (gName k) tYes (tCB (rLO K) (tCons (tVar k) tNil)) [k]) (gName i) Dn σ H := by
  obtain ⟨τ, A0, P, ρ, S, c⟩ := h
  refine ⟨τ, A0, P, ρ, S, ?_⟩
  unfold sCopy at c
  unfold srcE
  cases q : fa ρ with
  | err cc d => rw [q] at c; exact c
  | st => rw [q] at c; exact c.elim
  | ok w ρ1 =>
    rw [q] at c
    dsimp only at c ⊢
    cases q2 : gridOf w.d with
    | none => rw [q2] at c; exact c.elim
    | some g =>
      rw [q2] at c
      dsimp only at c
      by_cases cd : bare ρ1 = true ∧ k < ρ1.length ∧ g.length ≤ sizeLine
      rotate_left
      · rw [if_neg cd] at c
        exact c.elim
      rw [if_pos cd] at c
      obtain ⟨hb, hk, hz⟩ := cd
      rw [gridOf_eq q2]
      show CDI K E τ A0 H P σ (.ok (g.map rowD) ρ1) _
      intro J H1 P1 t1 S1 wk Dl hD
      have inv0 : ∀ {H' : Hp}, Ext H1 H' → Stp K H1 P1 H' P1 := fun e => Stp.ext e
      refine ⟨fun i m H' => m = g.length - i ∧ i ≤ g.length ∧ ∃ qs : List Addr, Ext H1 H' ∧ Nst H' Dl qs (g.take i) ∧ ∀ a ∈ Dl :: qs, H1 a = none, ⟨_, rfl, Nat.zero_le _, [], Evl.Ex.new hD, ⟨upd_same, by simp, by simp, fun j q r e => by simp at e⟩, fun a z => by rw [List.mem_singleton.mp z]; exact hD⟩, ?_⟩
      rintro j m H' ⟨rfl, hj, qs, ex, N, hn⟩
      obtain ⟨w1, w2⟩ := wk A0 j H' P1 (fun a z => .inl z) (Stp.ext ex)
      cases q3 : g[j]? with
      | none =>
        have hle : g.length ≤ j := List.getElem?_eq_none_iff.mp q3
        refine .inl ⟨w2 (by simpa using hle), ?_⟩
        have ej : g.take j = g := List.take_of_length_le hle
        rw [ej] at N
        refine c _ H' (Dl :: qs ++ P1) ⟨fun a o n z nt => ex a o (t1.kp a o n z nt), fun a z => ?_, fun a z => t1.al a (ex.back z), fun z => (t1.tb z).ext ex⟩ (S1.putN hb ex N hn i)
        rcases List.mem_append.mp z with z | z
        · exact .inr (t1.al a (hn a z))
        · exact t1.nw a z
      | some row =>
        have hlt : j < g.length := (List.getElem?_eq_some_iff.mp q3).1
        obtain ⟨go, yl⟩ := w1 (rowD row) (by rw [List.getElem?_map, q3]; rfl)
        refine .inr ⟨go, fun H4 => ∃ qs : List Addr, Ext H1 H4 ∧ Nst H4 Dl qs (g.take (j + 1)) ∧ ∀ a ∈ Dl :: qs, H1 a = none, fun H4 ⟨qs4, k1, k2, k3⟩ => ⟨g.length - (j + 1), by omega, rfl, hlt, qs4, k1, k2, k3⟩, fun x H4 y => ?_⟩
        obtain ⟨e4, rx⟩ := yl x H4 y
        have tr' : ∀ a ∈ P1 ++ A0, H' a ≠ none := fun a z w => S1.tr a z (ex.back w)
        obtain ⟨b, xs, rfl, hx, rr⟩ := rp_lst (rx tr')
        have exs := rps_ints rr (intsOf_map row)
        subst exs
        have N4 : Nst H4 Dl qs (g.take j) := N.gr fun a xs _ z => e4 a _ z
        have ex4 : Ext H1 H4 := ex.trans e4
        have hkσ : k < (wipe σ [k]).length := by rw [wipe_length, S1.len]; exact hk
        have wkk : wipe ((wipe σ [k]).set k (some (.ref b))) [k] = wipe σ [k] := by
          show ((((σ.set k none).set k (some (V.ref b)))).set k none) = σ.set k none
          rw [List.set_set, List.set_set]
        refine ⟨wkk, ?_⟩
        unfold tYes
        dsimp only
        rw [if_pos rfl]
        refine ⟨.ref b, List.getElem?_set_self hkσ, b, row.map V.int, rfl, .inl (.inl (.inl hx)), fun l hl => ?_⟩
        have hne : Dl ≠ l := ne_of_none N4.top hl
        have hnl : H1 l = none := ex4.back hl
        refine ⟨qs.map V.ref, ?_, ?_, qs ++ [l], ?_, ?_, ?_⟩
        · rw [upd_ne hne]; exact N4.top
        · rw [List.length_map, N4.len, List.length_take]; omega
        · exact fun a o z => by
            have z1 := Evl.Ex.new (o := .lst (row.map V.int)) hl a o (ex4 a o z)
            rw [upd_ne (fun w => by rw [w, hD] at z; cases z)]
            exact z1
        · have nin : l ∉ qs := fun z => by
            obtain ⟨m, hm⟩ := List.mem_iff_getElem?.mp z
            have hml : m < (g.take j).length := by rw [← N4.len]; exact (List.getElem?_eq_some_iff.mp hm).1
            have := N4.row m l _ hm (List.getElem?_eq_getElem hml)
            rw [hl] at this
            cases this
          refine ⟨by rw [upd_same, List.map_append]; rfl, ?_, ?_, fun m q r e1 e2 => ?_⟩
          · rw [← List.cons_append, List.nodup_append]
            refine ⟨N4.nd, by simp, fun a ha b hb e => ?_⟩
            rw [List.mem_singleton.mp hb] at e
            rcases List.mem_cons.mp ha with z | z
            · exact hne (by rw [← z, e])
            · exact nin (by rw [← e]; exact z)
          · rw [List.length_append, N4.len, List.length_take, List.length_take, List.length_singleton]
            omega
          · have lq : qs.length = j := by rw [N4.len, List.length_take]; omega
            have qne : q ≠ Dl := fun z => by
              have nd := N4.nd
              rw [List.nodup_cons] at nd
              rw [z] at e1
              rcases List.mem_append.mp (List.mem_of_getElem? e1) with w | w
              · exact nd.1 w
              · exact hne (List.mem_singleton.mp w)
            rw [upd_ne qne]
            by_cases hm : m < j
            · rw [List.getElem?_append_left (by omega)] at e1
              have e3 : (g.take j)[m]? = some r := by
                rw [List.getElem?_take_of_lt hm]
                rw [List.getElem?_take_of_lt (by omega)] at e2
                exact e2
              rw [upd_ne (fun z => nin (by rw [← z]; exact List.mem_of_getElem? e1))]
              exact N4.row m q r e1 e3
            · have hmj : m = j := by
                have := (List.getElem?_eq_some_iff.mp e1).1
                rw [List.length_append, List.length_singleton] at this
                omega
              subst hmj
              rw [List.getElem?_append_right (by omega), lq, Nat.sub_self] at e1
              cases e1
              rw [List.getElem?_take_of_lt (by omega), q3] at e2
              cases e2
              exact upd_same
        · intro a z
          rcases List.mem_cons.mp z with z | z
          · rw [z]; exact hD
          · rcases List.mem_append.mp z with z | z
            · exact hn a (List.mem_cons_of_mem _ z)
            · rw [List.mem_singleton.mp z]; exact hnl
end
end DL
/-! D15: .. its rules. -/
namespace DL
open PySem L2 PyProof.Rows
def getG (g : List (List Int)) (a b : Int) : Option Int := (atI g a).bind fun row => atI row b
def setG (g : List (List Int)) (a b z : Int) : Option (List (List Int)) := (ixN g.length a).bind fun m => (g[m]?).bind fun row => (ixN row.length b).map fun n => g.set m (row.set n z)
theorem nodup_at {α : Type} : ∀ {l : List α} {i j : Nat} {x : α}, l.Nodup → l[i]? = some x → l[j]? = some x → i = j
  | [], _, _, _, _, h, _ => by simp at h
  | a :: l, 0, 0, _, _, _, _ => rfl
  | a :: l, 0, j + 1, x, nd, h1, h2 => by
    rw [List.nodup_cons] at nd
    have e : a = x := by simpa using h1
    exact absurd (List.mem_of_getElem? (by simpa using h2)) (by rw [← e]; exact nd.1)
  | a :: l, i + 1, 0, x, nd, h1, h2 => by
    rw [List.nodup_cons] at nd
    have e : a = x := by simpa using h2
    exact absurd (List.mem_of_getElem? (by simpa using h1)) (by rw [← e]; exact nd.1)
  | a :: l, i + 1, j + 1, x, nd, h1, h2 => by
    rw [List.nodup_cons] at nd
    rw [nodup_at nd.2 (i := i) (j := j) (by simpa using h1) (by simpa using h2)]
section
variable {K : PySem.W.Frag} {E : XK} {τ : Nat → Addr} {A0 P : List Addr} {H : Hp} {σ : L2.St} {ρ : Env}
theorem SRep.intAt (S : SRep K τ A0 H σ ρ P) {j m : Nat} {a : Int} (h : ρ[j]? = some (some (.pub m (.int a)))) : σ[j]? = some (some (.int a)) := by
  obtain ⟨v, h1, h2⟩ := S.puD h
  rw [rp_int h2] at h1
  exact h1
/-- one of our own rows changes -/
theorem SRep.chgN {i k n : Nat} {g : List (List Int)} {row : List Int} {z : Int} {p q : Addr} {qs : List Addr} (S : SRep K τ A0 H σ ρ P) (hi : ρ[i]? = some (some (.nst g))) (hp : σ[i]? = some (some (.ref p))) (N : Nst H p qs g) (hP : ∀ a ∈ p :: qs, a ∈ P) (hq : qs[k]? = some q) (hg : g[k]? = some row) :
    SRep K τ A0 (L2.upd H q (.lst ((row.set n z).map V.int))) σ (ρ.set i (some (.nst (g.set k (row.set n z))))) P ∧ Stp K H P (L2.upd H q (.lst ((row.set n z).map V.int))) P := by
  have hqP : q ∈ P := hP q (List.mem_cons_of_mem _ (List.mem_of_getElem? hq))
  have hlq : H q = some (.lst (row.map V.int)) := N.row k q row hq hg
  have hl : i < ρ.length := (List.getElem?_eq_some_iff.mp hi).1
  have nd := N.nd
  rw [List.nodup_cons] at nd
  have hne : p ≠ q := fun z => nd.1 (by rw [z]; exact List.mem_of_getElem? hq)
  have noOwn := (S.ns i g hi).2.2
  have old : ∀ {m : Nat} {s : Sl}, (∀ h, s ≠ .nst h) → (ρ.set i (some (.nst (g.set k (row.set n z)))))[m]? = some (some s) → i ≠ m ∧ ρ[m]? = some (some s) := fun {m s} hs w => by
    by_cases hm : i = m
    · subst hm
      rw [List.getElem?_set_self hl] at w
      exact absurd (Option.some.inj (Option.some.inj w)).symm (hs _)
    · rw [List.getElem?_set_ne hm] at w
      exact ⟨hm, w⟩
  refine ⟨⟨fun j m d w => ?_, fun j t ds w => absurd (old (fun _ y => by cases y) w).2 (noOwn j t ds), fun j k2 t u es fs b hjk e1 _ _ => absurd (old (fun _ y => by cases y) e1).2 (noOwn j t es), fun a w y => ?_, by simpa using S.len, S.dj, fun b hb => tab_lst hlq (S.tb b hb), fun j h w => ?_⟩, stp_own hqP hlq⟩
  · obtain ⟨_, w1⟩ := old (fun _ y => by cases y) w
    rw [hid_upd_in (hs_mem (List.mem_append_left _ hqP))]
    exact S.pu j m d w1
  · by_cases ha : a = q
    · rw [ha, upd_same] at y; cases y
    · rw [upd_ne ha] at y
      exact S.tr a w y
  · by_cases hj : i = j
    · subst hj
      rw [List.getElem?_set_self hl] at w
      cases w
      refine ⟨⟨p, qs, hp, ⟨by rw [upd_ne hne]; exact N.top, N.nd, by rw [List.length_set]; exact N.len, fun j q2 r e1 e2 => ?_⟩, hP⟩, fun j2 h2 w => ?_, fun j2 t ds w => absurd (old (fun _ y => by cases y) w).2 (noOwn j2 t ds)⟩
      · by_cases hjk : k = j
        · subst hjk
          rw [hq] at e1
          cases e1
          rw [List.getElem?_set_self (List.getElem?_eq_some_iff.mp hg).1] at e2
          cases e2
          exact upd_same
        · rw [List.getElem?_set_ne hjk] at e2
          have nq : q2 ≠ q := fun y => by
            have e1' := e1
            rw [y] at e1'
            exact hjk (nodup_at nd.2 hq e1')
          rw [upd_ne nq]
          exact N.row j q2 r e1 e2
      · by_cases h3 : i = j2
        · exact h3.symm
        · rw [List.getElem?_set_ne h3] at w
          exact (S.ns i g hi).2.1 j2 h2 w
    · rw [List.getElem?_set_ne hj] at w
      exact absurd ((S.ns i g hi).2.1 j h w) (Ne.symm hj)
theorem atI_at {α : Type} {l : List α} {a : Int} {x : α} (h : atI l a = some x) : ∃ m, ixN l.length a = some m ∧ l[m]? = some x := by
  unfold atI at h
  cases q : ixN l.length a with
  | none => rw [q] at h; cases h
  | some m => rw [q] at h; exact ⟨m, rfl, h⟩
theorem atI_of {α : Type} {l : List α} {a : Int} {x : α} {m n : Nat} (hn : l.length = n) (h1 : ixN n a = some m) (h2 : l[m]? = some x) : atI l a = some x := by
  unfold atI
  rw [hn, h1]
  exact h2
theorem qs_at {p : Addr} {qs : List Addr} {g : List (List Int)} (N : Nst H p qs g) {m : Nat} {row : List Int} (h : g[m]? = some row) : ∃ q, qs[m]? = some q := by
  have hlt : m < qs.length := by rw [N.len]; exact (List.getElem?_eq_some_iff.mp h).1
  exact ⟨_, List.getElem?_eq_getElem hlt⟩
theorem setN_step (S : SRep K τ A0 H σ ρ P) {i j1 j2 m1 m2 : Nat} {g g' : List (List Int)} {a b z : Int} (hi : ρ[i]? = some (some (.nst g))) (h1 : ρ[j1]? = some (some (.pub m1 (.int a)))) (h2 : ρ[j2]? = some (some (.pub m2 (.int b)))) (hs : setG g a b z = some g') :
    ∃ H', Stp K H P H' P ∧ SRep K τ A0 H' σ (ρ.set i (some (.nst g'))) P ∧ ∀ Q : L2.St → Hp → Prop, Q σ H' → L2.gSub (tOp (rIx K) (tVar i) (tVar j1)) (tVar j2) rSetL (.int z) σ H Q := by
  obtain ⟨⟨p, qs, hp, N, hP⟩, _⟩ := S.ns i g hi
  unfold setG at hs
  cases q1 : ixN g.length a with
  | none => rw [q1] at hs; cases hs
  | some m =>
    rw [q1] at hs
    cases q2 : g[m]? with
    | none => rw [Option.bind_some, q2] at hs; cases hs
    | some row =>
      rw [Option.bind_some, q2, Option.bind_some] at hs
      cases q3 : ixN row.length b with
      | none => rw [q3] at hs; cases hs
      | some n =>
        rw [q3] at hs
        cases hs
        obtain ⟨q, hq⟩ := qs_at N q2
        obtain ⟨S2, t2⟩ := S.chgN (n := n) (z := z) hi hp N hP hq q2
        refine ⟨_, t2, S2, fun Q k => ?_⟩
        refine ⟨.ref p, hp, .int a, S.intAt h1, .inl ⟨p, qs.map V.ref, a, .ref q, rfl, rfl, .inl (.inl N.top), atI_of (by rw [List.length_map]; exact N.len) q1 (by rw [List.getElem?_map, hq]; rfl), ?_⟩⟩
        refine ⟨.int b, S.intAt h2, q, row.map V.int, b, n, rfl, rfl, N.row m q row hq q2, by rw [List.length_map]; exact q3, ?_⟩
        rw [← List.map_set]
        exact k
end
/-- told[x][y] -/
def fIxN (i j1 j2 : Nat) : Env → RE := fun ρ => match ρ[i]?, ρ[j1]?, ρ[j2]? with
  | some (some (.nst g)), some (some (.pub _ (.int a))), some (some (.pub _ (.int b))) => resW ((getG g a b).map fun z => .pu (.int z)) ρ
  | _, _, _ => .st
def sSetN (i j1 j2 : Nat) (fe : Env → RE) : Env → RS := sE fe fun w ρ => match w.d, ρ[i]?, ρ[j1]?, ρ[j2]? with
  | .int z, some (some (.nst g)), some (some (.pub _ (.int a))), some (some (.pub _ (.int b))) => (match setG g a b z with
    | some g' => .nx (ρ.set i (some (.nst g')))
    | none => .st)
  | _, _, _, _ => .st
def sSetN2 (i j1 j2 j3 j4 : Nat) (fe : Env → RE) : Env → RS := sE fe fun w ρ => match w.d, ρ[i]?, ρ[j1]?, ρ[j2]?, ρ[j3]?, ρ[j4]? with
  | .tuple [.int z, .int y], some (some (.nst g)), some (some (.pub _ (.int a))), some (some (.pub _ (.int b))), some (some (.pub _ (.int c))), some (some (.pub _ (.int d))) => (match setG g a b z with
    | some g' => (match setG g' c d y with
      | some g'' => if i ≠ j3 ∧ i ≠ j4 then .nx ((ρ.set i (some (.nst g'))).set i (some (.nst g''))) else .st
      | none => .st)
    | none => .st)
  | _, _, _, _, _, _ => .st
def sRetN (i : Nat) : Env → RS := fun ρ => match ρ[i]? with
  | some (some (.nst g)) => .ret (.frs (g.map rowD)) (ρ.set i none)
  | _ => .st
section
variable {X : Cx} {E : XK} {i j1 j2 j3 j4 k : Nat} {e n0 n1 n2 : Expr} {fe : Env → RE} {pos p1 p2 : Pos}
theorem de_ixN (h0 : PE X n0 (tVar i)) (h1 : PE X n1 (tVar j1)) (h2 : PE X n2 (tVar j2)) (hs1 : PlainIx n1 := by exact fun _ _ => rfl) (hs2 : PlainIx n2 := by exact fun _ _ => rfl) : DE X E (.Subscript (.Subscript n0 n1 p1) n2 p2) (fIxN i j1 j2) := by
  refine ⟨PE.weak (pe_ix ix_seq (pe_ix ix_seq h0 h1 hs1) h2 hs2) fun σ H Q ⟨τ, A0, P, ρ, S, c⟩ => ?_⟩
  unfold fIxN at c
  split at c
  · rename_i g m1 a m2 b q0 q1 q2
    obtain ⟨⟨p, qs, hp, N, hP⟩, _⟩ := S.ns i g q0
    unfold getG at c
    cases r1 : atI g a with
    | none => rw [r1] at c; exact c.elim
    | some row =>
      rw [r1, Option.bind_some] at c
      cases r2 : atI row b with
      | none => rw [r2] at c; exact c.elim
      | some z =>
        rw [r2] at c
        obtain ⟨m, e1, e2⟩ := atI_at r1
        obtain ⟨n, e3, e4⟩ := atI_at r2
        obtain ⟨q, hq⟩ := qs_at N e2
        refine ⟨.ref p, hp, .int a, S.intAt q1, .inl ⟨p, qs.map V.ref, a, .ref q, rfl, rfl, .inl (.inl N.top), atI_of (by rw [List.length_map]; exact N.len) e1 (by rw [List.getElem?_map, hq]; rfl), ?_⟩⟩
        refine ⟨.int b, S.intAt q2, .inl ⟨q, row.map V.int, b, .int z, rfl, rfl, .inl (.inl (N.row m q row hq e2)), atI_of (by rw [List.length_map]) e3 (by rw [List.getElem?_map, e4]; rfl), ?_⟩⟩
        exact c (.int z) H P (Stp.rfl H P) S (.int z)
  · exact c.elim
theorem ds_setN (h0 : PE X n0 (tVar i)) (h1 : PE X n1 (tVar j1)) (h2 : PE X n2 (tVar j2)) (he : DE X E e fe) (hs1 : PlainIx n1 := by exact fun _ _ => rfl)
    (ha : ∀ v, assign (.Subscript (.Subscript n0 n1 p1) n2 p2) X.env v = (do
      let ov ← holding [v] (eval (.Subscript n0 n1 p1) X.env)
      let iv ← holding [v, ov] (eval n2 X.env)
      standAt p2
      holding [v, ov, iv] (setItem ov iv v)
      release [v, ov, iv] []) := by intro _; rfl)
    (hs : swapsWithSole [.Subscript (.Subscript n0 n1 p1) n2 p2] e pos.line X.env = pure false := by rfl) (hw : swappedStores [.Subscript (.Subscript n0 n1 p1) n2 p2] e X.env = pure none := by rfl) (hh : (assignEach [.Subscript (.Subscript n0 n1 p1) n2 p2] X.env).map (·.2) = [assign (.Subscript (.Subscript n0 n1 p1) n2 p2) X.env] := by rfl) :
    DS X E (.Assign [.Subscript (.Subscript n0 n1 p1) n2 p2] e pos) (sSetN i j1 j2 fe) := by
  refine ⟨PS.weak (ps_asg he.pe (pg_sub (pe_ix ix_seq h0 h1 hs1) h2 set_list ha) hs hw hh) fun Dn σ H ⟨τ, A0, P, ρ, S, c⟩ => ⟨τ, A0, P, ρ, S, CDE.toD ?_⟩⟩
  unfold sSetN sE at c
  cases q : fe ρ with
  | err cc d => rw [q] at c; exact c
  | st => rw [q] at c; exact c
  | ok w ρ1 =>
    rw [q] at c
    dsimp only at c
    intro v H1 P1 t1 S1 r1
    split at c
    · rename_i z g m1 a m2 b qw q0 q1 q2
      rw [qw] at r1
      rw [rp_int r1]
      cases q3 : setG g a b z with
      | none => rw [q3] at c; exact c.elim
      | some g' =>
        rw [q3] at c
        obtain ⟨H2, t2, S2, kk⟩ := setN_step S1 q0 q1 q2 q3
        exact kk _ (c σ H2 P1 (t1.trans t2) S2)
    · exact c.elim
theorem ds_setN2 {m0 m1 m2 : Expr} {p3 p4 pt : Pos} {kt : Nat} (hc : X.calm = true) (h0 : PE X n0 (tVar i)) (h1 : PE X n1 (tVar j1)) (h2 : PE X n2 (tVar j2)) (h3 : PE X m0 (tVar i)) (h4 : PE X m1 (tVar j3)) (h5 : PE X m2 (tVar j4)) (he : DE X E e fe) (hs1 : PlainIx n1 := by exact fun _ _ => rfl) (hs2 : PlainIx m1 := by exact fun _ _ => rfl)
    (ha : ∀ v, assign (.Subscript (.Subscript n0 n1 p1) n2 p2) X.env v = (do
      let ov ← holding [v] (eval (.Subscript n0 n1 p1) X.env)
      let iv ← holding [v, ov] (eval n2 X.env)
      standAt p2
      holding [v, ov, iv] (setItem ov iv v)
      release [v, ov, iv] []) := by intro _; rfl)
    (ha2 : ∀ v, assign (.Subscript (.Subscript m0 m1 p3) m2 p4) X.env v = (do
      let ov ← holding [v] (eval (.Subscript m0 m1 p3) X.env)
      let iv ← holding [v, ov] (eval m2 X.env)
      standAt p4
      holding [v, ov, iv] (setItem ov iv v)
      release [v, ov, iv] []) := by intro _; rfl)
    (hs : swapsWithSole [.Tuple [.Subscript (.Subscript n0 n1 p1) n2 p2, .Subscript (.Subscript m0 m1 p3) m2 p4] kt pt] e pos.line X.env = pure false := by rfl) (hw : swappedStores [.Tuple [.Subscript (.Subscript n0 n1 p1) n2 p2, .Subscript (.Subscript m0 m1 p3) m2 p4] kt pt] e X.env = pure none := by rfl)
    (hh : (assignEach [.Tuple [.Subscript (.Subscript n0 n1 p1) n2 p2, .Subscript (.Subscript m0 m1 p3) m2 p4] kt pt] X.env).map (·.2) = [assign (.Tuple [.Subscript (.Subscript n0 n1 p1) n2 p2, .Subscript (.Subscript m0 m1 p3) m2 p4] kt pt) X.env] := by rfl) :
    DS X E (.Assign [.Tuple [.Subscript (.Subscript n0 n1 p1) n2 p2, .Subscript (.Subscript m0 m1 p3) m2 p4] kt pt] e pos) (sSetN2 i j1 j2 j3 j4 fe) := by
  refine ⟨PS.weak (ps_asg he.pe (pg_tup (n := 2) hc (pgs_cons (pg_sub (pe_ix ix_seq h0 h1 hs1) h2 set_list ha) (pgs_cons (pg_sub (pe_ix ix_seq h3 h4 hs2) h5 set_list ha2) pgs_nil))) hs hw hh) fun Dn σ H ⟨τ, A0, P, ρ, S, c⟩ => ⟨τ, A0, P, ρ, S, CDE.toD ?_⟩⟩
  unfold sSetN2 sE at c
  cases q : fe ρ with
  | err cc d => rw [q] at c; exact c
  | st => rw [q] at c; exact c
  | ok w ρ1 =>
    rw [q] at c
    dsimp only at c
    intro v H1 P1 t1 S1 r1
    split at c
    · rename_i z y g m1 a m2 b m3 cc m4 d qw q0 q1 q2 q3 q4
      rw [qw] at r1
      obtain ⟨t, xs, rfl, ht, rt⟩ := rp_tup r1
      obtain ⟨v1, v2, rfl, rv1, rv2⟩ := rps_two rt
      rw [rp_int rv1, rp_int rv2] at ht
      cases q5 : setG g a b z with
      | none => rw [q5] at c; exact c.elim
      | some g' =>
        rw [q5] at c
        dsimp only at c
        cases q6 : setG g' cc d y with
        | none => rw [q6] at c; exact c.elim
        | some g'' =>
          rw [q6] at c
          dsimp only at c
          by_cases hij : i ≠ j3 ∧ i ≠ j4
          rotate_left
          · rw [if_neg hij] at c
            exact c.elim
          rw [if_pos hij] at c
          obtain ⟨H2, t2, S2, kk⟩ := setN_step S1 q0 q1 q2 q5
          have hl : i < ρ1.length := (List.getElem?_eq_some_iff.mp q0).1
          obtain ⟨H3, t3, S3, kk3⟩ := setN_step S2 (List.getElem?_set_self hl) (by rw [List.getElem?_set_ne hij.1]; exact q3) (by rw [List.getElem?_set_ne hij.2]; exact q4) q6
          refine ⟨t, [.int z, .int y], rfl, .inl (.inl ht), rfl, .int z, _, rfl, kk _ ⟨.int y, _, rfl, kk3 _ ⟨rfl, c σ H3 P1 (t1.trans (t2.trans t3)) S3⟩⟩⟩
    · exact c.elim
theorem ds_retN2 (h : PE X e (tVar i)) : DS X E (.Return (some e) pos) (sRetN i) := by
  refine ⟨PS.weak (ps_ret h) fun Dn σ H ⟨τ, A0, P, ρ, S, c⟩ => ?_⟩
  unfold sRetN at c
  split at c
  · rename_i g q
    obtain ⟨⟨p, qs, hp, N, hP⟩, u2, u3⟩ := S.ns i g q
    refine ⟨.ref p, hp, ?_⟩
    have hl : i < ρ.length := (List.getElem?_eq_some_iff.mp q).1
    have pA : ∀ a ∈ p :: qs, a ∉ A0 := fun a z => S.dj a (hP a z)
    have nd := N.nd
    rw [List.nodup_cons] at nd
    have old : ∀ {m : Nat} {s : Sl}, (ρ.set i none)[m]? = some (some s) → i ≠ m ∧ ρ[m]? = some (some s) := fun {m s} w => by
      by_cases hm : i = m
      · subst hm
        rw [List.getElem?_set_self hl] at w
        cases w
      · rw [List.getElem?_set_ne hm] at w
        exact ⟨hm, w⟩
    have mem : ∀ a, a ∈ P.filter (fun a => decide (a ∉ p :: qs)) → a ∈ P ∧ a ∉ p :: qs := fun a z => ⟨(List.mem_filter.mp z).1, of_decide_eq_true (List.mem_filter.mp z).2⟩
    have ex : Ext (hid (P ++ A0) H) (hid (P.filter (fun a => decide (a ∉ p :: qs)) ++ p :: A0) H) := hid_less fun a z => by
      rcases List.mem_append.mp z with z | z
      · exact List.mem_append_left _ (mem a z).1
      · rcases List.mem_cons.mp z with z | z
        · rw [z]; exact List.mem_append_left _ (hP p List.mem_cons_self)
        · exact List.mem_append_right _ z
    refine c p (qs.map V.ref) σ H (P.filter (fun a => decide (a ∉ p :: qs))) ⟨fun _ _ _ z _ => z, fun a z => .inl (mem a z).1, fun _ z => z, fun z => z⟩ (.inl (hP p List.mem_cons_self)) (fun z => (mem p z).2 List.mem_cons_self) (pA p List.mem_cons_self) ⟨fun j m d w => ?_, fun j t ds w => absurd (old w).2 (u3 j t ds), fun j k t u es fs b hjk e1 _ _ => absurd (old e1).2 (u3 j t es), fun a z => ?_, by simpa using S.len, fun a z w => ?_, S.tb, fun j h w => absurd (u2 j h (old w).2) (Ne.symm (old w).1)⟩ N.top ?_
    · obtain ⟨_, w1⟩ := old w
      obtain ⟨v, b1, b2, b3⟩ := S.pu j m d w1
      exact ⟨v, b1, b2.ext ex.hs, b3⟩
    · rcases List.mem_append.mp z with z | z
      · exact S.tr a (List.mem_append_left _ (mem a z).1)
      · rcases List.mem_cons.mp z with z | z
        · rw [z, N.top]; exact fun w => by cases w
        · exact S.tr a (List.mem_append_right _ z)
    · rcases List.mem_cons.mp w with w | w
      · exact (mem a z).2 (by rw [w]; exact List.mem_cons_self)
      · exact S.dj a (mem a z).1 w
    · have go : ∀ (qs' : List Addr) (g' : List (List Int)), qs'.length = g'.length → (∀ q ∈ qs', q ∈ qs) → (∀ (j : Nat) (q : Addr) (r : List Int), qs'[j]? = some q → g'[j]? = some r → H q = some (.lst (r.map V.int))) → Rps X.K (hid (P.filter (fun a => decide (a ∉ p :: qs)) ++ p :: A0) H) (qs'.map V.ref) (g'.map rowD) := by
        intro qs'
        induction qs' with
        | nil => intro g' hl _ _; cases g' with
          | nil => exact .nil
          | cons _ _ => cases hl
        | cons a qs' ih =>
          intro g' hl hm hr
          cases g' with
          | nil => cases hl
          | cons r g' =>
            refine .cons (.lst (hid_in (fun z => ?_) (hr 0 a r rfl rfl)) (ints_rps r)) (ih g' (by simpa using hl) (fun q hq => hm q (List.mem_cons_of_mem _ hq)) fun j q2 r2 e1 e2 => hr (j + 1) q2 r2 (by simpa using e1) (by simpa using e2))
            have ha := hm a List.mem_cons_self
            rcases List.mem_append.mp z with z | z
            · exact (mem a z).2 (List.mem_cons_of_mem _ ha)
            · rcases List.mem_cons.mp z with z | z
              · exact nd.1 (by rw [← z]; exact ha)
              · exact pA a (List.mem_cons_of_mem _ ha) z
      exact go qs g N.len (fun _ z => z) N.row
  · exact c.elim
end
section
variable {X : Cx} {E : XK} {i k n : Nat} {y x : Str} {iter : Expr} {scope : Scope} {pos spos py p1 p2 p3 : Pos} {fa : Env → RE}
/-- name = [list(x) for x in e] -/
theorem ds_copy (c : Cn X E n) (B : Bl X.mg) (hN : X.N.Nodup) (hy : X.N[i]? = some y) (hi : DE X E iter fa) (ok : BlkOk X.N X.env.scope scope [(x, k)])
    (hg : ∀ (s : Shared) (H : Hp) (C : Addr) (cl : List (Str × Addr)) (fp : List Addr), PG (X.blk s H scope (compEnvC scope cl C X.env) fp) (.Name x p1) (gName k))
    (he : ∀ (s : Shared) (H : Hp) (C : Addr) (cl : List (Str × Addr)) (fp : List Addr), PE (X.blk s H scope (compEnvC scope cl C X.env) fp) (.Name x p2) (tVar k))
    (hgl : ∀ (s : Shared) (H : Hp) (C : Addr) (cl : List (Str × Addr)) (fp : List Addr), Gl (X.blk s H scope (compEnvC scope cl C X.env) fp) "list")
    (hst : ∀ (s : Shared) (H : Hp) (C : Addr) (cl : List (Str × Addr)) (fp : List Addr), starEach [.Name x p2] (X.blk s H scope (compEnvC scope cl C X.env) fp).env = (false, eval (.Name x p2) (X.blk s H scope (compEnvC scope cl C X.env) fp).env) :: starEach [] (X.blk s H scope (compEnvC scope cl C X.env) fp).env)
    (hyl : X.env.scope.names.lookup y = some .local) (hk : X.env.scope.kind = .function := by rfl) (hl : (py.line == pos.line) = true := by rfl) (ha : (scope.names.any fun (n, k) => n == y && (k == .local || k == .cell)) = false := by decide) (hs : ∀ x, foldedSetIterable iter X.env x = pure x := by intro _; rfl) {pc pf : Pos} :
    DS X E (.Assign [.Name y py] (.ListComp (.Call (.Name "list" pf) [.Name x p2] [] pc) [⟨.Name x p1, iter, [], 0⟩] scope pos) spos) (sCopy i k fa) :=
  ⟨PS.weak (ps_setLc c.cm hN hy hyl (sw_true hk hyl hl ha) (di_list hi).pi ok hg (fun _ _ _ _ _ => pts_nil) (fun s H C cl fp => pe_callTy call_list_of (hgl s H C cl fp) B.list bt_list (pa_cons (he s H C cl fp) pa_nil (hst s H C cl fp)) (by decide) (by decide) (hst s H C cl fp) (by rfl)) hs) fun Dn σ H h => copy_of h⟩
end
end DL
/-! D16: an exception that is held: its class, its value; index and count of truth values. -/
namespace DL
open PySem L2 PyProof.Rows
/-- what the written part says of an own exception class at C -/
structure ExK (K : PySem.W.Frag) (C : Addr) : Prop where
  cl : (PySem.W.clsIn K C).isSome = true
  ga : PySem.W.findIn K (.ref C) "__getattribute__" = some (some (.builtin "BaseException.__getattribute__"))
  gg : PySem.W.findIn K (.ref C) "__getattr__" = some none
  ex : PySem.W.subIn K (.ref C) (.type "BaseException") = some true
  hd : PySem.W.hasDictIn K C = true
  ha : PySem.W.findIn K (.ref C) "__class__" = some (some (.builtin "object.__class__"))
  hn : PySem.W.specialIn K (.builtin "object.__class__") "__get__" = some (some (.builtin "getset_descriptor.__get__"))
  ht : PySem.W.takesIn K (.builtin "object.__class__") = some true
  hm : PySem.W.mroIn K C (.type "object") = some true
  nv : PySem.W.findIn K (.ref C) "value" = some none
def exkB (K : PySem.W.Frag) (C : Addr) : Bool := (PySem.W.clsIn K C).isSome && (decide (PySem.W.findIn K (.ref C) "__getattribute__" = some (some (.builtin "BaseException.__getattribute__"))) && (decide (PySem.W.findIn K (.ref C) "__getattr__" = some none) && (decide (PySem.W.subIn K (.ref C) (.type "BaseException") = some true) && (PySem.W.hasDictIn K C &&
  (decide (PySem.W.findIn K (.ref C) "__class__" = some (some (.builtin "object.__class__"))) && (decide (PySem.W.specialIn K (.builtin "object.__class__") "__get__" = some (some (.builtin "getset_descriptor.__get__"))) && (decide (PySem.W.takesIn K (.builtin "object.__class__") = some true) && (decide (PySem.W.mroIn K C (.type "object") = some true) && decide (PySem.W.findIn K (.ref C) "value" = some none)))))))))
theorem exkB_ok {K : PySem.W.Frag} {C : Addr} (h : exkB K C = true) : ExK K C := by
  unfold exkB at h
  simp only [Bool.and_eq_true, decide_eq_true_eq] at h
  obtain ⟨h1, h2, h3, h4, h5, h6, h7, h8, h9, h10⟩ := h
  exact ⟨h1, h2, h3, h4, h5, h6, h7, h8, h9, h10⟩
section
variable {X : Cx} {pins : List (Addr × Obj)} {σ : L2.St} {H : Hp} {s : Shared}
/-- the instance, by the heap -/
theorem xo_inst (I : Inv X pins σ H s) {a c dx : Addr} {v : V} (h1 : H a = some (XO c dx a)) (h2 : H dx = some (.xd [(("value" : Str), v)])) : ∃ (oe od : Obj) (u : Value), PySem.W.InstAt s.heap a oe c (some od) ∧ PySem.W.lookIn "value" od = some (some u) ∧ RelV v u := by
  obtain ⟨⟨oe, vs, e1, ⟨e2, e3⟩, e4⟩, _, _⟩ := I.hok a _ h1
  obtain ⟨mA, hns, hr⟩ := I.hok dx _ h2
  obtain ⟨od, ho, hl⟩ := lookIn_ns hns
  have l : List.lookup ("value" : Str) [(("value" : Str), v)] = some v := by simp [List.lookup]
  obtain ⟨u, hu, ru⟩ := RelO.some_of (v := v) (o := mA "value") (by rw [← l]; exact hr "value")
  exact ⟨oe, od, u, ⟨e1, e2, by unfold PySem.W.notCls; rw [e4] <;> rfl, by rw [e3]; exact ho⟩, by rw [hl, hu], ru⟩
def rIsX (K : PySem.W.Frag) : List V → Hp → VK → Prop := fun xs H Q => ∃ (a c dx C : Addr) (v : V) (b : Bool), xs = [.ref a, .ref C] ∧ H a = some (XO c dx a) ∧ H dx = some (.xd [(("value" : Str), v)]) ∧ ExK K c ∧ PySem.W.kitOne K (.ref c) (.ref C) = some b ∧ Q (.bl b) H
theorem call_isX : CallR X (.builtin "isinstance") (rIsX X.K) := by
  intro pins s σ H xs us Q I r h
  obtain ⟨a, c, dx, C, v, b, rfl, h1, h2, T, e, q⟩ := h
  obtain ⟨u1, u2, rfl, r1, r2⟩ := vals2 r
  cases r1
  cases r2
  obtain ⟨oe, od, u, J, _, _⟩ := xo_inst I h1 h2
  exact PySem.W.kia_one (PySem.W.kitx_exc T.cl T.ga T.gg T.ex T.ha T.hn T.ht T.hm) I.kIn J e (fun z => nomatch z) fun tk => ⟨.bl b, H, I.tok tk, rfl, q⟩
end
def gIsX (K : PySem.W.Frag) (cs : List Addr) (C : Addr) : D → Option W
  | .dict [(.int (.ofNat c), _)] => if c ∈ cs then (PySem.W.kitOne K (.ref c) (.ref C)).map fun b => .pu (.bool b) else none
  | _ => none
def gVal (cs : List Addr) : D → Option W
  | .dict [(.int (.ofNat c), d)] => if c ∈ cs then some (.pu d) else none
  | _ => none
theorem rp_exc {K : PySem.W.Frag} {H : Hp} {v : V} {c : Nat} {d : D} (h : Rp K H v (.dict [(.int (.ofNat c), d)])) : ∃ a dx u, v = .ref a ∧ H a = some (XO c dx a) ∧ H dx = some (.xd [(("value" : Str), u)]) ∧ Rp K H u d := by
  generalize e : PyData.dict [(.int (.ofNat c), d)] = dd at h
  cases h with
  | exc h1 h2 h3 =>
    injection e with e
    injection e with e _
    injection e with e1 e2
    injection e1 with e1
    injection e1 with e1
    subst e1 e2
    exact ⟨_, _, _, rfl, h1, h2, h3⟩
  | fn =>
    injection e with e
    injection e with e _
    injection e with e1 e2
    cases e1
  | emp h => cases e
  | _ => cases e
section
variable {X : Cx} {E : XK} {e : Expr} {fa : Env → RE} {pos p p2 : Pos} {cs : List Addr} {C : Addr} {n : Str}
/-- isinstance(e, X), X an own exception class -/
theorem de_isX (B : Bl X.mg) (hcs : ∀ c ∈ cs, ExK X.K c) (hm : X.mg n = some (.ref C)) (ha : DE X E e fa) (hg : Gl X "isinstance" := by rfl) (hgn : Gl X n := by rfl) (hdT : (n == ("__debug__" : Str)) = false := by decide)
    (he : starEach [e, .Name n p2] X.env = (false, eval e X.env) :: starEach [.Name n p2] X.env := by rfl) (he2 : starEach [.Name n p2] X.env = (false, eval (.Name n p2) X.env) :: starEach [] X.env := by rfl) (hpl : (backTo pos (starEach [.Name n p2] X.env)).any (·.1) = false := by rfl) :
    DE X E (.Call (.Name "isinstance" p) [e, .Name n p2] [] pos) (fOp1 (gIsX X.K cs C) fa) := by
  refine ⟨PE.weak (pe_callB call_isX hg B.isi (by decide +kernel) (pa_cons ha.pe (pa_cons (pe_glob (v := .ref C) hgn hm rfl hdT) pa_nil he2) he) (by decide) (by decide) he hpl) fun σ H Q h => ?_⟩
  refine tde_bnd h fun v H' τ A0 P' ρ' d S r c => ?_
  unfold gIsX at c
  split at c
  · rename_i c0 d0
    by_cases hc : c0 ∈ cs
    · rw [if_pos hc] at c
      cases q : PySem.W.kitOne X.K (.ref c0) (.ref C) with
      | none => rw [q] at c; exact c.elim
      | some b =>
        rw [q] at c
        obtain ⟨a, dx, u, rfl, h1, h2, _⟩ := rp_exc r
        exact ⟨a, c0, dx, C, u, b, rfl, (hid_of h1).2, (hid_of h2).2, hcs c0 hc, q, give_pu (.bl _) (giveW S c)⟩
    · rw [if_neg hc] at c
      exact c.elim
  · exact c.elim
/-- e.value -/
theorem de_value (hcs : ∀ c ∈ cs, ExK X.K c) (ha : DE X E e fa) (hb : attributeBase e "value" X.env (eval e X.env) = eval e X.env := by rfl) : DE X E (.Attribute e "value" pos) (fOp1 (gVal cs) fa) := by
  have h : PE X (.Attribute e "value" pos) (fun σ H Q => tDE X.K E fa σ H fun x H1 => ∃ (a c dx : Addr) (v : V), x = .ref a ∧ H1 a = some (XO c dx a) ∧ H1 dx = some (.xd [(("value" : Str), v)]) ∧ ExK X.K c ∧ Q v H1) := by
    refine ⟨fun pins s σ H Q I h => ?_⟩
    refine attr_of hb (thn (ha.pe.run pins s σ H _ I h) fun u s1 hh => ?_)
    obtain ⟨x, H1, I1, rx, a, c, dx, v, ex, h1, h2, T, q⟩ := hh
    subst ex
    obtain rfl : u = Value.ref a := rx
    obtain ⟨oe, od, w, J, hl, ru⟩ := xo_inst I1 h1 h2
    exact HandSPX.exc_get I1.kIn J T.ga T.gg T.ex (PySem.W.findObj_own T.hd T.nv rfl hl) (handed_of ru) ⟨v, H1, I1.tok _, ru, q⟩
  refine ⟨PE.weak h fun σ H Q z => ?_⟩
  refine tde_bnd z fun v H' τ A0 P' ρ' d S r c => ?_
  unfold gVal at c
  split at c
  · rename_i c0 d0
    by_cases hc : c0 ∈ cs
    · rw [if_pos hc] at c
      obtain ⟨a, dx, u, rfl, h1, h2, h3⟩ := rp_exc r
      exact ⟨a, c0, dx, u, rfl, (hid_of h1).2, (hid_of h2).2, hcs c0 hc, give_pu h3 (giveW S c)⟩
    · rw [if_neg hc] at c
      exact c.elim
  · exact c.elim
end
/-! ### index and count of True -/
def bolsOf : List D → Option (List Bool)
  | [] => some []
  | .bool b :: r => (bolsOf r).map (b :: ·)
  | _ => none
theorem bolsOf_eq : ∀ {ds : List D} {l : List Bool}, bolsOf ds = some l → ds = l.map .bool
  | [], l, h => by cases h; rfl
  | .bool i :: r, l, h => by
    unfold bolsOf at h
    cases q : bolsOf r with
    | none => rw [q] at h; cases h
    | some m =>
      rw [q] at h
      cases h
      rw [bolsOf_eq q]
      rfl
  | .none :: _, _, h => by cases h
  | .int _ :: _, _, h => by cases h
  | .str _ :: _, _, h => by cases h
  | .list _ :: _, _, h => by cases h
  | .tuple _ :: _, _, h => by cases h
  | .dict _ :: _, _, h => by cases h
theorem rps_bols {K : PySem.W.Frag} {H : Hp} : ∀ {l : List Bool} {xs : List V}, Rps K H xs (l.map .bool) → xs = l.map V.bl
  | [], _, h => by cases h; rfl
  | b :: l, _, h => by
    cases h with
    | cons h1 h2 =>
      rw [rps_bols h2, rp_bool h1]
      rfl
def gIdxT : D → Option W
  | .list ds => (bolsOf ds).bind fun bs => (bs.findIdx? id).map fun j => .pu (.int j)
  | _ => none
def gCntT : D → Option W
  | .list ds => (bolsOf ds).map fun bs => .pu (.int (bs.count true : Nat))
  | _ => none
section
variable {X : Cx} {E : XK} {a b : Expr} {fa fb : Env → RE} {pos apos : Pos} {m : Nat}
def rCntB (K : PySem.W.Frag) : V → List V → Hp → VK → Prop := fun x xs H Q => ∃ (p : Addr) (bs : List Bool), x = .ref p ∧ xs = [.bl true] ∧ H p = some (.lst (bs.map V.bl)) ∧ Q (.int (bs.count true : Nat)) H
theorem mt_cntB (hu : X.A.units + 65 < cLine) : MtR X "list.count" (rCntB X.K) := by
  intro pins s σ H x xs v us Q I rx rxs h
  obtain ⟨p, bs, rfl, rfl, hs, q⟩ := h
  cases rx
  obtain ⟨u, rfl, ru⟩ := Vals.one rxs
  cases ru
  obtain ⟨hlen, its, n, rv, ho⟩ := I.hok p _ hs
  have ei := Vals.bls rv
  subst ei
  have reads : ∀ l : List Bool, ReadsAll s.heap (l.map Value.bool) (l.map PyData.bool) ((l.map fun _ => ([] : List Addr)).flatten) := by
    intro l
    induction l with
    | nil => exact .nil
    | cons b l ih => exact .cons (.bool b) ih
  have pl : PyData.plainAll (bs.map PyData.bool) = true := by
    clear q hs rv ho hlen reads
    induction bs with
    | nil => rfl
    | cons b l ih => simp [PyData.plainAll, PyData.plain, ih]
  refine SeqAt.count_list_data (d := .bool true) (xs := bs.map PyData.bool) (vs := (bs.map Value.bool).toArray) ⟨_, ho, rfl, n, rfl⟩ (by simpa using reads bs) (.bool true) pl (by simp [PyData.plain]) (by simp only [PyData.depth, Nat.min_zero]; omega) ?_
  have e : (bs.map PyData.bool).countP (fun y => PyData.eqv y (.bool true)) = bs.count true := by
    clear q hs rv ho hlen reads pl
    induction bs with
    | nil => rfl
    | cons b l ih =>
      rw [List.map_cons, List.countP_cons, ih, List.count_cons]
      cases b <;> simp [PyData.eqv]
  rw [e]
  exact ⟨.int (bs.count true : Nat), H, I.tok _, ⟨s.toks, rfl⟩, q⟩
end
section
variable {X : Cx} {E : XK} {a b : Expr} {fa fb : Env → RE} {pos apos : Pos} {m : Nat}
theorem tyL {K : PySem.W.Frag} {H : Hp} {p : Addr} {xs : List V} (h : H p = some (.lst xs)) : tyV K "list" (.ref p) H := .inl ⟨rfl, xs, .inl (.inl h)⟩
theorem de_cntT {j : Nat} {p2 : Pos} (c : Cn X E m) (ha : DE X E a fa) (hbase : attributeBase a "count" X.env (eval a X.env) = eval a X.env := by rfl) (hline : (apos.endLine == pos.line) = true := by rfl) :
    DE X E (.Call (.Attribute a "count" apos) [.Constant (.bool true) j p2] [] pos) (fOp1 gCntT fa) := by
  have un := c.rm.un
  refine ⟨PE.weak (pe_bm PySem.F.plainAttrs_list PySem.F.slot_list_count PySem.F.type_list_count (mt_cntB (by omega)) ha.pe (pa_cons pe_bl pa_nil) hbase (by rfl) hline) fun σ H Q h => ?_⟩
  refine tde_bnd h fun v H' τ A0 P' ρ' d S r c => ?_
  unfold gCntT at c
  split at c
  · rename_i ds
    cases q : bolsOf ds with
    | none => rw [q] at c; exact c.elim
    | some bs =>
      rw [q] at c
      obtain ⟨p, xs, rfl, h1, rr⟩ := rp_lst r
      rw [bolsOf_eq q] at rr
      have e := rps_bols rr
      subst e
      exact ⟨tyL h1, p, bs, rfl, rfl, h1, give_pu (.int _) (giveW S c)⟩
  · exact c.elim
theorem de_idxT {j : Nat} {p2 : Pos} (ha : DE X E a fa) (hbase : attributeBase a "index" X.env (eval a X.env) = eval a X.env := by rfl) (hline : (apos.endLine == pos.line) = true := by rfl) :
    DE X E (.Call (.Attribute a "index" apos) [.Constant (.bool true) j p2] [] pos) (fOp1 gIdxT fa) := by
  refine ⟨PE.weak (pe_bm PySem.F.plainAttrs_list PySem.F.slot_list_index PySem.F.type_list_index mt_index ha.pe (pa_cons pe_bl pa_nil) hbase (by rfl) hline) fun σ H Q h => ?_⟩
  refine tde_bnd h fun v H' τ A0 P' ρ' d S r c => ?_
  unfold gIdxT at c
  split at c
  · rename_i ds
    cases q : bolsOf ds with
    | none => rw [q] at c; exact c.elim
    | some bs =>
      rw [q, Option.bind_some] at c
      cases q2 : bs.findIdx? id with
      | none => rw [q2] at c; exact c.elim
      | some n =>
        rw [q2] at c
        obtain ⟨p, xs, rfl, h1, rr⟩ := rp_lst r
        rw [bolsOf_eq q] at rr
        have e := rps_bols rr
        subst e
        obtain ⟨k1, k2, k3⟩ := List.findIdx?_eq_some_iff_getElem.mp q2
        refine ⟨tyL h1, p, bs.map V.bl, .bl true, n, .bl true, rfl, rfl, .inl (.inl h1), rfl, by simp [flatV], ?_, rfl, fun m z' hm hz => ?_, give_pu (.int _) (giveW S c)⟩
        · rw [List.getElem?_map, List.getElem?_eq_getElem k1]
          have e2 : bs[n] = true := k2
          rw [e2]; rfl
        · have hml : m < bs.length := Nat.lt_trans hm k1
          rw [List.getElem?_map, List.getElem?_eq_getElem hml] at hz
          cases hz
          have e3 : bs[m] = false := by simpa using k3 m hm
          rw [e3]
          rfl
  · exact c.elim
end
end DL
/-! D17: try: .. except X as e: held = e; the exception stays at hand behind the suite. -/
namespace DL
open PySem L2 PyProof.Rows
section
variable {X : Cx} {pins : List (Addr × Obj)} {σ : L2.St} {H : Hp} {s : Shared}
/-- an object that nobody tracks gets tracked -/
theorem inv_adopt {a : Addr} {o : HO} (I : Inv X pins σ H s) (ha : H a = none) (n0 : ∀ u, X.s_0.heap.get? a ≠ some u) (nL : X.env.locals ≠ a) (nC : ∀ x c, X.env.cells.lookup x = some c → c ≠ a) (nP : ∀ p ∈ X.pn ++ pins, p.1 ≠ a) (new : ObjOk X.prog X.w (upd H a o) s.heap a o) : Inv X pins σ (upd H a o) s := by
  have ne : ∀ {b : Addr} {u : HO}, H b = some u → b ≠ a := fun {b u} e => ne_of_none e ha
  refine ⟨I.ok, I.os, I.bare, ⟨I.base.keep, I.base.slot, fun b u q n hx => ?_, I.base.there, fun b xs q => ?_, fun b u z q => ?_, fun b ps q => ?_⟩, I.loc, I.cell, ?_, fun x c e => ?_, fun p hp => ?_, I.hok.laidN (fun _ _ z => z) ha new, I.len⟩
  · rw [upd_ne (fun z => n0 u (by rw [← z]; exact q))]
    exact I.base.free b u q n hx
  · have z := I.base.tups b xs q
    rw [upd_ne (ne z)]
    exact z
  · have y := I.base.frzs b u z q
    rw [upd_ne (ne y)]
    exact y
  · obtain ⟨more, z⟩ := I.base.tbls b ps q
    exact ⟨more, by rw [upd_ne (ne z)]; exact z⟩
  · rw [upd_ne nL]
    exact I.free
  · rw [upd_ne (nC x c e)]
    exact I.freeC x c e
  · obtain ⟨p1, p2, p3⟩ := I.pin p hp
    exact ⟨p1, by rw [upd_ne (nP p hp)]; exact p2, p3⟩
end
/-- what such a clause wishes of an exception of the body: slot i is the clause's name, slot j keeps it -/
def wHold (K : PySem.W.Frag) (c : Value) (i j : Nat) (Wout : WX) (D : Ends) : WX := fun cls d σ H => ∃ b, PySem.W.exmOne K cls c = some b ∧
  (b = true → ∃ C dx, cls = .ref C ∧ d = some dx ∧ ∀ a, H a = none → D.nx (((σ.set i (some (.ref a))).set j (some (.ref a))).set i none) (upd H a (XO C dx a))) ∧ (b = false → Wout cls d σ H)
section
variable {X : Cx} {x n cn : Str} {c : Value} {i j : Nat} {body : List Stmt} {np pos pos' q1 q2 q3 : Pos} {tb : WX → TS} {Wout : WX}
theorem ps_hold (hs : X.stack = X.env :: X.outer) (hex : X.ex = []) (hf : X.env.frame = some X.env.locals) (hN : X.N.Nodup) (hi : X.N[i]? = some n) (hln : X.env.kindOf n = some .local) (hj : X.N[j]? = some cn) (hlc : X.env.kindOf cn = some .local) (hil : ∀ σ : L2.St, σ.length = X.N.length → i < σ.length) (hc : Names X x c) (tk : Takes X Wout)
    (hd : (n == ("__debug__" : Str)) = false) (hcd : (n == ("__classdict__" : Str)) = false)
    (hsw : ∀ Y : Cx, Y.env = X.env → swapsWith (.Name n q2) (some (.Name cn q1)) q3.line Y.env = pure false)
    (hb : ∀ (W : WX) (pn : List (Addr × Obj)) (xe : Value → Shared → Prop), Takes (X.tr pn xe) W → PassesOwn (model X.prog X.w) X.A X.env xe → PSs (X.tr pn xe) body (tb W)) :
    PS X (.Try body [.ExceptHandler (some (.Name x np)) (some n) [.Assign [.Name cn q1] (.Name n q2) q3] pos'] [] [] pos) (fun D σ H => tb (wHold X.K c i j Wout D) D σ H) := by
  refine ⟨fun pins s σ H D I h => ?_⟩
  have ok := I.ok
  have hfr : X.A.frames = some (X.env :: X.outer) := by rw [ok.frames, hs]
  let hdl : ExceptHandler := .ExceptHandler (some (.Name x np)) (some n) [.Assign [.Name cn q1] (.Name n q2) q3] pos'
  let look : Value → Shared → Prop := fun e t1 => wpAny (model X.prog X.w) X.A (noteFrame e X.env)
    (fun _ t2 => wpAny (model X.prog X.w) X.A (setFlight e none) (fun _ t3 => wpAny (model X.prog X.w) X.A (handleBy e X.env [hdl]) (SP X pins D) X.xe t3) X.xe t2) X.xe t1
  have taken : Takes (X.tr (X.pn ++ pins) look) (wHold X.K c i j Wout D) := by
    rintro u t ⟨a, B, tI, ps2, σ', H', cls, d, rfl, J0, nb, up, sky, na, os, ag, b, hb1, hyes, hno⟩
    have J : Inv X pins σ' H' tI := J0.ofTry ok
    have sky2 : Sky B (X.env :: X.outer) a (Zc cls d) X.env.locals t.heap := by rw [← hs]; exact sky
    show wpAny (model X.prog X.w) X.A (noteFrame (.ref a) X.env) _ _ _
    refine Sky.land Zc.steady hfr hf sky2 fun h3 fl3 up3 => ?_
    have J3 : Inv X pins σ' H' { t with heap := h3 } := J.landed nb fl3.1 (up.trans up3) os ag
    obtain ⟨oe3, vs3, he3, hz3, hd3⟩ := fl3.there
    have nfr : a ∉ frs (X.env :: X.outer) := fun hm => by
      obtain ⟨_, o', e', hnf⟩ := fl3.2.2.1.mem hm
      rw [he3] at e'
      cases e'
      exact hnf _ hd3
    have nL : a ≠ X.env.locals := fun z => nfr (List.mem_filterMap.mpr ⟨X.env, List.mem_cons_self, by rw [hf, z]⟩)
    have nF : a ∉ X.fs := fun hm => by
      obtain ⟨e, he, q⟩ := List.mem_filterMap.mp hm
      exact nfr (List.mem_filterMap.mpr ⟨e, List.mem_cons_of_mem _ he, q⟩)
    have new : tI.heap.get? a = none := by
      cases q : tI.heap.get? a with
      | none => rfl
      | some o =>
        have z := nb a o q (by rw [hs]; exact nfr)
        rw [fl3.2.1] at z
        cases z
    have S3 := J3.suite he3 hd3 na nL nF
    refine wpAny_handleBy_cons (codeAny_handlers_test ?_) (by intro q; cases q)
    have LT : PySem.W.Looks (model X.prog X.w) h3 (typeOf (.ref a)) cls := fun A Q E s k q => wpAny_typeOf_ref (k _ _ he3) (by rw [hz3.1]; exact q)
    have LM := PySem.W.exm_one (M := model X.prog X.w) (J3.kIn) LT hb1
    have test : ∀ {Q : Value → Shared → Prop} {E : Value → Shared → Prop}, Q c { t with heap := h3 } → wpAny (model X.prog X.w) (X.A.mark (some (.ref a))) (eval (.Name x np) X.env) Q E { t with heap := h3 } := fun {Q E} q => by
      obtain ⟨hg, hdbg, hm | ⟨hm, hv, hnn⟩⟩ := hc
      · exact ld_glob (X := X.suite a ((a, oe3) :: (X.pn ++ pins))) S3 hg hm q hdbg
      · exact ld_blt (X := X.suite a ((a, oe3) :: (X.pn ++ pins))) S3 hg hm hv q hnn hdbg
    refine test (LM.here ?_)
    cases b with
    | true =>
      obtain ⟨C, dx, rfl, rfl, go⟩ := hyes rfl
      refine codeAny_handlers_suite_as ?_
      refine HandSPX.lands_againZ fl3 fun h4 fl4 up4 => ?_
      have J4 : Inv X pins σ' H' { t with heap := h4 } := J.landed nb fl4.1 ((up.trans up3).trans up4) os ag
      obtain ⟨oe4, vs4, he4, hz4, hd4⟩ := fl4.there
      have S4 := J4.suite he4 hd4 na nL nF
      have hloc : L2.Loc X.env.scope n := .inl hln
      refine store_ok (X := X.suite a ((a, oe4) :: (X.pn ++ pins))) (v := .ref a) S4 hN hi hloc rfl (fun s5 S5 => ?_) (.inr hln)
      have suiteP : PSs (X.suite a ((a, oe4) :: (X.pn ++ pins))) [.Assign [.Name cn q1] (.Name n q2) q3] (tAsg (tVar i) (gName j)) :=
        pss_one (ps_set (X := X.suite a ((a, oe4) :: (X.pn ++ pins))) hN hj (.inl hlc) (pe_var hi (.inl hln) hd hcd) (hsw _ rfl) (.inr hlc))
      have lσ : i < σ'.length := hil σ' J.len
      refine wpAny_mono (suiteP.run [] s5 _ H' { nx := fun σ6 H6 => σ6 = (σ'.set i (some (.ref a))).set j (some (.ref a)) ∧ H6 = H', rt := fun _ _ => False } S5 ⟨.ref a, List.getElem?_set_self lσ, rfl, rfl⟩) (fun f s6 hsp => ?_) (fun _ _ z => False.elim z)
      have bad : ∀ {P : Prop}, False → P := fun z => z.elim
      cases f with
      | next =>
        obtain ⟨σ6, H6, S6, rfl, rfl⟩ := hsp
        refine gone_ok (X := X.suite a ((a, oe4) :: (X.pn ++ pins))) S6 hN hi hln fun s7 S7 => ?_
        have at7 := (S7.pin (a, oe4) (List.mem_append_left _ List.mem_cons_self)).1
        have J7 := S7.unsuite ok
        refine ⟨_, _, inv_adopt (o := XO C dx a) J7 na (fun u z => ?_) (Ne.symm nL) (fun y c2 e z => ?_) (fun p hp z => ?_) ⟨⟨oe4, vs4, at7, hz4, hd4⟩, ⟨oe4, at7⟩, fun _ _ ⟨o, v, w, r⟩ k => ⟨o, v, k o w, r⟩⟩, go a na⟩
        · obtain ⟨o', w⟩ := J.base.there a u z (by rw [hex]; exact fun y => nomatch y)
          rw [new] at w
          cases w
        · obtain ⟨v, o, w, _⟩ := J.cell y c2 e
          rw [z, new] at w
          cases w
        · obtain ⟨w, _⟩ := J.pin p hp
          rw [z, new] at w
          cases w
      | brk =>
        obtain ⟨_, _, _, z⟩ := hsp
        exact bad z
      | cont =>
        obtain ⟨_, _, _, z⟩ := hsp
        exact bad z
      | ret u =>
        obtain ⟨_, _, _, _, _, z⟩ := hsp
        exact bad z
    | false =>
      show wpAny _ X.A (handleBy (.ref a) X.env []) _ _ _
      refine wpAny_handleBy_nil ?_
      obtain ⟨k1, k2, k3, oe, vs, T, oT, ts', he, hz, hd', h1, hr⟩ := id fl3
      unfold PySem.passOn
      refine wpAny_bind (wpAny_field he hd' h1 ?_)
      rw [if_neg (show ¬ ((Value.ref T == Value.none) = true) from by simp)]
      have fin : wpAny (model X.prog X.w) X.A (setFlight (.ref a) X.env.frame) (fun _ s4 => wpAny (model X.prog X.w) X.A (throw (.ref a) : Sem Flow) (SP X pins D) X.xe s4) X.xe { t with heap := h3 } := by
        rw [hf]
        refine HandSPX.setFlight_upZ fl3 fun h4 hh4 up4 => wpAny_throw (tk _ _ ?_)
        exact ⟨a, B, tI, pins, σ', H', cls, d, rfl, J, nb, (up.trans up3).trans up4, .inr (.inr (by rw [hs]; exact hh4)), na, os, ag, hno rfl⟩
      first
        | exact wpAny_bind (wpAny_pure (wpAny_bind fin))
        | exact wpAny_bind fin
  refine wpAny_Try_except ?_
  refine wpAny_mono ((hb (wHold X.K c i j Wout D) (X.pn ++ pins) look taken PassesOwn.looking).run [] s σ H D (I.toTry _) h) (fun f s1 hsp => ?_) (fun e s1 he => he)
  cases f with
  | next =>
    obtain ⟨σ', H', J', q⟩ := hsp
    exact wpAny_execs_nil ⟨σ', H', J'.ofTry ok, q⟩
  | brk =>
    obtain ⟨σ', H', J', q⟩ := hsp
    exact ⟨σ', H', J'.ofTry ok, q⟩
  | cont =>
    obtain ⟨σ', H', J', q⟩ := hsp
    exact ⟨σ', H', J'.ofTry ok, q⟩
  | ret u =>
    obtain ⟨v, σ', H', J', r, q⟩ := hsp
    exact ⟨v, σ', H', J'.ofTry ok, r, q⟩
end
end DL
/-! D18: functions handed over, and what a call of them does. -/
namespace DL
open PySem L2 PyProof.Rows
/-- what a call without arguments does: it lets, or raises an exception of the class at c with the value d -/
inductive FO where
  | lets (d : D)
  | err (c : Addr) (d : D)
def FOut (K : PySem.W.Frag) (E : XK) (A : List Addr) (H : Hp) (o : FO) (Q : VK) : Prop := match o with
  | .lets d => ∀ v H', Gr K H H' → Rp K (hid A H') v d → Q v H'
  | .err c d => ∀ dx v H', Gr K H H' → (H dx = none ∧ H' dx = some (.xd [(("value" : Str), v)])) → Rp K (hid A H') v d → E (.ref c) (some dx) H'
/-- f stands in the base and does so at every heap that grew out of H; T: what is hidden -/
structure Can (P : Program) (w : World) (K : PySem.W.Frag) (mg : Str → Option Value) (base : Heap) (k : Nat) (H : Hp) (T : List Addr) (f : Addr) (o : FO) : Prop where
  fn : ∃ ob, base.get? f = some ob ∧ ∀ h : Heap, h.get? f = some ob → PySem.W.FnAt f h
  run : ∀ (A : Around) (outer : List PySem.Env) (s2 : Shared) (H2 : Hp) (B : List Addr) (Q : VK) (E : XK), A.guards = some [] → Room k A → Env0 P w K mg base A outer s2 H2 → Gr K H H2 →
    (∀ a ∈ T, a ∈ B) → (∀ a ∈ B, a ∈ T ∨ H a = none) → (∀ a ∈ B, H2 a ≠ none) → LamX.Tabs (TbK K) H2 → FOut K E B H2 o Q → codeAny (model P w) A (.call (.ref f) ⟨[], []⟩) (CR (L2.CX P w) outer P w H2 s2 Q E) s2
theorem Can.later {P : Program} {w : World} {K : PySem.W.Frag} {mg : Str → Option Value} {base : Heap} {k : Nat} {H H' : Hp} {T T' : List Addr} {f : Addr} {o : FO} (C : Can P w K mg base k H T f o) (g : Gr K H H') (h1 : ∀ a ∈ T, a ∈ T') (h2 : ∀ a ∈ T', a ∈ T ∨ H a = none) : Can P w K mg base k H' T' f o :=
  ⟨C.fn, fun A outer s2 H2 B Q E hgd hr e0 g2 b1 b2 tr tb q => C.run A outer s2 H2 B Q E hgd hr e0 (g.trans g2) (fun a z => b1 a (h1 a z)) (fun a z => (b2 a z).elim (h2 a) fun z => .inr (g.al a z)) tr tb q⟩
theorem Can.mono {P : Program} {w : World} {K : PySem.W.Frag} {mg : Str → Option Value} {base : Heap} {j k : Nat} {H : Hp} {T : List Addr} {f : Addr} {o : FO} (C : Can P w K mg base j H T f o) (h : j ≤ k) : Can P w K mg base k H T f o :=
  ⟨C.fn, fun A outer s2 H2 B Q E hgd hr => C.run A outer s2 H2 B Q E hgd (hr.mono h)⟩
section
variable {Y : Cx} {k i : Nat} {H0 : Hp} {T : List Addr} {f : Addr} {o : FO} {pn : List (Addr × Obj)} {xe : Value → Shared → Prop} {W : WX} {a : Str} {p1 p2 : Pos}
/-- x(), x such a function, in a try -/
theorem pe_can (C : Can Y.prog Y.w Y.K Y.mg Y.base k H0 T f o) (hgd : Y.A.guards = some []) (hr : Room k Y.A) (tk : Takes (Y.tr pn xe) W) (hN : Y.N[i]? = some a) (hv : Vis Y.env.scope a) (hd : (a == ("__debug__" : Str)) = false := by decide) (hcd : (a == ("__classdict__" : Str)) = false := by decide) :
    PE (Y.tr pn xe) (.Call (.Name a p1) [] [] p2) (fun σ H Q => σ[i]? = some (some (.ref f)) ∧ Gr Y.K H0 H ∧ (∀ a ∈ T, H a ≠ none) ∧ LamX.Tabs (TbK Y.K) H ∧ FOut Y.K (WE W σ) T H o Q) := by
  refine ⟨fun pins s σ H Q I ⟨hσ, g, tr, tb, q⟩ => ?_⟩
  refine wpAny_Call_Name_kw (thn ((pe_var (X := Y.tr pn xe) (pos := p1) (i := i) hN hv hd hcd).run pins s σ H (fun v H1 => v = .ref f ∧ H1 = H) I ⟨.ref f, hσ, rfl, rfl⟩) fun u s1 ⟨v, H1, I1, r1, e1, e2⟩ => ?_)
  subst e1
  rw [e2] at I1
  obtain rfl : u = Value.ref f := r1
  obtain ⟨ob, c1, c2⟩ := C.fn
  refine PySem.W.callWith_F0 (c2 _ (I1.bk f ob c1)) ?_
  have rc := C.run Y.A Y.stack s1 H T Q (WE W σ) hgd hr I1.env0 g (fun _ z => z) (fun a z => .inl z) tr tb q
  refine wpAny_call (codeAny_mono rc fun r s' hq => ?_)
  cases r with
  | error e => exact passAt tk σ pins H s1 e s' I1 hq
  | ok fl =>
    cases fl with
    | ret u => exact I1.after hq
    | next => exact False.elim hq
    | brk => exact False.elim hq
    | cont => exact False.elim hq
end
/-! ### the ground: all that nobody tracks, but the frames -/
def ground (s : Shared) (H : Hp) (fr : List Addr) : Heap := PySem.W.hideAll s.heap ((List.range s.heap.objs.size).filter fun a => (H a).isSome || decide (a ∈ fr))
theorem ground_get {s : Shared} {H : Hp} {fr : List Addr} {b : Addr} {o : Obj} (e : s.heap.get? b = some o) (n : H b = none) (hf : b ∉ fr) : (ground s H fr).get? b = some o :=
  PySem.W.hideAll_get _ e fun hm => by
    have q := (List.mem_filter.mp hm).2
    simp [n, hf] at q
theorem of_ground {s : Shared} {H : Hp} {fr : List Addr} {b : Addr} {o : Obj} (e : (ground s H fr).get? b = some o) : s.heap.get? b = some o ∧ H b = none ∧ b ∉ fr := by
  have e1 : s.heap.get? b = some o := PySem.W.of_hideAll _ e
  have nm : b ∉ (List.range s.heap.objs.size).filter fun a => (H a).isSome || decide (a ∈ fr) := fun hm => by
    unfold ground at e
    rw [PySem.W.hideAll_none _ hm] at e
    cases e
  rw [List.mem_filter, not_and] at nm
  have z := nm (List.mem_range.mpr (Heap.lt_size e1))
  simp only [Bool.or_eq_true, decide_eq_true_eq, not_or, Option.isSome_iff_ne_none, ne_eq, Decidable.not_not] at z
  exact ⟨e1, z.1, z.2⟩
section
variable {X : Cx} {pins : List (Addr × Obj)} {σ : L2.St} {H : Hp} {s : Shared}
theorem base_ground (I : Inv X pins σ H s) {b : Addr} {o : Obj} (e : X.base.get? b = some o) : (ground s H (frs X.stack)).get? b = some o := by
  obtain ⟨h1, h2⟩ := I.bs b o e
  refine ground_get h1 h2 fun hm => ?_
  have := (I.stack.mem hm).1
  rw [e] at this
  cases this
theorem frames_mono {h B G : Heap} : ∀ {l : List PySem.Env}, h.FunFrames B l → (∀ L ∈ frs l, G.get? L = none) → h.FunFrames G l
  | [], _, _ => trivial
  | env :: l, h, hn => by
    obtain ⟨hk, ⟨L, o, hf, _, ho, hd⟩, hr⟩ := h
    exact ⟨hk, ⟨L, o, hf, hn L (List.mem_filterMap.mpr ⟨env, List.mem_cons_self, hf⟩), ho, hd⟩, frames_mono hr fun b hb => by
      obtain ⟨e, he, q⟩ := List.mem_filterMap.mp hb
      exact hn b (List.mem_filterMap.mpr ⟨e, List.mem_cons_of_mem _ he, q⟩)⟩
theorem mod_ground (I : Inv X pins σ H s) : Mod X.K X.mg (ground s H (frs X.stack)) := by
  have k : ∀ b o, X.base.get? b = some o → (ground s H (frs X.stack)).get? b = some o := fun b o e => base_ground I e
  obtain ⟨mb, h1, h2⟩ := I.mod.blt
  exact ⟨I.mod.kin.keeps k, I.mod.glob.keeps k, ⟨mb, h1.keeps k, h2⟩, I.mod.nolimit.keeps k⟩
/-- a call from here, over the ground -/
theorem env0_ground (I : Inv X pins σ H s) : Env0 X.prog X.w X.K X.mg (ground s H (frs X.stack)) X.A X.stack s H := by
  have e0 := I.env0
  refine ⟨e0.frames, mod_ground I, fun b o e => ⟨(of_ground e).1, (of_ground e).2.1⟩, Nat.le_of_eq (PySem.W.hideAll_size _ _), frames_mono e0.funs fun L hL => ?_, e0.frf, e0.hok, e0.bare⟩
  cases q : (ground s H (frs X.stack)).get? L with
  | none => rfl
  | some o => exact absurd hL (of_ground q).2.2
/-- .. and back to a smaller base -/
theorem env0_less {P : Program} {w : World} {K : PySem.W.Frag} {mg : Str → Option Value} {base base2 : Heap} {A : Around} {outer : List PySem.Env} {s : Shared} {H : Hp} (e0 : Env0 P w K mg base2 A outer s H) (M : Mod K mg base) (k : ∀ b o, base.get? b = some o → base2.get? b = some o) (hz : base.objs.size ≤ base2.objs.size) : Env0 P w K mg base A outer s H := by
  refine ⟨e0.frames, M, fun b o e => e0.bs b o (k b o e), Nat.le_trans hz e0.bsz, frames_mono e0.funs fun L hL => ?_, e0.frf, e0.hok, e0.bare⟩
  cases q : base.get? L with
  | none => rfl
  | some o =>
    have z := (e0.funs.mem hL).1
    rw [k L o q] at z
    cases z
end
end DL
/-! D19: lambdas made, and what they do later on. -/
namespace DL
open PySem L2 PyProof.Rows
/-- the slots that bear shared data -/
def pubE (ρ : Env) : Env := ρ.map fun o => match o with
  | some (.pub m d) => some (.pub m d)
  | _ => none
theorem pubE_at {ρ : Env} {i : Nat} {s : Sl} (h : (pubE ρ)[i]? = some (some s)) : ∃ m d, s = .pub m d ∧ ρ[i]? = some (some (.pub m d)) := by
  unfold pubE at h
  rw [List.getElem?_map] at h
  cases q : ρ[i]? with
  | none => rw [q] at h; cases h
  | some o =>
    rw [q] at h
    have h := Option.some.inj h
    dsimp only at h
    split at h
    · exact ⟨_, _, (Option.some.inj h).symm, rfl⟩
    · cases h
section
variable {K : PySem.W.Frag} {τ : Nat → Addr} {A0 P B : List Addr} {H H2 : Hp} {σ : L2.St} {ρ : Env}
/-- later on, with nothing of our own but more hidden -/
theorem SRep.pubs (S : SRep K τ A0 H σ ρ P) (g : Gr K H H2) (h1 : ∀ a ∈ B, a ∈ P ++ A0 ∨ H a = none) (tr : ∀ a ∈ B, H2 a ≠ none) (tb : LamX.Tabs (TbK K) H2) : SRep K τ B H2 σ (pubE ρ) [] := by
  have ex : Ext (hid (P ++ A0) H) (hid ([] ++ B) H2) := fun a o q => by
    obtain ⟨n, e⟩ := hid_of q
    refine hid_in (fun z => ?_) (g.kp a o e (hid_nt q)) (hid_nt q)
    rcases h1 a z with z | z
    · exact n z
    · rw [z] at e; cases e
  refine ⟨fun i m d q => ?_, fun i t ds q => ?_, fun i j t u es fs p hij e1 => ?_, tr, by unfold pubE; simpa using S.len, fun p hp => absurd hp (by simp), tb, fun i h q => ?_⟩
  · obtain ⟨m', d', e, q1⟩ := pubE_at q
    cases e
    obtain ⟨v, a1, a2, a3⟩ := S.pu i m d q1
    exact ⟨v, a1, a2.ext ex.hs, a3⟩
  · obtain ⟨m', d', e, _⟩ := pubE_at q
    cases e
  · obtain ⟨m', d', e, _⟩ := pubE_at e1
    cases e
  · obtain ⟨m', d', e, _⟩ := pubE_at q
    cases e
end
/-- the outcome of an expression as that of a call -/
def foOf : RE → Option FO
  | .ok w _ => some (.lets w.d)
  | .err c d => some (.err c d)
  | .st => none
section
variable {X : Cx} {pins : List (Addr × Obj)} {σ : L2.St} {H : Hp} {s : Shared}
/-- a lambda is made -/
theorem lam_make3 {c Pt : Addr} {params : Arguments} {body : Expr} {scope : Scope} {pos : Pos} {E : Value → Shared → Prop} {Q : Value → Shared → Prop} (I : Inv X pins σ H s) (TB : LamX.TabB X.base X.mg c Pt) (hcode : X.env.code = .ref c)
    (hm : (Pt, X.env.qual ++ "<lambda>") ∈ TbK X.K) (hu : ∀ p ∈ TbK X.K, p.1 = Pt → p.2 = X.env.qual ++ "<lambda>") (hT : LamX.Tabs (TbK X.K) H) (hdef : defaultsOf params X.env = ([], [])) (hfree : ∀ y ∈ scope.names, y.2 = .free → ∃ c, X.env.cells.lookup y.1 = some c)
    (h : ∀ (f c' : Addr) (pm ctv : Value) (H1 : Hp) (s' : Shared), Inv X pins σ H1 s' → Gr X.K H H1 →
      s'.heap.get? f = some (PySem.W.kla_obj "<lambda>" (X.env.qual ++ "<lambda>") params body scope (cloFrom X.env.cells scope.names []) pm c' ctv) → H1 f = none → f ∉ frs X.stack → f ∉ X.fs → f ≠ X.env.locals → H1 c' = some (LamX.CodeO c' (X.env.qual ++ "<lambda>")) → Q (.ref f) s') :
    wpAny (model X.prog X.w) X.A (eval (.Lambda params body scope pos) X.env) Q E s := by
  obtain ⟨ps, hP, ht, ha⟩ := hT _ hm
  refine PySem.W.kla_eval hdef ?_
  have bP : s.heap.BuiltinsAt X.mg Pt := TB.bm.keeps I.bk
  have hP' : s.heap.get? Pt = some { cls := .none, data := .fields ps } := I.hok Pt _ hP
  have lf : ∀ f, s.heap.objs.size ≤ f → f ∉ frs X.stack ∧ f ∉ X.fs ∧ f ≠ X.env.locals := fun f hf => by
    have n2 : f ∉ X.fs := I.nofs hf
    have n3 : f ≠ X.env.locals := fun z => by
      have h1 := I.lt
      rw [← z] at h1
      exact Nat.lt_irrefl _ (Nat.lt_of_lt_of_le h1 hf)
    refine ⟨fun z => ?_, n2, n3⟩
    rcases List.mem_cons.mp (I.stkSub _ z) with e | e
    · exact n3 e
    · exact n2 e
  cases hc : codeAmong pos ps.toList with
  | none =>
    refine PySem.W.kla_makeFunction (mg := X.mg) (c := c) (P := Pt) (ps := ps) (closure_ok hfree) I.ok.glob (I.mod.glob.keeps I.bk) hcode (TB.code.keeps I.bk) hP' ht hc TB.gP bP fun c' ctv h' tk hx hge hlt hrec htb => ?_
    obtain ⟨c2, oc, vs, t, e2, hoc, hd, hv⟩ := hrec
    cases e2
    have hsz : s.heap.objs.size ≤ h'.objs.size := Nat.le_trans hge (Nat.le_of_lt hlt)
    have nC : H c' = none := I.hok.fresh hge
    have I1 := LamX.inv_table (t' := tk) (more := #[rawInt pos.line, rawInt pos.col, .ref c']) (h' := h'.push (PySem.W.kla_obj "<lambda>" (X.env.qual ++ "<lambda>") params body scope (cloFrom X.env.cells scope.names []) ((X.mg "__name__").getD .none) c' ctv)) I hP
      (fun b o hb e => Heap.get?_push_of_some _ (hx b o hb e)) (Heap.get?_push_of_some _ htb) hge ⟨oc, vs, t, Heap.get?_push_of_some _ hoc, hd, hv⟩
    have hE : ∀ (b : Addr) (o : HO), H b = some o → NT o → upd (upd H Pt (.tbl (ps ++ #[rawInt pos.line, rawInt pos.col, .ref c']))) c' (LamX.CodeO c' (X.env.qual ++ "<lambda>")) b = some o := fun b o e n => by
      rw [upd_ne (ne_of_none e nC), upd_ne (fun z => n ps (Option.some.inj (e.symm.trans (by rw [z]; exact hP))))]
      exact e
    have eL : (ps ++ #[rawInt pos.line, rawInt pos.col, .ref c']).toList = ps.toList ++ [rawInt pos.line, rawInt pos.col, .ref c'] := by simp
    have T1 : LamX.Tabs (TbK X.K) (upd (upd H Pt (.tbl (ps ++ #[rawInt pos.line, rawInt pos.col, .ref c']))) c' (LamX.CodeO c' (X.env.qual ++ "<lambda>"))) := fun p hp => by
      by_cases hb : p.1 = Pt
      · rw [hu p hp hb, hb]
        refine ⟨_, by rw [upd_ne (ne_of_none hP nC), upd_same], by rw [eL]; exact PySem.TriplesOk_snoc _ _ _ _ ht, fun p' cv hcv => ?_⟩
        rw [eL] at hcv
        rcases LamX.among_app _ ht hcv with z | z
        · obtain ⟨c0, e1, e2⟩ := ha p' cv z
          exact ⟨c0, e1, hE _ _ e2 LamX.codeO_ne⟩
        · exact ⟨c', z, upd_same⟩
      · obtain ⟨ps', a1, a2, a3⟩ := hT p hp
        refine ⟨ps', by rw [upd_ne (ne_of_none a1 nC), upd_ne hb]; exact a1, a2, fun p' cv hcv => ?_⟩
        obtain ⟨c0, e1, e2⟩ := a3 p' cv hcv
        exact ⟨c0, e1, hE _ _ e2 LamX.codeO_ne⟩
    have al : ∀ a, upd (upd H Pt (.tbl (ps ++ #[rawInt pos.line, rawInt pos.col, .ref c']))) c' (LamX.CodeO c' (X.env.qual ++ "<lambda>")) a = none → H a = none := fun a e => by
      by_cases h1 : a = c'
      · rw [h1, upd_same] at e; cases e
      · rw [upd_ne h1] at e
        by_cases h2 : a = Pt
        · rw [h2, upd_same] at e; cases e
        · rw [upd_ne h2] at e
          exact e
    obtain ⟨n1, n2, n3⟩ := lf _ hsz
    refine h h'.objs.size c' ((X.mg "__name__").getD .none) ctv _ _ I1 ⟨hE, al, fun _ => T1⟩ (Heap.get?_push_size _ rfl) ?_ n1 n2 n3 upd_same
    have m1 : h'.objs.size ≠ c' := Nat.ne_of_gt hlt
    have m2 : h'.objs.size ≠ Pt := Nat.ne_of_gt (Nat.lt_of_lt_of_le (Heap.lt_size hP') hsz)
    rw [upd_ne m1, upd_ne m2]
    exact I.hok.fresh hsz
  | some cv =>
    obtain ⟨c', e, hco⟩ := ha pos cv hc
    subst e
    refine PySem.W.kla_makeFunctionHit (mg := X.mg) (c := c) (P := Pt) (ps := ps) (closure_ok hfree) I.ok.glob (I.mod.glob.keeps I.bk) hcode (TB.code.keeps I.bk) hP' ht hc bP fun ctv h' tk hx hsz => ?_
    have I1 : Inv X pins σ H { s with heap := h'.push (PySem.W.kla_obj "<lambda>" (X.env.qual ++ "<lambda>") params body scope (cloFrom X.env.cells scope.names []) ((X.mg "__name__").getD .none) c' ctv), toks := tk } := I.kept fun b o e => Heap.get?_push_of_some _ (hx b o e)
    obtain ⟨n1, n2, n3⟩ := lf _ hsz
    exact h h'.objs.size c' ((X.mg "__name__").getD .none) ctv H _ I1 (Ext.gr (Ext.rfl H)) (Heap.get?_push_size _ rfl) (I.hok.fresh hsz) n1 n2 n3 hco
/-- what it does, over the ground of the state where it is made -/
theorem lam_start3 {A : Around} {outer : List PySem.Env} {E : XK} {scope : Scope} {f c' : Addr} {h₁ : Heap} {tk : Nat} {HZ : Hp} {s1 : Shared} (I : Inv X pins σ H s) (L : LamX.LamS X.env.scope scope) (e0 : Env0 X.prog X.w X.K X.mg X.base A outer s1 HZ) (hd : A.handled = none)
    (hc : ∀ y c o, X.env.cells.lookup y = some c → s.heap.get? c = some o → s1.heap.get? c = some o ∧ HZ c = none) (hns : h₁.Ns s1.heap.objs.size fun y => ([] : List (Str × Value)).reverse.lookup y) (kp : ∀ b o, s1.heap.get? b = some o → h₁.get? b = some o) :
    Inv (LamX.lamCx X A outer s1 HZ E scope f c') [] σ HZ { s1 with heap := h₁, toks := tk } := by
  have has := L.has I.ok
  have back : ∀ {y c}, (cloFrom X.env.cells scope.names []).lookup y = some c → X.env.cells.lookup y = some c := fun {y c} e => by
    rcases cloFrom_mem (PySem.mem_of_lookup e) with hm | ⟨h1, h2⟩
    · cases hm
    · obtain ⟨c1, q⟩ := has _ h1 rfl
      have q : X.env.cells.lookup y = some c1 := q
      have e2 : c = c1 := by
        rw [h2, q] <;> rfl
      rw [e2]
      exact q
  have fwd : ∀ {y}, scope.names.lookup y = some .free → ∃ c, (cloFrom X.env.cells scope.names []).lookup y = some c := fun {y} hl => by
    have hy : (y, NameKind.free) ∈ scope.names := PySem.mem_of_lookup hl
    exact mem_lookup (cloFrom_has (cells := X.env.cells) (acc := []) hy)
  have cellK : ∀ {y : Str} {c : Addr} {v : Option Value}, X.env.cells.lookup y = some c → s.heap.IsCell c v → h₁.IsCell c v := fun {y c v} n ⟨o, ho, hd⟩ => ⟨o, kp _ _ (hc y c o n ho).1, hd⟩
  have noEx : ∀ b : Addr, b ∉ (LamX.lamCx X A outer s1 HZ E scope f c').ex := fun b z => nomatch (show b ∈ ([] : List Addr) from z)
  refine ⟨⟨e0.mod, L.kind, rfl, rfl, Nat.le_refl _, fun y z c e1 e2 => I.ok.inj y z c (back e1) (back e2), fun y hy => ?_, fun y c z _ => ?_, fun _ => hd, Around.frames_deeper e0.frames, .inr ⟨rfl, rfl⟩, fun b z => absurd z (noEx b), e0.bs, e0.bsz, fun b _ _ => noEx b,
      fun b z => absurd z (noEx b), e0.funs, e0.frf⟩,
    rfl, e0.bare, Un.kept kp, ⟨_, hns, fun i y v e1 e2 e3 => ?_⟩, fun y c e => ?_, e0.hok.fresh (Nat.le_refl _), fun y c e => ?_, fun q hq => absurd (show q ∈ ([] : List (Addr × Obj)) ++ [] from hq) (by simp), e0.hok.kept kp, I.len⟩
  · have hy : scope.names.lookup y = some .cell ∨ scope.names.lookup y = some .free := hy
    rcases hy with hy | hy
    · exact absurd rfl (L.own _ (PySem.mem_of_lookup hy)).2
    · exact fwd hy
  · have z : false = true := z
    cases z
  · have e3 : Vis scope y := e3
    rcases e3 with k | k | k
    · exact absurd rfl (L.own _ (PySem.mem_of_lookup k)).1
    · exact absurd rfl (L.own _ (PySem.mem_of_lookup k)).2
    · obtain ⟨m, hn, hl⟩ := I.loc
      have hvis : Vis X.env.scope y := (L.free _ (PySem.mem_of_lookup k) rfl).elim (fun k => .inr (.inl k)) fun k => .inr (.inr k)
      obtain ⟨u, r, q⟩ := hl i y v e1 e2 hvis
      obtain ⟨c2, h2⟩ := fwd k
      refine ⟨u, r, .inr ⟨.inr k, c2, h2, ?_⟩⟩
      have c1 := back h2
      rcases q with ⟨k', _⟩ | ⟨_, c3, e', z⟩
      · have k' : X.env.scope.names.lookup y = some .local := k'
        rcases L.free _ (PySem.mem_of_lookup k) rfl with k2 | k2 <;> rw [show X.env.scope.names.lookup y = _ from k2] at k' <;> cases k'
      · rw [c1] at e'
        cases e'
        exact cellK c1 z
  · obtain ⟨u, z⟩ := I.cell y c (back e)
    exact ⟨u, cellK (back e) z⟩
  · obtain ⟨u, o, ho, hd⟩ := I.cell y c (back e)
    exact (hc y c o (back e) ho).2
theorem lam_can {τ : Nat → Addr} {A0 P : List Addr} {ρ : Env} {f c' : Addr} {pm ctv : Value} {params : Arguments} {body : Expr} {scope : Scope} {k : Nat} {o : FO} {fb : Env → RE} (I : Inv X [] σ H s) (hfn0 : ∀ x, X.fn x = true) (S : SRep X.K τ A0 H σ ρ P) (L : LamX.LamS X.env.scope scope)
    (hf : s.heap.get? f = some (PySem.W.kla_obj "<lambda>" (X.env.qual ++ "<lambda>") params body scope (cloFrom X.env.cells scope.names []) pm c' ctv)) (hfn : H f = none) (hfr : f ∉ frs X.stack) (hco : H c' = some (LamX.CodeO c' (X.env.qual ++ "<lambda>")))
    (hbind : bindArgs (PySem.W.kla_fn "<lambda>" (X.env.qual ++ "<lambda>") params body scope (cloFrom X.env.cells scope.names []) pm (.ref c') ctv) ⟨[], []⟩ = pure [])
    (hbody : ∀ (A : Around) (outer : List PySem.Env) (s : Shared) (H : Hp) (E : XK) (f c' : Addr), Cn (LamX.lamCx X A outer s H E scope f c') E k → DE (LamX.lamCx X A outer s H E scope f c') E body fb) (ho : foOf (fb (pubE ρ)) = some o) :
    Can X.prog X.w X.K X.mg (ground s H (frs X.stack)) (k + 1) H (P ++ A0) f o := by
  refine ⟨⟨_, ground_get hf hfn hfr, fun h e => ⟨_, _, _, _, e⟩⟩, fun A out2 s2 H2 B Q E hgd hr e0 g b1 b2 tr tb q => ?_⟩
  have of1 := (e0.bs f _ (ground_get hf hfn hfr)).1
  have hco2 : H2 c' = some (LamX.CodeO c' (X.env.qual ++ "<lambda>")) := g.kp _ _ hco LamX.codeO_ne
  obtain ⟨⟨oc, vs, t, hoc, hdc, hvc⟩, _, _⟩ := e0.hok c' _ hco2
  have lim : s2.heap.NoLimit := e0.mod.nolimit.keeps fun b o e => (e0.bs b o e).1
  have cfr : ∀ y c, X.env.cells.lookup y = some c → c ∉ frs X.stack := fun y c e hm => by
    rcases List.mem_cons.mp (I.stkSub c hm) with z | z
    · exact I.cne y c e z
    · obtain ⟨_, o', ho', _⟩ := I.ok.funs.mem z
      exact absurd (Nat.lt_of_lt_of_le (Heap.lt_size ho') (I.ok.cab y c (hfn0 y) e)) (Nat.lt_irrefl _)
  have cells : ∀ y c o, X.env.cells.lookup y = some c → s.heap.get? c = some o → s2.heap.get? c = some o ∧ H2 c = none := fun y c o e ho => e0.bs c o (ground_get ho (I.freeC y c e) (cfr y c e))
  have e1 : Env0 X.prog X.w X.K X.mg X.base A out2 s2 H2 := env0_less e0 I.mod (fun b o e => base_ground I e) (by
    show X.base.objs.size ≤ (PySem.W.hideAll _ _).objs.size
    rw [PySem.W.hideAll_size]
    exact Nat.le_trans I.ok.bsz I.sz)
  refine PySem.W.kla_callFunE hr.depth of1 rfl L.co L.gen rfl ⟨c', oc, vs, t, rfl, hoc, hdc, hvc⟩ ?_
  rw [hbind]
  refine wpAny_pure (wpAny_newFunctionEnv (fun y hy => (L.own y hy).2) (fun y hy => absurd hy (by simp)) (fun h₁ hns hsb => ⟨lim.fresh _ hsb, ?_⟩) L.kind)
  show codeAny _ _ (.expr body (LamX.lamEnv X scope s2.heap.objs.size f c')) _ _
  have kp : ∀ b o, s2.heap.get? b = some o → h₁.get? b = some o := fun b o e => hsb.extBut b o (Nat.ne_of_lt (Heap.lt_size e)) (Heap.get?_push_of_some _ e)
  have J : Inv (LamX.lamCx X A out2 s2 H2 E scope f c') [] σ H2 { s2 with heap := h₁, toks := s2.toks + ([] : List (Str × Value)).length } := lam_start3 I L e1 hr.hd cells hns kp
  have cn : Cn (LamX.lamCx X A out2 s2 H2 E scope f c') E k := ⟨hgd, hr.deeper _, passes_call (W := fun cls d _ H => E cls d H) (takes_of rfl rfl rfl rfl) (fun _ _ _ _ h => h), takes_of rfl rfl rfl rfl, rfl⟩
  have S2 := S.pubs g b2 tr tb
  have ht : tDE X.K E fb σ H2 Q := by
    refine ⟨τ, B, [], pubE ρ, S2, ?_⟩
    have less : ∀ {P' : List Addr} {H' : Hp}, Ext (hid (P' ++ B) H') (hid B H') := fun {P' H'} => hid_less fun a z => List.mem_append_right _ z
    cases q2 : fb (pubE ρ) with
    | ok w ρ' =>
      rw [q2] at ho
      cases ho
      cases w with
      | pu d => exact fun v H' P' t _ r => q v H' t.toGr (r.ext less)
      | frs ds =>
        intro p xs H' P' t hn hp hA S' hl r
        refine q (.ref p) H' t.toGr (.lst (hid_in hA hl) (r.ext (hid_less fun a z => List.mem_append_right _ (List.mem_cons_of_mem _ z))))
    | err c d =>
      rw [q2] at ho
      cases ho
      exact fun dx v H' P' t hx hr => q dx v H' t.toGr hx (hr.ext less)
    | st => rw [q2] at ho; cases ho
  refine PySem.W.kla_codeExpr (wpAny_mono ((hbody _ _ s2 H2 E f c' cn).pe.run [] _ _ H2 Q J ht) (fun v s' hq => ?_) fun e s' hq => hq)
  obtain ⟨w', H', J', rv, q⟩ := hq
  exact ⟨w', H', J'.os, J'.bare, J'.base, J'.hok, rv, q⟩
end
end DL
/-! D20: a stretch of statements along which an own list is shared. -/
namespace DL
open PySem L2 PyProof.Rows
theorem execs_append (env : PySem.Env) (bs : List Stmt) : ∀ as : List Stmt, execs (as ++ bs) env = (do match ← execs as env with | .next => execs bs env | f => pure f)
  | [] => by
    show execs bs env = _
    rw [show execs [] env = pure .next from rfl]
    simp
  | a :: as => by
    rw [List.cons_append, execs_cons, execs_cons, execs_append env bs as, LawfulMonad.bind_assoc]
    congr 1
    funext f
    cases f <;> simp
theorem pss_append {X : Cx} {as bs : List Stmt} {t u : TS} (h1 : PSs X as t) (h2 : PSs X bs u) : PSs X (as ++ bs) (tSeq t u) := by
  refine ⟨fun pins s σ H D I h => ?_⟩
  rw [execs_append]
  refine wpAny_bind (thn (h1.run pins s σ H { D with nx := u D } I h) fun f s1 q => ?_)
  cases f with
  | next =>
    obtain ⟨σ1, H1, I1, q1⟩ := q
    exact h2.run pins s1 σ1 H1 D I1 q1
  | brk => exact wpAny_pure q
  | cont => exact wpAny_pure q
  | ret v => exact wpAny_pure q
/-! ### data without lists -/
mutual
def noL : D → Bool
  | .none => true
  | .bool _ => true
  | .int _ => true
  | .str _ => true
  | .tuple ds => noLs ds
  | _ => false
def noLs : List D → Bool
  | [] => true
  | d :: ds => noL d && noLs ds
end
section
variable {K : PySem.W.Frag} {H : Hp}
mutual
theorem noL_rp {p : Addr} {ys : List V} {A B : List Addr} (hp : H p = some (.lst ys)) (hB : ∀ a ∈ B, a = p ∨ a ∈ A) : ∀ {v : V} {d : D}, noL d = true → Rp K (hid A H) v d → Rp K (hid B H) v d
  | _, _, _, .non => .non
  | _, _, _, .bl b => .bl b
  | _, _, _, .int i => .int i
  | _, _, _, .str x => .str x
  | _, _, h, .tup e r => .tup (hid_in (fun z => (hB _ z).elim (fun w => by
      have e2 := (hid_of e).2
      rw [w, hp] at e2; cases e2) (hid_of e).1) (hid_of e).2) (noLs_rp hp hB h r)
  | _, _, h, .lst _ _ => by cases h
  | _, _, h, .emp _ => by cases h
  | _, _, h, .exc _ _ _ => by cases h
  | _, _, h, .fn => by cases h
theorem noLs_rp {p : Addr} {ys : List V} {A B : List Addr} (hp : H p = some (.lst ys)) (hB : ∀ a ∈ B, a = p ∨ a ∈ A) : ∀ {vs : List V} {ds : List D}, noLs ds = true → Rps K (hid A H) vs ds → Rps K (hid B H) vs ds
  | _, _, _, .nil => .nil
  | _, _, h, .cons a r => by
    have h : (noL _ && noLs _) = true := h
    rw [Bool.and_eq_true] at h
    exact .cons (noL_rp hp hB h.1 a) (noLs_rp hp hB h.2 r)
end
end
/-! ### the stretch -/
def lendSl : Option Sl → Option Sl
  | some (.pub 0 d) => some (.pub 1 d)
  | some (.own t ds) => some (.own t ds)
  | _ => none
def lendE (i : Nat) (ds : List D) (ρ : Env) : Env := (ρ.map lendSl).set i (some (.pub 2 (.list ds)))
def backSl : Option Sl → Option Sl
  | some (.pub 1 d) => some (.pub 0 d)
  | some (.pub 0 d) => if noL d then some (.pub 0 d) else none
  | some (.own t ds) => if noLs ds then some (.own t ds) else none
  | _ => none
def backE (i : Nat) (ds : List D) (ρ : Env) : Env := (ρ.map backSl).set i (some (.own 0 ds))
/-- what is kept where the stretch returns -/
def stripSl : Option Sl → Option Sl
  | some (.own (t + 1) ds) => some (.own (t + 1) ds)
  | _ => none
def tauL (p : Addr) (τ : Nat → Addr) : Nat → Addr := fun n => if n = 0 then p else τ n
theorem map_at {f : Option Sl → Option Sl} {ρ : Env} {j : Nat} {s : Sl} (h : (ρ.map f)[j]? = some (some s)) : ∃ o, ρ[j]? = some o ∧ f o = some s := by
  rw [List.getElem?_map] at h
  cases q : ρ[j]? with
  | none => rw [q] at h; cases h
  | some o => rw [q] at h; exact ⟨o, rfl, Option.some.inj h⟩
theorem set_at {ρ : Env} {i j : Nat} {o : Option Sl} {s : Sl} (h : (ρ.set i o)[j]? = some (some s)) : (j = i ∧ o = some s) ∨ (j ≠ i ∧ ρ[j]? = some (some s)) := by
  rw [List.getElem?_set] at h
  by_cases e : i = j
  · rw [if_pos e] at h
    by_cases z : i < ρ.length
    · rw [if_pos z] at h; exact .inl ⟨e.symm, Option.some.inj h⟩
    · rw [if_neg z] at h; cases h
  · rw [if_neg e] at h; exact .inr ⟨fun z => e z.symm, h⟩
section
variable {K : PySem.W.Frag} {E : XK} {τ : Nat → Addr} {A0 P : List Addr} {H : Hp} {σ : L2.St} {ρ : Env}
theorem SRep.lend (S : SRep K τ A0 H σ ρ P) {i : Nat} {ds : List D} {p : Addr} (h : ρ[i]? = some (some (.own 0 ds))) (hσ : σ[i]? = some (some (.ref p))) (hn : noN ρ = true) : SRep K (tauL p τ) A0 H σ (lendE i ds ρ) (P.filter (· ≠ p)) := by
  obtain ⟨p', xs, h1, h2, h3, h4, h5⟩ := S.own i 0 ds h
  rw [hσ] at h1
  cases h1
  have hA : p ∉ A0 := S.dj p h2
  have sub : ∀ a ∈ P.filter (· ≠ p) ++ A0, a ∈ P ++ A0 ∧ a ≠ p := fun a z => (List.mem_append.mp z).elim (fun z => by
      have z := List.mem_filter.mp z
      exact ⟨List.mem_append_left _ z.1, of_decide_eq_true z.2⟩) fun z => ⟨List.mem_append_right _ z, fun w => hA (by rw [← w]; exact z)⟩
  refine ⟨fun j m d q => ?_, fun j t es q => ?_, fun j k t u es fs q hjk e1 e2 => ?_, fun a z => S.tr a (sub a z).1, by unfold lendE; rw [List.length_set, List.length_map]; exact S.len, fun a z => S.dj a (List.mem_filter.mp z).1, S.tb, fun j g q => ?_⟩
  · rcases set_at q with ⟨rfl, e⟩ | ⟨ne, e⟩
    · cases e
      refine ⟨.ref p, hσ, .lst (hid_in (fun z => (sub p z).2 rfl) h3) (h4.ext (hid_less fun a z => (sub a z).1)), fun _ => rfl⟩
    · obtain ⟨o, e1, e2⟩ := map_at e
      unfold lendSl at e2
      split at e2
      · cases e2
        obtain ⟨v, a1, a2, _⟩ := S.pu j 0 d e1
        refine ⟨v, a1, a2.ext (hid_less fun a z => ?_), fun z => nomatch z⟩
        have z : a ∈ tauL p τ 0 :: (P.filter (· ≠ p) ++ A0) := z
        rcases List.mem_cons.mp z with w | w
        · rw [show tauL p τ 0 = p from rfl] at w
          rw [w]
          exact List.mem_append_left _ h2
        · exact (sub a w).1
      · cases e2
      · cases e2
  · rcases set_at q with ⟨rfl, e⟩ | ⟨ne, e⟩
    · cases e
    · obtain ⟨o, e1, e2⟩ := map_at e
      unfold lendSl at e2
      split at e2
      · cases e2
      · cases e2
        obtain ⟨p2, ys, a1, a2, a3, a4, a5⟩ := S.own j t es e1
        have np : p2 ≠ p := fun z => S.inj i j 0 t ds es p ne.symm h e1 hσ (by rw [a1, z])
        refine ⟨p2, ys, a1, List.mem_filter.mpr ⟨a2, decide_eq_true np⟩, a3, a4.ext (hid_less fun a z => (sub a z).1), a5.elim .inl fun z => ?_⟩
        by_cases t0 : t = 0
        · exact .inl t0
        · refine .inr ?_
          unfold tauL
          rw [if_neg t0]
          exact z
      · cases e2
  · have up : ∀ {j t : Nat} {es : List D}, (lendE i ds ρ)[j]? = some (some (.own t es)) → ρ[j]? = some (some (.own t es)) := fun {j t es} z => by
      rcases set_at z with ⟨rfl, e⟩ | ⟨ne, e⟩
      · cases e
      · obtain ⟨o, e1, e2⟩ := map_at e
        unfold lendSl at e2
        split at e2
        · cases e2
        · cases e2; exact e1
        · cases e2
    exact S.inj j k t u es fs q hjk (up e1) (up e2)
  · rcases set_at q with ⟨rfl, e⟩ | ⟨ne, e⟩
    · cases e
    · obtain ⟨o, e1, e2⟩ := map_at e
      unfold lendSl at e2
      split at e2 <;> cases e2
theorem SRep.back {p : Addr} {xs : List V} {P1 : List Addr} {i : Nat} {ds : List D} (S : SRep K (tauL p τ) A0 H σ ρ P1) (h : ρ[i]? = some (some (.pub 2 (.list ds)))) (hp : p ∉ P1) (hA : p ∉ A0) (hn : noLs ds = true) : SRep K τ A0 H σ (backE i ds ρ) (p :: P1) := by
  obtain ⟨v, h1, h2, h3⟩ := S.pu i 2 _ h
  have h3 := h3 rfl
  rw [show tauL p τ 0 = p from rfl] at h3
  subst h3
  have h2 : Rp K (hid (P1 ++ A0) H) (.ref p) (.list ds) := h2
  cases h2 with
  | lst e r =>
    have hl := (hid_of e).2
    have hB : ∀ a ∈ p :: P1 ++ A0, a = p ∨ a ∈ P1 ++ A0 := fun a z => List.mem_cons.mp z
    have own_up : ∀ {j t : Nat} {es : List D}, (backE i ds ρ)[j]? = some (some (.own t es)) → (j = i ∧ t = 0 ∧ es = ds) ∨ (j ≠ i ∧ ρ[j]? = some (some (.own t es)) ∧ noLs es = true) := fun {j t es} z => by
      rcases set_at z with ⟨rfl, e⟩ | ⟨ne, e⟩
      · cases e; exact .inl ⟨rfl, rfl, rfl⟩
      · obtain ⟨o, e1, e2⟩ := map_at e
        unfold backSl at e2
        split at e2
        · cases e2
        · split at e2 <;> cases e2
        · split at e2
          · cases e2; rename_i w; exact .inr ⟨ne, e1, w⟩
          · cases e2
        · cases e2
    refine ⟨fun j m d q => ?_, fun j t es q => ?_, fun j k t u es fs q hjk e1 e2 e3 => ?_, fun a z => ?_, by unfold backE; rw [List.length_set, List.length_map]; exact S.len, fun a z => ?_, S.tb, fun j g q => ?_⟩
    · rcases set_at q with ⟨rfl, e⟩ | ⟨ne, e⟩
      · cases e
      · obtain ⟨o, e1, e2⟩ := map_at e
        unfold backSl at e2
        split at e2
        · cases e2
          obtain ⟨v, a1, a2, _⟩ := S.pu j 1 d e1
          exact ⟨v, a1, a2, fun z => nomatch z⟩
        · split at e2
          · rename_i w
            cases e2
            obtain ⟨v, a1, a2, _⟩ := S.pu j 0 d e1
            exact ⟨v, a1, noL_rp hl hB w a2, fun z => nomatch z⟩
          · cases e2
        · split at e2 <;> cases e2
        · cases e2
    · rcases own_up q with ⟨rfl, rfl, rfl⟩ | ⟨ne, e, w⟩
      · exact ⟨p, _, h1, List.mem_cons_self, hl, noLs_rp hl hB hn r, .inl rfl⟩
      · obtain ⟨p2, ys, a1, a2, a3, a4, a5⟩ := S.own j t es e
        refine ⟨p2, ys, a1, List.mem_cons_of_mem _ a2, a3, noLs_rp hl hB w a4, a5.elim .inl fun z => ?_⟩
        by_cases t0 : t = 0
        · exact .inl t0
        · refine .inr ?_
          unfold tauL at z
          rw [if_neg t0] at z
          exact z
    · rcases own_up e1 with ⟨rfl, rfl, rfl⟩ | ⟨ne, f1, w⟩
      · rw [h1] at e3
        cases e3
        rcases own_up e2 with ⟨rfl, rfl, rfl⟩ | ⟨ne, f2, w⟩
        · exact fun _ => hjk rfl
        · obtain ⟨p2, ys, a1, a2, a3, a4, a5⟩ := S.own k u fs f2
          intro z
          rw [a1] at z
          cases z
          exact hp a2
      · rcases own_up e2 with ⟨rfl, rfl, rfl⟩ | ⟨ne2, f2, w2⟩
        · obtain ⟨p2, ys, a1, a2, a3, a4, a5⟩ := S.own j t es f1
          rw [a1] at e3
          cases e3
          intro z
          rw [h1] at z
          cases z
          exact hp a2
        · exact S.inj j k t u es fs q hjk f1 f2 e3
    · rcases List.mem_cons.mp z with w | w
      · rw [w, hl]; exact fun z => nomatch z
      · exact S.tr a w
    · rcases List.mem_cons.mp z with w | w
      · rw [w]; exact hA
      · exact S.dj a w
    · rcases set_at q with ⟨rfl, e⟩ | ⟨ne, e⟩
      · cases e
      · obtain ⟨o, e1, e2⟩ := map_at e
        unfold backSl at e2
        split at e2
        · cases e2
        · split at e2 <;> cases e2
        · split at e2 <;> cases e2
        · cases e2
end
end DL
/-! D21: the stretch as a rule; is not None of an own list. -/
namespace DL
open PySem L2 PyProof.Rows
def sStretch (i : Nat) (gA gB : Env → RS) : Env → RS := fun ρ => match ρ[i]? with
  | some (some (.own 0 ds)) => if noN ρ = true then (match gA (lendE i ds ρ) with
    | .nx ρ1 => (match ρ1[i]? with
      | some (some (.pub 2 (.list es))) => if noLs es = true then gB (backE i es ρ1) else .st
      | _ => .st)
    | .ret (.pu d) ρ1 => .ret (.pu d) (ρ1.map stripSl)
    | .err c d => .err c d
    | _ => .st) else .st
  | _ => sSeq gA gB ρ
section
variable {K : PySem.W.Frag} {E : XK} {τ : Nat → Addr} {A0 P : List Addr} {H : Hp} {σ : L2.St} {ρ : Env}
theorem SRep.strip {p : Addr} (S : SRep K (tauL p τ) A0 H σ ρ P) : SRep K τ A0 H σ (ρ.map stripSl) P := by
  have up : ∀ {j t : Nat} {es : List D}, (ρ.map stripSl)[j]? = some (some (.own t es)) → t ≠ 0 ∧ ρ[j]? = some (some (.own t es)) := fun {j t es} z => by
    obtain ⟨o, e1, e2⟩ := map_at z
    unfold stripSl at e2
    split at e2
    · cases e2; exact ⟨Nat.succ_ne_zero _, e1⟩
    · cases e2
  refine ⟨fun j m d q => ?_, fun j t es q => ?_, fun j k t u es fs q hjk e1 e2 => S.inj j k t u es fs q hjk (up e1).2 (up e2).2, S.tr, by rw [List.length_map]; exact S.len, S.dj, S.tb, fun j g q => ?_⟩
  · obtain ⟨o, e1, e2⟩ := map_at q
    unfold stripSl at e2
    split at e2 <;> cases e2
  · obtain ⟨n0, e⟩ := up q
    obtain ⟨p2, ys, a1, a2, a3, a4, a5⟩ := S.own j t es e
    refine ⟨p2, ys, a1, a2, a3, a4, a5.elim .inl fun z => .inr ?_⟩
    unfold tauL at z
    rw [if_neg n0] at z
    exact z
  · obtain ⟨o, e1, e2⟩ := map_at q
    unfold stripSl at e2
    split at e2 <;> cases e2
end
section
variable {X : Cx} {E : XK} {as bs : List Stmt} {gA gB : Env → RS} {i : Nat}
theorem dss_stretch (hA : DSs X E as gA) (hB : DSs X E bs gB) : DSs X E (as ++ bs) (sStretch i gA gB) := by
  refine ⟨PSs.weak (pss_append hA.pss hB.pss) fun Dn σ H ⟨τ, A0, P, ρ, S, c⟩ => ?_⟩
  unfold sStretch at c
  split at c
  · rename_i ds q
    by_cases hn : noN ρ = true
    · rw [if_pos hn] at c
      obtain ⟨p, xs, hσ, hp, hl, _, _⟩ := S.own i 0 ds q
      have hA0 : p ∉ A0 := S.dj p hp
      refine ⟨tauL p τ, A0, P.filter (· ≠ p), lendE i ds ρ, S.lend q hσ hn, ?_⟩
      have lift : ∀ {H' : Hp} {P' : List Addr}, Stp X.K H (P.filter (· ≠ p)) H' P' → Stp X.K H P H' P' := fun {H' P'} t => ⟨fun a o n h nt => t.kp a o (fun z => n (List.mem_filter.mp z).1) h nt, fun a z => (t.nw a z).elim (fun w => .inl (List.mem_filter.mp w).1) .inr, t.al, t.tb⟩
      cases o : gA (lendE i ds ρ) with
      | nx ρ1 =>
        rw [o] at c
        dsimp only at c
        intro σ' H' P' t S'
        split at c
        · rename_i es q1
          by_cases h2 : noLs es = true
          · rw [if_pos h2] at c
            have np : p ∉ P' := fun z => by
              rcases t.nw p z with w | w
              · exact of_decide_eq_true (List.mem_filter.mp w).2 rfl
              · rw [hl] at w; cases w
            have t2 : Stp X.K H P H' (p :: P') := ⟨(lift t).kp, fun a z => (List.mem_cons.mp z).elim (fun w => .inl (by rw [w]; exact hp)) ((lift t).nw a), t.al, t.tb⟩
            exact ⟨τ, A0, p :: P', backE i es ρ1, S'.back (xs := []) q1 np hA0 h2, CDS.stp t2 c⟩
          · rw [if_neg h2] at c
            exact c.elim
        · exact c.elim
      | bk ρ1 => rw [o] at c; exact c.elim
      | ct ρ1 => rw [o] at c; exact c.elim
      | ret w ρ1 =>
        rw [o] at c
        cases w with
        | pu d => exact fun v σ' H' P' t S' r => c v σ' H' P' (lift t) S'.strip r
        | frs es => exact c.elim
      | err cc d =>
        rw [o] at c
        exact fun dx v H' P' t hx r => c dx v H' P' (lift t) hx r
      | st => rw [o] at c; exact c.elim
    · rw [if_neg hn] at c
      exact c.elim
  · exact seq_of ⟨τ, A0, P, ρ, S, c⟩
theorem dss_stretchN (n : Nat) {L : List Stmt} (hA : DSs X E (L.take n) gA) (hB : DSs X E (L.drop n) gB) : DSs X E L (sStretch i gA gB) := by
  have h := dss_stretch (i := i) hA hB
  rw [List.take_append_drop] at h
  exact h
/-- x is not None, x an own list or plain data -/
def fNotNO (i : Nat) : Env → RE := fun ρ => match ρ[i]? with
  | some (some (.own _ _)) => .ok (.pu (.bool true)) ρ
  | some (some (.pub _ .none)) => .ok (.pu (.bool false)) ρ
  | some (some (.pub _ (.list _))) => .ok (.pu (.bool true)) ρ
  | _ => .st
theorem t_notNO {a : Expr} {j : Nat} {p pos : Pos} (h0 : PE X a (tVar i)) : DT X E (.Compare a [.IsNot] [.Constant .none j p] pos) (fNotNO i) := by
  refine ⟨PT.weak (pt_cmpR op_notN h0 pe_non (nomark _)) fun σ H Q ⟨τ, A0, P, ρ, S, c⟩ => ?_⟩
  unfold fNotNO at c
  split at c
  · rename_i t ds q
    obtain ⟨p, xs, hσ, _⟩ := S.own i t ds q
    exact ⟨.ref p, hσ, rfl, true, rfl, by
      obtain ⟨b, e, z⟩ := c (.bl true) H P (Stp.rfl H P) S (.bl true)
      cases e
      exact z⟩
  · rename_i m q
    obtain ⟨v, hσ, r⟩ := S.puD q
    cases r
    exact ⟨.non, hσ, rfl, false, rfl, by
      obtain ⟨b, e, z⟩ := c (.bl false) H P (Stp.rfl H P) S (.bl false)
      cases e
      exact z⟩
  · rename_i m ds q
    obtain ⟨v, hσ, r⟩ := S.puD q
    cases r with
    | lst e r => exact ⟨_, hσ, rfl, true, rfl, by
      obtain ⟨b, e, z⟩ := c (.bl true) H P (Stp.rfl H P) S (.bl true)
      cases e
      exact z⟩
  · exact c.elim
end
end DL
/-! D22: an own exception class, read off the head. -/
namespace DLX
open PySem PySem.W PySem.Calls PyProof.Rows PySem.HandSPX
theorem xba {a b : Bool} (h : (a && b) = true) : a = true ∧ b = true := Bool.and_eq_true_iff.mp h
def xClo (K : Frag) (C : Addr) (fd : FuncData) : Bool := match fd.closure with
  | [(y, cc)] => decide (y = ("__class__" : Str)) && (match K.lookup cc with
    | some ⟨_, _, .cell (some (.ref C')), _⟩ => decide (C' = C)
    | _ => false)
  | _ => false
def xDfl (K : Frag) (fd : FuncData) : Bool := match fd.defaults with
  | .ref T => (match K.lookup T with
    | some ⟨_, _, .seq its _, _⟩ => (match its.toList with
      | [.none] => true
      | _ => false)
    | _ => false)
  | _ => false
def xCode (prog : Program) (K : Frag) (fd : FuncData) : Bool := match fd.code with
  | .ref cda => codeIn K (.ref cda) fd.qualname && (match K.lookup cda with
    | some ⟨_, _, .fields vs, _⟩ => (match (vs[2]? : Option Value) with
      | some (.str file _) => (prog.main.file : Str) == file
      | _ => false)
    | _ => false)
  | _ => false
abbrev ExV : Type := Option (Str × Arguments × FuncBody × Scope × Addr × Addr × Bool)
/-- what is looked at in the __init__ of the class at C -/
def exV (prog : Program) (K : Frag) (C : Addr) : ExV := match findIn K (.ref C) "__init__" with
  | some (some (.ref fI)) => (match K.lookup fI with
    | some ⟨_, _, .func fd, _⟩ => some (fd.name, fd.params, fd.body, fd.scope, fd.globals, fd.builtins, xClo K C fd && (xDfl K fd && (xCode prog K fd && decide (typeIn K (.ref fI) = some (.type "function")))))
    | _ => none)
  | _ => none
def exVal (A : Arguments) (B : List Stmt) : ExV := some ("__init__", A, .stmts B, xS, mainGlobals, builtinsNs, true)
def xCls (K : Frag) (C : Addr) : Bool := match K.lookup C with
  | some ⟨.type "type", _, .cls cd, sl⟩ => (match cd.mro, sl.toList with
    | .ref C' :: bm, [_, _, _, _, some (.builtin n), _] => C' == C && (n == "ValueError.__new__" && (!cd.hasDel && (cd.hasDict && refsVE bm)))
    | _, _ => false)
  | _ => false
def xB1 (K : Frag) (C : Addr) : Bool := xCls K C && (keepIn K (.ref C) && (decide (findIn K (.ref C) "__setattr__" = some (some (.builtin "object.__setattr__"))) && (decide (findIn K (.ref C) "__getattribute__" = some (some (.builtin "BaseException.__getattribute__"))) && (decide (findIn K (.ref C) "__getattr__" = some none) && (decide (findIn K (.ref C) "value" = some none) &&
  (decide (subIn K (.ref C) (.type "BaseException") = some true) && (decide (typeIn K (.ref C) = some (.type "type")) && (hasDictIn K C && (decide (ks_superIn K C C "__init__" = some (some (.builtin "ValueError.__init__"))) && (decide (subIn K (.ref C) (.type "ValueError") = some true) && decide (mroIn K C (.ref C) = some true)))))))))))
theorem xCls_ok {K : Frag} {C : Addr} (q : xCls K C = true) : ∃ nm q N bs bm sn sub ab col dd k0 k1 k2 k3 k5, K.lookup C = some (excClassObj nm q C N bs bm true sn sub ab col dd k0 k1 k2 k3 k5 "ValueError.__new__") ∧ refsVE bm = true := by
  unfold xCls at q
  split at q
  · rename_i dd cd sl ho
    split at q
    · rename_i C' bm k0 k1 k2 k3 n k5 hm hs
      obtain ⟨q1, q⟩ := xba q
      obtain ⟨q2, q⟩ := xba q
      obtain ⟨q3, q⟩ := xba q
      obtain ⟨q4, q5⟩ := xba q
      obtain rfl : C' = C := eq_of_beq q1
      obtain rfl : n = "ValueError.__new__" := eq_of_beq q2
      have hdel : cd.hasDel = false := by cases h : cd.hasDel <;> simp [h] at q3 ⊢
      obtain ⟨nm, bs, mro, ns, qn, hd, sn, sub, ab, col, del⟩ := cd
      dsimp only at hm hdel q4
      subst hm hdel q4
      have hsl : sl = #[k0, k1, k2, k3, some (.builtin "ValueError.__new__"), k5] := by
        obtain ⟨l⟩ := sl
        simp only at hs
        rw [hs]
      subst hsl
      exact ⟨nm, qn, ns, bs, bm, sn, sub, ab, col, dd, k0, k1, k2, k3, k5, ho, q5⟩
    · cases q
  · cases q
theorem exT_of {prog : Program} {K : Frag} {mg : Str → Option Value} {x : Str} {C : Addr} {A : Arguments} {B : List Stmt} (gC : mg x = some (.ref C)) (noS : mg "super" = none) (top : (prog.main.scope.names.lookup ("super" : Str)).isSome = false) (opq : nsIn K cStatics "thirdparty.any" = some none)
    (b : xB1 K C = true) (e : exV prog K C = exVal A B) (hA : ∃ (p1 p2 p3 : Pos) (j : Nat), A = xA p1 p2 p3 j) (hB : ∃ a b c d e f g h i k : Pos, B = xB a b c d e f g h i k ∧ (c.endLine == e.line) = true) : ExT prog K mg x C := by
  unfold xB1 at b
  obtain ⟨b1, b⟩ := xba b
  obtain ⟨b2, b⟩ := xba b
  obtain ⟨b3, b⟩ := xba b
  obtain ⟨b4, b⟩ := xba b
  obtain ⟨b5, b⟩ := xba b
  obtain ⟨b6, b⟩ := xba b
  obtain ⟨b7, b⟩ := xba b
  obtain ⟨b8, b⟩ := xba b
  obtain ⟨b9, b⟩ := xba b
  obtain ⟨b10, b⟩ := xba b
  obtain ⟨b11, b12⟩ := xba b
  refine ⟨gC, noS, top, b2, xCls_ok b1, of_decide_eq_true b3, of_decide_eq_true b4, of_decide_eq_true b5, of_decide_eq_true b6, of_decide_eq_true b7, of_decide_eq_true b8, b9, of_decide_eq_true b10, opq, of_decide_eq_true b11, of_decide_eq_true b12, ?_⟩
  unfold exV at e
  split at e
  · rename_i fI hfI
    split at e
    · rename_i oc od fd osl lk
      obtain ⟨n1, n2, n3, n4, n5, n6, n7, n8, n9, n10, n11, n12, n13, n14, n15⟩ := fd
      unfold exVal at e
      simp only [Option.some.injEq, Prod.mk.injEq] at e
      obtain ⟨h1, h2, h3, h4, h5, h6, h7⟩ := e
      subst h1 h2 h3 h4 h5 h6
      obtain ⟨c1, h7⟩ := xba h7
      obtain ⟨c2, h7⟩ := xba h7
      obtain ⟨c3, c4⟩ := xba h7
      unfold xClo at c1
      split at c1
      · rename_i y cc hcl
        obtain ⟨c5, c6⟩ := xba c1
        have c5 := of_decide_eq_true c5
        split at c6
        · rename_i cl cld C' csl lcc
          have c7 := of_decide_eq_true c6
          subst c7
          unfold xDfl at c2
          split at c2
          · rename_i T hT
            split at c2
            · rename_i u1 u2 its nn u3 lT
              split at c2
              · rename_i hits
                unfold xCode at c3
                split at c3
                · rename_i cda hcda
                  obtain ⟨c8, c9⟩ := xba c3
                  split at c9
                  · rename_i ccl cdd vs ccs lcda
                    split at c9
                    · rename_i file tf hf
                      dsimp only at hcl hT hcda
                      subst hcl hT hcda c5
                      refine ⟨fI, oc, od, T, n9, n10, n11, n12, cda, cc, n14, osl, n2, _, _, hfI, of_decide_eq_true c4, lk, ⟨_, nn, lT, ?_⟩, c8, hA, hB, ⟨cl, cld, csl, lcc⟩, ccl, cdd, vs, ccs, file, tf, lcda, hf, c9⟩
                      obtain ⟨l⟩ := its
                      dsimp only at hits
                      subst hits
                      rfl
                    · cases c9
                  · cases c9
                · cases c3
              · cases c2
            · cases c2
          · cases c2
        · cases c6
      · cases c1
    · cases e
  · cases e
end DLX
/-! H1: the head: facts, the run. -/
namespace K65
open PySem PySem.Spec PyProof.Rows L2 DL
def top (i : Nat) : Stmt := PySem.Challenge.pw_addsup_k65_drawings_of_grids.main.body.getD i (.Pass ⟨0, 0, 0, 0⟩)
abbrev PR : Program := PySem.Challenge.pw_addsup_k65_drawings_of_grids
def dfn (x : Str) (i : Nat) : He.DefD := ⟨(x, none), x, x, defArgs (top i), defBody (top i), defScope (top i), [], []⟩
def exNames : List Str := ["InvalidTable", "InvalidNames", "InvalidText"]
def fnl0 : List He.DefD := [dfn "is_whole" 6, dfn "read_count" 9, dfn "read_whole" 10, dfn "ended_lines" 11, dfn "is_grid" 15, dfn "is_name" 16, dfn "are_names_of" 17, dfn "check_grid" 18, dfn "check_names" 19, dfn "words_of" 20, dfn "drawn_rows" 21, dfn "text_of_grid" 22, dfn "parts_in" 23, dfn "grid_of_text" 24, dfn "_law_hash" 26, dfn "_law_random" 27, dfn "_law_cell" 28, dfn "_law_generator" 29, dfn "_law_pick" 30, dfn "_law_drawn_order" 31, dfn "_law_marked" 32, dfn "_law_caught" 33, dfn "_law_refuses" 34, dfn "_law_bent" 35, dfn "_law_read" 36, dfn "_law_drawing" 37, dfn "_law_grid_right" 38, dfn "_law_refused_right" 39, dfn "law" 40]
def fnl : List He.DefD := fnl0
def fal0 : List He.Fa := [.glo "is_whole", .glo "read_count", .glo "read_whole", .glo "ended_lines", .glo "is_grid", .glo "is_name", .glo "are_names_of", .glo "check_grid", .glo "check_names", .glo "words_of", .glo "drawn_rows", .glo "text_of_grid", .glo "parts_in", .glo "grid_of_text", .glo "_law_hash", .glo "_law_random", .glo "_law_cell", .glo "_law_generator", .glo "_law_pick", .glo "_law_drawn_order", .glo "_law_marked", .glo "_law_caught", .glo "_law_refuses", .glo "_law_bent", .glo "_law_read", .glo "_law_drawing", .glo "_law_grid_right", .glo "_law_refused_right", .glo "law", .glo "SumError"]
def fal1 : List He.Fa := [.glo "InvalidTable", .glo "InvalidNames", .glo "InvalidText", .free "len", .free "isinstance", .free "int", .free "bool", .free "str", .free "list", .free "tuple", .free "max", .free "sum", .free "enumerate", .free "range", .free "repr", .free "abs", .free "sorted", .free "super", .str "FIGURES" "0123456789", .str "BAR" " | ", .str "LETTERS" "abcdefghijklmnopqrstuvwxyz"]
def fal : List He.Fa := fal0 ++ fal1
def tfl : List He.Defn := [("_law_grid_right", none), ("_law_refused_right", none)]
/-- the i-th statement of the top, a class: its only def -/
def ini (i : Nat) : Stmt := match top i with
  | .ClassDef (body := b) .. => b.getD 0 (.Pass ⟨0, 0, 0, 0⟩)
  | _ => .Pass ⟨0, 0, 0, 0⟩
def exIx : List Nat := [2, 3, 4]
def exvs : List DLX.ExV := exIx.map fun i => DLX.exVal (defArgs (ini i)) (defBody (ini i))
def obsX1 (K : PySem.W.Frag) : List DLX.ExV := exNames.map fun n => DLX.exV PR K (He.ga K n)
def exB (K : PySem.W.Frag) : Bool := decide (PySem.W.exmOne K (.ref (He.ga K "InvalidText")) (.ref (He.ga K "InvalidText")) = some true) && (decide ((He.cT K ("_law_grid_right", none)).2 ≠ (He.cT K ("_law_refused_right", none)).2) && (decide (PySem.W.nsIn K PySem.cStatics "thirdparty.any" = some none) && (exNames.all fun n => DLX.xB1 K (He.ga K n) && (exkB K (He.ga K n) && (decide (PySem.W.exmOne K (.ref (He.ga K n)) (.ref (He.ga K "SumError")) = some true) && exNames.all fun m => decide (PySem.W.kitOne K (.ref (He.ga K n)) (.ref (He.ga K m)) = some (decide (n = m))))))))
def asW (g : Addr → Option Obj) (n : Nat) : List Addr := PySem.cStatics :: He.asD g n
/-! the Hook: that of HeadHook4, and the exceptions' __init__ -/
structure Says (w : World) (h : Heap) (K : PySem.W.Frag) : Prop where
  x : He.SaysX fal fnl [] tfl exB w h K
  e : obsX1 K = exvs
abbrev AlZ : Type := He.AlX × List DLX.ExV
def obsK (g : Addr → Option Obj) (K : PySem.W.Frag) : AlZ := ((He.obsT fal fnl [] K, exB K && He.tabsB g tfl K), obsX1 K)
def obsZ (n : Nat) (g : Addr → Option Obj) : AlZ := obsK g (He.frT g (asW g n))
theorem says_of {as : List Addr} {w : World} {h : Heap} (e : obsK h.get? (He.frT h.get? as) = (He.valX fnl [] w, exvs)) : Says w h (He.frT h.get? as) := by
  have e1 : He.obsT fal fnl [] (He.frT h.get? as) = He.valT fnl [] w := congrArg (fun z : AlZ => z.1.1) e
  have e2 : (exB (He.frT h.get? as) && He.tabsB h.get? tfl (He.frT h.get? as)) = true := congrArg (fun z : AlZ => z.1.2) e
  obtain ⟨h1, h2⟩ := He.ba e2
  have key : ∀ p ∈ tfl, PySem.W.codeHdIn (He.frT h.get? as) (He.cT (He.frT h.get? as) p).1 (He.cT (He.frT h.get? as) p).2 = true ∧ ∃ o, h.get? (He.cT (He.frT h.get? as) p).2 = some o ∧ He.emptyTab o = true := fun p hp => by
    obtain ⟨h3, h4⟩ := He.ba (List.all_eq_true.mp h2 p hp)
    refine ⟨h3, ?_⟩
    cases q : h.get? (He.cT (He.frT h.get? as) p).2 with
    | none =>
      rw [q] at h4
      cases h4
    | some o =>
      rw [q] at h4
      exact ⟨o, rfl, h4⟩
  exact ⟨⟨e1, h1, fun p hp => (key p hp).1, fun p hp => by
    obtain ⟨_, o, q, z⟩ := key p hp
    exact He.frT_none q z, fun p hp => by
    obtain ⟨_, o, q, z⟩ := key p hp
    rw [q, He.emptyTab_eq z]⟩, congrArg (fun z : AlZ => z.2) e⟩
def hookZ (n : Nat) : PySem.W.Hook where
  α := AlZ
  obs := fun s => obsZ n s.heap.get?
  val := fun w => (He.valX fnl [] w, exvs)
  says := fun w h => ∃ K : PySem.W.Frag, K.In h ∧ Says w h K
  of := fun _ _ e => ⟨_, He.frT_in, says_of e⟩
  keeps := fun _ _ _ ⟨K, hK, c⟩ k => ⟨K, PySem.W.Frag.In.keeps hK k, ⟨c.x.t, c.x.more, c.x.hd, c.x.out, fun p hp => k _ _ (c.x.empty p hp)⟩, c.e⟩
theorem obsZ_eq {n : Nat} {g : Addr → Option Obj} {s : Shared} (h : ∀ a, g a = s.heap.get? a) : obsZ n g = (hookZ n).obs s := by
  have e : g = s.heap.get? := funext h
  rw [e] <;> rfl
abbrev RR : PySem.W.OpenRow := PySem.W.OpenLaw.row PySem.Challenge.rw_addsup_k65_drawings_of_grids
abbrev QV : Program := PySem.W.view RR.prog [40]
abbrev hk : PySem.W.Hook := hookZ 4
def ob (s : PySem.W.SharedT) : AlZ := obsZ 4 (HandSHeadRun.getT s)
theorem ob_eq (s : PySem.W.SharedT) : ob s = hk.obs s.abs := obsZ_eq (HandSHeadRun.getT_eq s)
def loose0 : List Str := ["SumError", "InvalidTable", "InvalidNames", "InvalidText", "is_whole", "read_count", "read_whole", "ended_lines", "is_grid", "is_name", "are_names_of", "check_grid", "check_names", "words_of", "drawn_rows", "text_of_grid", "parts_in", "grid_of_text", "_law_hash", "_law_random", "_law_cell", "_law_generator", "_law_pick", "_law_drawn_order", "_law_marked", "_law_caught", "_law_refuses", "_law_bent", "_law_read", "_law_drawing"]
def loose1 : List Str := ["_law_grid_right", "_law_refused_right", "FIGURES", "BAR", "LETTERS"]
def loose : List Str := loose0 ++ loose1
theorem run (w : World) : HandSHeadRun.RunEq RR QV hk ob 40000 loose w := by
  intro os
  kernel_rfl
end K65
/-! M1: what denotations give, by rules. -/
namespace DL
open PySem L2 PyProof.Rows
def pubs (ρ : Env) : Prop := ∀ o ∈ ρ, ∀ t ds, o ≠ some (.own t ds)
def isPub (o : Option Sl) : Prop := ∀ t ds, o ≠ some (.own t ds)
theorem colE_pubs {ρ : Env} (h : pubs ρ) : colE ρ = [] := by
  unfold colE
  rw [List.filterMap_eq_nil_iff]
  intro o ho
  have q := h o ho
  cases o with
  | none => rfl
  | some s =>
    cases s with
    | pub m d => rfl
    | own t ds => exact absurd rfl (q t ds)
    | nst g => rfl
theorem colE_args (ds : List D) (n : Nat) : colE ((ds.map Sl.pu).map some ++ List.replicate n none) = [] := colE_pubs fun o ho t es e => by
  subst e
  rcases List.mem_append.mp ho with h | h
  · obtain ⟨s, hs, e⟩ := List.mem_map.mp h
    obtain ⟨d, _, e2⟩ := List.mem_map.mp hs
    rw [← e2] at e
    cases e
  · cases List.eq_of_mem_replicate h
theorem colE_args0 (ds : List D) : colE ((ds.map Sl.pu).map some) = [] := by
  have := colE_args ds 0
  simpa using this
/-- the value of an expression that leaves the slots as they are -/
def Ev (f : Env → RE) (ρ : Env) (d : D) : Prop := ∃ w, f ρ = .ok w ρ ∧ w.d = d
def Evl (f : Env → RE) (ρ : Env) (ds : List D) : Prop := f ρ = .ok (.frs ds) ρ
def EvL (fs : Env → RL) (ρ : Env) (ds : List D) : Prop := fs ρ = .ok ds ρ
section
variable {ρ : Env} {fa fb fc ft ff : Env → RE} {fs : Env → RL} {a b c d : D} {ds : List D} {w : W} {i m : Nat}
theorem Evl.ev (h : Evl fa ρ ds) : Ev fa ρ (.list ds) := ⟨_, h, rfl⟩
theorem Ev.k : Ev (fC d) ρ d := ⟨.pu d, rfl, rfl⟩
theorem Ev.var (h : ρ[i]? = some (some (.pub m d))) : Ev (fVar i) ρ d := ⟨.pu d, by unfold fVar; rw [h], rfl⟩
theorem Ev.bnd {k : D → Env → RE} (ha : Ev fa ρ a) (h : Ev (k a) ρ d) : Ev (bndE fa k) ρ d := by
  obtain ⟨wa, h1, rfl⟩ := ha
  obtain ⟨wb, h2, rfl⟩ := h
  refine ⟨wb, ?_, rfl⟩
  unfold bndE
  rw [h1]
  exact h2
theorem Ev.res (h : ∃ w, (o : Option W) = some w ∧ w.d = d) : Ev (resW o) ρ d := by
  obtain ⟨w, rfl, e⟩ := h
  exact ⟨w, rfl, e⟩
theorem Ev.op2 {g : D → D → Option W} (ha : Ev fa ρ a) (hb : Ev fb ρ b) (h : g a b = some w) : Ev (fOp2 g fa fb) ρ w.d := ha.bnd (hb.bnd (.res ⟨w, h, rfl⟩))
theorem Ev.op1 {g : D → Option W} (ha : Ev fa ρ a) (h : g a = some w) : Ev (fOp1 g fa) ρ w.d := ha.bnd (.res ⟨w, h, rfl⟩)
theorem Ev.both {x : Bool} (ha : Ev fa ρ (.bool x)) (h1 : x = true → Ev ft ρ d) (h2 : x = false → Ev ff ρ d) : Ev (fBoth fa ft ff) ρ d := by
  refine ha.bnd ?_
  cases x with
  | true => exact h1 rfl
  | false => exact h2 rfl
theorem Ev.and {x y : Bool} (ha : Ev fa ρ (.bool x)) (hb : x = true → Ev fb ρ (.bool y)) : Ev (fAnd fa fb) ρ (.bool (x && y)) := by
  refine ha.both (fun e => ?_) fun e => ?_
  · subst e; exact hb rfl
  · subst e; exact .k
theorem Ev.or {x y : Bool} (ha : Ev fa ρ (.bool x)) (hb : x = false → Ev fb ρ (.bool y)) : Ev (fOr fa fb) ρ (.bool (x || y)) := by
  refine ha.both (fun e => ?_) fun e => ?_
  · subst e; exact .k
  · subst e; exact hb rfl
theorem Ev.not {x : Bool} (ha : Ev fa ρ (.bool x)) : Ev (fNot fa) ρ (.bool (!x)) := by
  refine ha.both (fun e => ?_) fun e => ?_
  · subst e; exact .k
  · subst e; exact .k
theorem Ev.if {x : Bool} (ha : Ev fa ρ (.bool x)) (h1 : x = true → Ev ft ρ d) (h2 : x = false → Ev ff ρ d) : Ev (fIf fa ft ff) ρ d := ha.both h1 h2
theorem Ev.chain {g g' : D → D → Option W} {x : Bool} (ha : Ev fa ρ a) (hb : Ev fb ρ b) (h : g a b = some (.pu (.bool x))) (hc : x = true → Ev fc ρ c ∧ g' b c = some w) : Ev (fChain g g' fa fb fc) ρ (if x then w.d else .bool false) := by
  obtain ⟨wa, h1, rfl⟩ := ha
  obtain ⟨wb, h2, rfl⟩ := hb
  unfold Ev fChain
  rw [h1]
  dsimp only
  rw [h2]
  dsimp only
  rw [h]
  cases x with
  | true =>
    obtain ⟨⟨wc, h3, rfl⟩, h4⟩ := hc rfl
    dsimp only
    rw [h3]
    dsimp only
    rw [h4]
    exact ⟨w, rfl, rfl⟩
  | false => exact ⟨_, rfl, rfl⟩
theorem EvL.nil : EvL fNil ρ [] := rfl
theorem EvL.cons {fr : Env → RL} (ha : Ev fa ρ a) (hr : EvL fr ρ ds) : EvL (fCons fa fr) ρ (a :: ds) := by
  obtain ⟨wa, h1, rfl⟩ := ha
  unfold EvL fCons
  rw [h1]
  dsimp only
  rw [hr]
theorem Ev.bndA {k : List D → Option W} (hs : EvL fs ρ ds) (h : k ds = some w) : Ev (bndA fs k) ρ w.d := by
  unfold Ev DL.bndA
  rw [hs]
  dsimp only
  rw [h]
  exact ⟨w, rfl, rfl⟩
theorem Evl.bndA {k : List D → Option W} {es : List D} (hs : EvL fs ρ ds) (h : k ds = some (.frs es)) : Evl (bndA fs k) ρ es := by
  unfold Evl DL.bndA
  rw [hs]
  dsimp only
  rw [h]
  rfl
/-- a function's answer over plain arguments -/
def Fr (F : List Sl → RF) (ds : List D) (d : D) : Prop := ∃ w, F (ds.map .pu) = .ok w [] ∧ w.d = d
def FrL (F : List Sl → RF) (ds : List D) (es : List D) : Prop := F (ds.map .pu) = .ok (.frs es) []
theorem FrL.fr {F : List Sl → RF} {es : List D} (h : FrL F ds es) : Fr F ds (.list es) := ⟨_, h, rfl⟩
theorem Ev.callG {n : Nat} {π : List D → List D} {F : List Sl → RF} (hs : EvL fs ρ ds) (hF : Fr F (π ds) d) (hn : ds.length = n) : Ev (fCallG n π F fs) ρ d := by
  obtain ⟨w, h, rfl⟩ := hF
  unfold Ev fCallG
  rw [hs]
  dsimp only
  rw [if_pos hn, h]
  exact ⟨w, rfl, rfl⟩
theorem Ev.call {n : Nat} {F : List Sl → RF} (hs : EvL fs ρ ds) (hF : Fr F ds d) (hn : ds.length = n) : Ev (fCall n F fs) ρ d := Ev.callG (π := id) hs hF hn
theorem Evl.call {n : Nat} {F : List Sl → RF} {es : List D} (hs : EvL fs ρ ds) (hF : FrL F ds es) (hn : ds.length = n) : Evl (fCall n F fs) ρ es := by
  unfold Evl fCall fCallG
  rw [hs]
  dsimp only
  rw [if_pos hn]
  show retC (F (ds.map .pu)) ρ = _
  rw [hF]
  rfl
end
/-! ### statements -/
/-- a suite's answer, nothing owned behind it -/
def Rt (g : Env → RS) (ρ : Env) (d : D) : Prop := ∃ w ρ', g ρ = .ret w ρ' ∧ w.d = d ∧ colE ρ' = []
def RtL (g : Env → RS) (ρ : Env) (ds : List D) : Prop := ∃ ρ', g ρ = .ret (.frs ds) ρ' ∧ colE ρ' = []
def Nx (g : Env → RS) (ρ ρ1 : Env) : Prop := g ρ = .nx ρ1
def Er (g : Env → RS) (ρ : Env) (c : Addr) (d : D) : Prop := g ρ = .err c d
section
variable {ρ ρ1 : Env} {fa fc : Env → RE} {f g h : Env → RS} {d e : D} {ds es : List D} {cc : Addr} {i : Nat}
theorem RtL.rt (h : RtL g ρ ds) : Rt g ρ (.list ds) := by
  obtain ⟨ρ', h1, h2⟩ := h
  exact ⟨_, _, h1, rfl, h2⟩
theorem Rt.ret (ha : Ev fa ρ d) (hc : colE ρ = []) : Rt (sRet fa) ρ d := by
  obtain ⟨w, h1, rfl⟩ := ha
  refine ⟨w, ρ, ?_, rfl, hc⟩
  unfold sRet sE
  rw [h1]
theorem RtL.ret (ha : Evl fa ρ ds) (hc : colE ρ = []) : RtL (sRet fa) ρ ds := by
  refine ⟨ρ, ?_, hc⟩
  unfold sRet sE
  rw [show fa ρ = _ from ha]
theorem Rt.seq (hf : Nx f ρ ρ1) (hg : Rt g ρ1 d) : Rt (sSeq f g) ρ d := by
  obtain ⟨w, ρ', h1, h2, h3⟩ := hg
  refine ⟨w, ρ', ?_, h2, h3⟩
  unfold sSeq
  rw [show f ρ = .nx ρ1 from hf]
  exact h1
theorem RtL.seq (hf : Nx f ρ ρ1) (hg : RtL g ρ1 ds) : RtL (sSeq f g) ρ ds := by
  obtain ⟨ρ', h1, h2⟩ := hg
  refine ⟨ρ', ?_, h2⟩
  unfold sSeq
  rw [show f ρ = .nx ρ1 from hf]
  exact h1
theorem Rt.now (hf : Rt f ρ d) : Rt (sSeq f g) ρ d := by
  obtain ⟨w, ρ', h1, h2, h3⟩ := hf
  refine ⟨w, ρ', ?_, h2, h3⟩
  unfold sSeq
  rw [h1]
theorem Nx.seq {ρ2 : Env} (hf : Nx f ρ ρ1) (hg : Nx g ρ1 ρ2) : Nx (sSeq f g) ρ ρ2 := by
  unfold Nx sSeq
  rw [show f ρ = .nx ρ1 from hf]
  exact hg
theorem Er.seq (hf : Nx f ρ ρ1) (hg : Er g ρ1 c d) : Er (sSeq f g) ρ c d := by
  unfold Er sSeq
  rw [show f ρ = .nx ρ1 from hf]
  exact hg
theorem Er.now (hf : Er f ρ c d) : Er (sSeq f g) ρ c d := by
  unfold Er sSeq
  rw [show f ρ = .err c d from hf]
theorem if_eq {x : Bool} (hc : Ev fc ρ (.bool x)) : sIf fc f g ρ = if x then f ρ else g ρ := by
  obtain ⟨w, h1, h2⟩ := hc
  unfold sIf sE
  rw [h1]
  dsimp only
  rw [h2]
  cases x <;> rfl
theorem Rt.if {x : Bool} (hc : Ev fc ρ (.bool x)) (h1 : x = true → Rt f ρ d) (h2 : x = false → Rt g ρ d) : Rt (sIf fc f g) ρ d := by
  unfold Rt
  rw [if_eq hc]
  cases x with
  | true => exact h1 rfl
  | false => exact h2 rfl
theorem Nx.if {x : Bool} (hc : Ev fc ρ (.bool x)) (h1 : x = true → Nx f ρ ρ1) (h2 : x = false → Nx g ρ ρ1) : Nx (sIf fc f g) ρ ρ1 := by
  unfold Nx
  rw [if_eq hc]
  cases x with
  | true => exact h1 rfl
  | false => exact h2 rfl
theorem Er.if {x : Bool} (hc : Ev fc ρ (.bool x)) (h1 : x = true → Er f ρ c d) (h2 : x = false → Er g ρ c d) : Er (sIf fc f g) ρ c d := by
  unfold Er
  rw [if_eq hc]
  cases x with
  | true => exact h1 rfl
  | false => exact h2 rfl
theorem Nx.nx : Nx .nx ρ ρ := rfl
/-- a guard: if x: return .. -/
theorem Rt.guard {x : Bool} (hc : Ev fc ρ (.bool x)) (h1 : x = true → Rt f ρ d) (h2 : x = false → Rt g ρ d) : Rt (sSeq (sIf fc f .nx) g) ρ d := by
  cases x with
  | true => exact .now (.if hc h1 fun z => nomatch z)
  | false => exact .seq (.if hc (fun z => nomatch z) fun _ => .nx) (h2 rfl)
theorem Nx.put (ha : Ev fa ρ d) : Nx (sPut i fa) ρ (ρ.set i (some (.pub 0 d))) := by
  obtain ⟨w, h1, rfl⟩ := ha
  unfold Nx sPut sE
  rw [h1]
theorem Nx.drop (ha : Ev fa ρ d) : Nx (sDrop fa) ρ ρ := by
  obtain ⟨w, h1, rfl⟩ := ha
  unfold Nx sDrop sE
  rw [h1]
theorem Er.drop (ha : fa ρ = .err c d) : Er (sDrop fa) ρ c d := by
  unfold Er sDrop sE
  rw [ha]
theorem Nx.bind {bd : D → Env → Option Env} (ha : Ev fa ρ d) (h : bd d ρ = some ρ1) : Nx (sBind bd fa) ρ ρ1 := by
  obtain ⟨w, h1, rfl⟩ := ha
  unfold Nx sBind sE
  rw [h1]
  dsimp only
  rw [h]
theorem Er.raise {fs : Env → RL} (ha : EvL fs ρ [d]) : Er (sRaise c fs) ρ c d := by
  unfold Er sRaise
  rw [show fs ρ = .ok [d] ρ from ha]
end
/-! ### functions -/
section
variable {n : Nat} {g : Env → RS} {ds es : List D} {d : D} {c : Addr} {ρ1 : Env}
abbrev args (n : Nat) (ds : List D) : Env := (ds.map Sl.pu).map some ++ List.replicate (n - ds.length) none
theorem fr_of (h : Rt g (args n ds) d) : Fr (fnF n g) ds d := by
  obtain ⟨w, ρ', h1, h2, h3⟩ := h
  refine ⟨w, ?_, h2⟩
  unfold fnF
  rw [List.length_map, h1]
  dsimp only
  rw [h3, colE_args0]
  rfl
theorem frL_of (h : RtL g (args n ds) es) : FrL (fnF n g) ds es := by
  obtain ⟨ρ', h1, h3⟩ := h
  unfold FrL fnF
  rw [List.length_map, h1]
  dsimp only
  rw [h3, colE_args0]
  rfl
theorem fr_nx (h : Nx g (args n ds) ρ1) (hc : colE ρ1 = []) : Fr (fnF n g) ds .none := by
  refine ⟨.pu .none, ?_, rfl⟩
  unfold fnF
  rw [List.length_map, show g _ = .nx ρ1 from h]
  dsimp only
  rw [hc, colE_args0]
  rfl
def FrE (F : List Sl → RF) (ds : List D) (c : Addr) (d : D) : Prop := F (ds.map .pu) = .err c d
theorem frE_of (h : Er g (args n ds) c d) : FrE (fnF n g) ds c d := by
  unfold FrE fnF
  rw [List.length_map, show g _ = .err c d from h]
theorem callE {F : List Sl → RF} {fs : Env → RL} {ρ : Env} (hs : EvL fs ρ ds) (hF : FrE F ds c d) (hn : ds.length = n) : fCall n F fs ρ = .err c d := by
  unfold fCall fCallG
  rw [hs]
  dsimp only
  rw [if_pos hn]
  show retC (F (ds.map .pu)) ρ = _
  rw [hF]
  rfl
end
/-! ### comprehensions -/
theorem lc_pure {bind : D → Env → Option Env} {ft fe : Env → RE} {vs : List Nat} {ρ : Env} (p : D → Bool) (fn : D → D) : ∀ (items acc : List D), acc.length + items.length ≤ sizeLine →
    (∀ d ∈ items, ∃ ρ1, bind d ρ = some ρ1 ∧ Ev ft ρ1 (.bool (p d)) ∧ (p d = true → Ev fe ρ1 (fn d)) ∧ wipeE ρ1 vs = ρ) → lcGo bind ft fe vs items acc ρ = .ok (.frs (acc ++ (items.filter p).map fn)) ρ
  | [], acc, _, _ => by simp [lcGo]
  | d :: r, acc, hl, h => by
    obtain ⟨ρ1, h1, ⟨w, h2, h2'⟩, h3, h4⟩ := h d List.mem_cons_self
    have hl2 : acc.length + r.length + 1 ≤ sizeLine := by simpa [Nat.add_assoc] using hl
    unfold lcGo
    rw [h1]
    dsimp only
    rw [h2]
    dsimp only
    rw [h2']
    cases e : p d with
    | true =>
      obtain ⟨w3, h5, h6⟩ := h3 e
      dsimp only
      rw [h5]
      dsimp only
      rw [if_pos (by omega), h4, lc_pure p fn r (acc ++ [w3.d]) (by simp; omega) fun d hd => h d (List.mem_cons_of_mem _ hd)]
      simp [e, h6]
    | false =>
      dsimp only
      rw [h4, lc_pure p fn r acc (by omega) fun d hd => h d (List.mem_cons_of_mem _ hd)]
      simp [e]
theorem evl_lc {src : Env → RI} {bind : D → Env → Option Env} {ft fe : Env → RE} {vs : List Nat} {ρ : Env} {items : List D} (p : D → Bool) (fn : D → D) (hs : src ρ = .ok items ρ) (hw : wipeE ρ vs = ρ) (hl : items.length ≤ sizeLine)
    (h : ∀ d ∈ items, ∃ ρ1, bind d ρ = some ρ1 ∧ Ev ft ρ1 (.bool (p d)) ∧ (p d = true → Ev fe ρ1 (fn d)) ∧ wipeE ρ1 vs = ρ) : Evl (fLc src bind ft fe vs) ρ ((items.filter p).map fn) := by
  unfold Evl fLc
  rw [hs]
  dsimp only
  rw [hw, lc_pure p fn items [] (by simpa using hl) h]
  rfl
theorem srcE_ok {fa : Env → RE} {k : D → Option (List D)} {ρ : Env} {d : D} {items : List D} (ha : Ev fa ρ d) (h : k d = some items) : srcE fa k ρ = .ok items ρ := by
  obtain ⟨w, h1, rfl⟩ := ha
  unfold srcE
  rw [h1]
  dsimp only
  rw [h]
theorem srcA_ok {fs : Env → RL} {k : List D → Option (List D)} {ρ : Env} {ds : List D} {items : List D} (ha : EvL fs ρ ds) (h : k ds = some items) : srcA fs k ρ = .ok items ρ := by
  unfold srcA
  rw [show fs ρ = _ from ha]
  dsimp only
  rw [h]
/-! ### loops -/
/-- a loop that keeps I, or an item at which it returns -/
theorem for_find {bind : D → Env → Option Env} {body : Env → RS} (I : Env → Prop) (p : D → Prop) (R : D → W → Env → Prop) : ∀ (items : List D) (ρ : Env), I ρ →
    (∀ d ∈ items, ∀ ρ, I ρ → ∃ ρ1, bind d ρ = some ρ1 ∧ ((¬ p d ∧ ∃ ρ2, body ρ1 = .nx ρ2 ∧ I ρ2) ∨ (p d ∧ ∃ w ρ2, body ρ1 = .ret w ρ2 ∧ R d w ρ2))) →
    (∃ ρ', forGo bind body items ρ = .nx ρ' ∧ I ρ' ∧ ∀ d ∈ items, ¬ p d) ∨ ∃ d ∈ items, p d ∧ ∃ w ρ2, forGo bind body items ρ = .ret w ρ2 ∧ R d w ρ2
  | [], ρ, hI, _ => .inl ⟨ρ, rfl, hI, fun d hd => absurd hd (by simp)⟩
  | d :: r, ρ, hI, h => by
    obtain ⟨ρ1, h1, h2⟩ := h d List.mem_cons_self ρ hI
    unfold forGo
    rw [h1]
    dsimp only
    rcases h2 with ⟨np, ρ2, h3, h4⟩ | ⟨hp, w, ρ2, h3, h4⟩
    · rw [h3]
      dsimp only
      rcases for_find I p R r ρ2 h4 fun d hd => h d (List.mem_cons_of_mem _ hd) with ⟨ρ', q1, q2, q3⟩ | ⟨d', hd', q1, q2⟩
      · exact .inl ⟨ρ', q1, q2, fun d' hd' => by
          rcases List.mem_cons.mp hd' with e | e
          · rw [e]; exact np
          · exact q3 d' e⟩
      · exact .inr ⟨d', List.mem_cons_of_mem _ hd', q1, q2⟩
    · rw [h3]
      exact .inr ⟨d, List.mem_cons_self, hp, w, ρ2, rfl, h4⟩
/-- a loop over a list that is carried: J (what is left) (slots) -/
theorem for_inv {bind : D → Env → Option Env} {body : Env → RS} (J : List D → Env → Prop) (Z : RS → Prop) : ∀ (items : List D) (ρ : Env), J items ρ →
    (∀ d r ρ, J (d :: r) ρ → ∃ ρ1, bind d ρ = some ρ1 ∧ ((∃ ρ2, body ρ1 = .nx ρ2 ∧ J r ρ2) ∨ (∃ w ρ2, body ρ1 = .ret w ρ2 ∧ Z (.ret w ρ2)))) → (∀ ρ, J [] ρ → Z (.nx ρ)) → Z (forGo bind body items ρ)
  | [], ρ, hJ, _, hz => hz ρ hJ
  | d :: r, ρ, hJ, h, hz => by
    obtain ⟨ρ1, h1, h2⟩ := h d r ρ hJ
    unfold forGo
    rw [h1]
    dsimp only
    rcases h2 with ⟨ρ2, h3, h4⟩ | ⟨w, ρ2, h3, h4⟩
    · rw [h3]
      exact for_inv J Z r ρ2 h4 h hz
    · rw [h3]
      exact h4
end DL
/-! T1: texts over the layer. -/
namespace DL
open PySem L2 PyProof.Rows
/-- a method of a text, one argument: what it gives -/
def fM1 (g : Str → D → Option W) (fa fb : Env → RE) : Env → RE := bndE fa fun d1 => match d1 with
  | .str x => bndE fb fun d2 => resW (g x d2)
  | _ => fun _ => .st
def fM0 (g : Str → Option W) (fa : Env → RE) : Env → RE := bndE fa fun d1 => match d1 with
  | .str x => resW (g x)
  | _ => fun _ => .st
def M1R (K : PySem.W.Frag) (r : V → List V → Hp → VK → Prop) (g : Str → D → Option W) : Prop := ∀ (A : List Addr) (H : Hp) (x : Str) (y : V) (d : D) (w : W) (Q : VK), (∀ a ∈ A, H a ≠ none) → Rp K (hid A H) y d → g x d = some w → GiveW K A H w Q → r (.str x) [y] H Q
def M0R (K : PySem.W.Frag) (r : V → List V → Hp → VK → Prop) (g : Str → Option W) : Prop := ∀ (A : List Addr) (H : Hp) (x : Str) (w : W) (Q : VK), (∀ a ∈ A, H a ≠ none) → g x = some w → GiveW K A H w Q → r (.str x) [] H Q
section
variable {K : PySem.W.Frag} {E : XK} {σ : L2.St} {H : Hp} {Q : VK}
theorem m1_of {r : V → List V → Hp → VK → Prop} {g : Str → D → Option W} {fa fb : Env → RE} (hr : M1R K r g) (h : tDE K E (fM1 g fa fb) σ H Q) : tM1 r (tDE K E fa) (tDE K E fb) σ H Q := by
  refine tde_bnd h fun v1 H1 τ A0 P1 ρ1 d1 S1 r1 c1 => ?_
  cases d1 with
  | str x =>
    refine ⟨⟨x, rp_str r1⟩, ?_⟩
    rw [rp_str r1]
    refine tde_bnd (k := fun d2 => resW (g x d2)) ⟨τ, A0, P1, ρ1, S1, c1⟩ fun v2 H2 τ2 A2 P2 ρ2 d2 S2 r2 c2 => ?_
    unfold resW at c2
    cases q : g x d2 with
    | none => rw [q] at c2; exact c2.elim
    | some w =>
      rw [q] at c2
      exact hr (P2 ++ A2) H2 x v2 d2 w Q S2.tr r2 q (giveW S2 c2)
  | _ => exact c1.elim
theorem m0_of {r : V → List V → Hp → VK → Prop} {g : Str → Option W} {fa : Env → RE} (hr : M0R K r g) (h : tDE K E (fM0 g fa) σ H Q) : tM0 r (tDE K E fa) σ H Q := by
  refine tde_bnd h fun v1 H1 τ A0 P1 ρ1 d1 S1 r1 c1 => ?_
  cases d1 with
  | str x =>
    refine ⟨⟨x, rp_str r1⟩, ?_⟩
    rw [rp_str r1]
    have c1 : CDE K E τ A0 H1 P1 σ (resW (g x) ρ1) Q := c1
    unfold resW at c1
    cases q : g x with
    | none => rw [q] at c1; exact c1.elim
    | some w =>
      rw [q] at c1
      exact hr (P1 ++ A0) H1 x w Q S1.tr q (giveW S1 c1)
  | _ => exact c1.elim
end
/-! ### what the methods give -/
def strsOf : List D → Option (List Str)
  | [] => some []
  | .str x :: r => (strsOf r).map (x :: ·)
  | _ :: _ => none
theorem rps_strs {K : PySem.W.Frag} {H : Hp} : ∀ {vs : List V} {ds : List D} {ys : List Str}, Rps K H vs ds → strsOf ds = some ys → vs = ys.map V.str
  | _, [], _, h, e => by
    cases h
    cases e
    rfl
  | _, .str x :: r, ys, h, e => by
    cases h with
    | cons a b =>
      cases q : strsOf r with
      | none => simp [strsOf, q] at e
      | some zs =>
        have e : ys = x :: zs := by simpa [strsOf, q] using e.symm
        subst e
        rw [rp_str a, rps_strs b q]
        rfl
  | _, .none :: _, _, _, e | _, .bool _ :: _, _, _, e | _, .int _ :: _, _, _, e | _, .list _ :: _, _, _, e | _, .tuple _ :: _, _, _, e | _, .dict _ :: _, _, _, e => by cases e
theorem strsOf_map : ∀ ys : List Str, strsOf (ys.map .str) = some ys
  | [] => rfl
  | y :: ys => by
    show (strsOf (ys.map .str)).map (y :: ·) = _
    rw [strsOf_map ys]
    rfl
theorem rps_of_strs (K : PySem.W.Frag) (H : Hp) : ∀ ys : List Str, Rps K H (ys.map V.str) (ys.map .str)
  | [] => .nil
  | _ :: ys => .cons (.str _) (rps_of_strs K H ys)
def gSplit (x : Str) : D → Option W
  | .str y => if (y.length == 0) = false ∧ x.length + 2 ≤ sizeLine then some (.frs ((Txt.split x y).map .str)) else none
  | _ => none
def gWords (x : Str) : Option W := if x.length + 2 ≤ sizeLine then some (.frs ((Txt.words x).map .str)) else none
def gStrip (x : Str) : Option W := if x.length ≤ sizeLine then some (.pu (.str (Txt.strip x))) else none
def gStarts (x : Str) : D → Option W
  | .str y => some (.pu (.bool (Txt.startswith x y)))
  | _ => none
def gEnds (x : Str) : D → Option W
  | .str y => some (.pu (.bool (Txt.endswith x y)))
  | _ => none
def gJoin (x : Str) : D → Option W
  | .list ds => (match strsOf ds with
    | some ys => if (ys.map (·.length)).sum + ys.length * x.length ≤ 16777216 then some (.pu (.str (Txt.join x ys))) else none
    | none => none)
  | _ => none
section
variable {X : Cx} {E : XK} {o e : Expr} {fa fb : Env → RE} {apos pos p2 : Pos}
theorem d_split (ha : DE X E o fa) (hb : DE X E e fb) (hs : starEach [e] X.env = [(false, eval e X.env)] := by rfl) (hbase : attributeBase o "split" X.env (eval o X.env) = eval o X.env := by rfl) (hline : (apos.endLine == pos.line) = true := by rfl) :
    DE X E (.Call (.Attribute o "split" apos) [e] [] pos) (fM1 gSplit fa fb) :=
  ⟨PE.weak (pe_split ha.pe hb.pe hs hbase hline) fun σ H Q h => m1_of (fun A H x y d w Q tr r q gw => by
    unfold gSplit at q
    split at q
    · rename_i z
      by_cases c : (z.length == 0) = false ∧ x.length + 2 ≤ sizeLine
      · rw [if_pos c] at q
        cases q
        exact ⟨x, z, rfl, by rw [rp_str r], c.1, c.2, give_lst (rps_of_strs _ _ _) gw⟩
      · rw [if_neg c] at q; cases q
    · cases q) h⟩
theorem d_words (ha : DE X E o fa) (hbase : attributeBase o "split" X.env (eval o X.env) = eval o X.env := by rfl) (hline : (apos.endLine == pos.line) = true := by rfl) :
    DE X E (.Call (.Attribute o "split" apos) [] [] pos) (fM0 gWords fa) :=
  ⟨PE.weak (pe_words ha.pe hbase hline) fun σ H Q h => m0_of (fun A H x w Q tr q gw => by
    unfold gWords at q
    by_cases c : x.length + 2 ≤ sizeLine
    · rw [if_pos c] at q
      cases q
      exact ⟨x, rfl, rfl, c, give_lst (rps_of_strs _ _ _) gw⟩
    · rw [if_neg c] at q; cases q) h⟩
theorem d_strip (ha : DE X E o fa) (hbase : attributeBase o "strip" X.env (eval o X.env) = eval o X.env := by rfl) (hline : (apos.endLine == pos.line) = true := by rfl) :
    DE X E (.Call (.Attribute o "strip" apos) [] [] pos) (fM0 gStrip fa) :=
  ⟨PE.weak (pe_strip ha.pe hbase hline) fun σ H Q h => m0_of (fun A H x w Q tr q gw => by
    unfold gStrip at q
    by_cases c : x.length ≤ sizeLine
    · rw [if_pos c] at q
      cases q
      exact ⟨x, rfl, rfl, c, give_pu (.str _) gw⟩
    · rw [if_neg c] at q; cases q) h⟩
theorem d_starts (ha : DE X E o fa) (hb : DE X E e fb) (hs : starEach [e] X.env = [(false, eval e X.env)] := by rfl) (hbase : attributeBase o "startswith" X.env (eval o X.env) = eval o X.env := by rfl) (hline : (apos.endLine == pos.line) = true := by rfl) :
    DE X E (.Call (.Attribute o "startswith" apos) [e] [] pos) (fM1 gStarts fa fb) :=
  ⟨PE.weak (pe_m1 PySem.F.slot_str_startswith PySem.F.type_str_startswith mt_startswith ha.pe hb.pe hs hbase hline) fun σ H Q h => m1_of (fun A H x y d w Q tr r q gw => by
    unfold gStarts at q
    split at q
    · cases q
      exact ⟨x, _, rfl, by rw [rp_str r], give_pu (.bl _) gw⟩
    · cases q) h⟩
theorem d_ends (ha : DE X E o fa) (hb : DE X E e fb) (hs : starEach [e] X.env = [(false, eval e X.env)] := by rfl) (hbase : attributeBase o "endswith" X.env (eval o X.env) = eval o X.env := by rfl) (hline : (apos.endLine == pos.line) = true := by rfl) :
    DE X E (.Call (.Attribute o "endswith" apos) [e] [] pos) (fM1 gEnds fa fb) :=
  ⟨PE.weak (pe_m1 PySem.F.slot_str_endswith PySem.F.type_str_endswith mt_endswith ha.pe hb.pe hs hbase hline) fun σ H Q h => m1_of (fun A H x y d w Q tr r q gw => by
    unfold gEnds at q
    split at q
    · cases q
      exact ⟨x, _, rfl, by rw [rp_str r], give_pu (.bl _) gw⟩
    · cases q) h⟩
theorem d_join (ha : DE X E o fa) (hb : DE X E e fb) (hs : starEach [e] X.env = [(false, eval e X.env)] := by rfl) (hbase : attributeBase o "join" X.env (eval o X.env) = eval o X.env := by rfl) (hline : (apos.endLine == pos.line) = true := by rfl) :
    DE X E (.Call (.Attribute o "join" apos) [e] [] pos) (fM1 gJoin fa fb) :=
  ⟨PE.weak (pe_join ha.pe hb.pe hs hbase hline) fun σ H Q h => m1_of (fun A H x y d w Q tr r q gw => by
    unfold gJoin at q
    split at q
    · rename_i ds
      cases q2 : strsOf ds with
      | none => rw [q2] at q; cases q
      | some ys =>
        rw [q2] at q
        dsimp only at q
        by_cases c : (ys.map (·.length)).sum + ys.length * x.length ≤ 16777216
        · rw [if_pos c] at q
          cases q
          obtain ⟨p, vs, rfl, h1, s1⟩ := rp_lst r
          rw [rps_strs s1 q2] at h1
          exact ⟨x, p, ys, rfl, rfl, .inl (.inl (.inl h1)), c, give_pu (.str _) gw⟩
        · rw [if_neg c] at q; cases q
    · cases q) h⟩
/-- str(n) -/
def gStr1 : List D → Option W
  | [.int i] => if i.natAbs.log2 < 1920 then some (.pu (.str (toString i))) else none
  | _ => none
theorem cal_str {K : PySem.W.Frag} : CalR K (fun xs H Q => ∃ i : Int, xs = [V.int i] ∧ i.natAbs.log2 < 1920 ∧ Q (V.str (toString i)) H) gStr1 := fun A H xs ds w Q tr r q gw => by
  unfold gStr1 at q
  split at q
  · rename_i i
    by_cases c : i.natAbs.log2 < 1920
    · rw [if_pos c] at q
      cases q
      obtain ⟨v, rfl, h⟩ := rps_one r
      rw [rp_int h]
      exact ⟨i, rfl, c, give_pu (.str _) gw⟩
    · rw [if_neg c] at q; cases q
  · cases q
end
end DL
/-! T2: sum of lists. -/
namespace DL
open PySem L2 PyProof.Rows
open Sem (wp)
def flatR (rows : List (Addr × Array Value × Nat)) : Array Value := rows.foldl (fun a r => a ++ r.2.1) #[]
theorem foldR (rows : List (Addr × Array Value × Nat)) : ∀ a : Array Value, rows.foldl (fun a r => a ++ r.2.1) a = a ++ flatR rows := by
  induction rows with
  | nil => intro a; simp [flatR]
  | cons r l ih =>
    intro a
    unfold flatR
    rw [List.foldl_cons, List.foldl_cons, ih, ih (#[] ++ r.2.1)]
    simp
theorem flatR_cons (r : Addr × Array Value × Nat) (l : List (Addr × Array Value × Nat)) : flatR (r :: l) = r.2.1 ++ flatR l := by
  unfold flatR
  rw [List.foldl_cons, foldR]
  simp [flatR]
abbrev IsLs (h : Heap) (l : Addr) (items : Array Value) (n : Nat) : Prop := h.get? l = some { cls := .type "list", data := .seq items n }
section
variable {prog : Program} {w : World} {A : Around} {R : Result → Shared → Prop}
theorem sumL_loop (hh : A.handled = none) (I S l : Addr) (items : Array Value) (hIS : S ≠ I) (hlS : l ≠ S) (hlI : l ≠ I) : ∀ (rows : List (Addr × Array Value × Nat)) (i : Nat) (s : Shared) (t : Addr) (acc : Array Value) (n c : Nat),
    items.toList.drop i = rows.map (fun r => Value.ref r.1) → i ≤ items.size → s.heap.IsListIter I l i → s.heap.IsList l items → s.heap.get? S = some { cls := .type "list", dict := none, data := .seq #[.ref t] c, slots := #[] } →
    IsLs s.heap t acc n → (∀ r ∈ rows, IsLs s.heap r.1 r.2.1 r.2.2 ∧ r.1 ≠ S ∧ r.1 ≠ I) → t ≠ S → t ≠ I → I < s.heap.objs.size → acc.size + (flatR rows).size ≤ sizeLine →
    (∀ s' t' n', Moved [S, I] (fun a b => b = a) s s' → ((rows = [] ∧ t' = t) ∨ I < t') → IsLs s'.heap t' (acc ++ flatR rows) n' → R (.ok (.ret (.ref t'))) s') →
    codeAny (model prog w) A (.builtin "sum.loop" ⟨[.ref I, .ref S, rawInt 2, rawInt 0], []⟩) R s := by
  have W := (Walks.list (prog := prog) (w := w) (A := A.in1) hh I l hlI items).toS
  intro rows
  induction rows with
  | nil =>
    intro i s t acc n c hd hi hit hl hS ht hr htS htI hIl hz hR
    have hin : i = items.size := by
      have := congrArg List.length hd
      simp at this
      omega
    subst hin
    refine codeAny_builtin F.entry_sum_loop ?_
    rw [Around.under_plainId F.plain_sum_loop _]
    show wpAny _ A.in1 (seqItems? (.ref S) >>= _) _ _ s
    refine wpAny_bind (wpAny_seqItems hS rfl ?_)
    show wpAny _ A.in1 (tryCatch (pyNext (.ref I)) _ >>= _) _ _ s
    refine wpAny_bind (wpAny_tryCatch (W.done s _ _ ⟨hit, hl⟩ fun s' hm => ?_))
    refine wpAny_pure (hR s' t n ⟨fun b o hb e => hm.heap b o (fun z => hb (by simp at z; simp [z])) e, hm.gens, hm.drawn, hm.os, hm.toks⟩ (.inl ⟨rfl, rfl⟩) ?_)
    have e : acc ++ flatR [] = acc := by simp [flatR]
    rw [e]
    exact hm.heap t _ (by simpa using htI) ht
  | cons r rows ih =>
    intro i s t acc n c hd hi hit hl hS ht hr htS htI hIl hz hR
    have hlt : i < items.size := by
      have := congrArg List.length hd
      simp at this
      omega
    have hiv : items[i]? = some (.ref r.1) := by
      have := congrArg (fun l => l[0]?) hd
      simpa using this
    have hd2 : items.toList.drop (i + 1) = rows.map (fun r => Value.ref r.1) := by
      have := congrArg List.tail hd
      simpa using this
    refine codeAny_builtin F.entry_sum_loop ?_
    rw [Around.under_plainId F.plain_sum_loop _]
    show wpAny _ A.in1 (seqItems? (.ref S) >>= _) _ _ s
    refine wpAny_bind (wpAny_seqItems hS rfl ?_)
    show wpAny _ A.in1 (tryCatch (pyNext (.ref I)) _ >>= _) _ _ s
    refine wpAny_bind (wpAny_tryCatch (W.item i s _ _ hlt ⟨hit, hl⟩ fun v s' hP hst' hm => ?_))
    rw [hiv] at hP
    cases hP
    have keep : ∀ b o, b ≠ I → s.heap.get? b = some o → s'.heap.get? b = some o := fun b o hb e => hm.heap b o (by simpa using hb) e
    have hS' := keep S _ hIS hS
    have ht' := keep t _ htI ht
    obtain ⟨hr1, hr2, hr3⟩ := hr r List.mem_cons_self
    have hr1' := keep r.1 _ hr3 hr1
    rw [flatR_cons, Array.size_append] at hz
    show wpAny _ A.in1 ((holding [Value.ref r.1] (binaryOp .Add (.ref t) (.ref r.1))).attempt >>= _) _ _ _
    refine wpAny_bind (wpAny_attempt (wpAny_holding (PySem.P.add_list ht' hr1' ?_ (by omega))))
    have hS1 := Heap.get?_push_of_some { cls := .type "list", data := .seq (acc ++ r.2.1) } hS'
    show wpAny _ A.in1 (updateSeq S (fun _ => #[.ref s'.heap.objs.size]) >>= _) _ _ _
    refine wpAny_bind (wpAny_updateSeq hS1 rfl ?_)
    have hS₂ := Heap.get?_update_self (Obj.mapSeq fun _ => #[Value.ref s'.heap.objs.size]) hS1 rfl
    refine wpAny_bind (wpAny_letGo ?_)
    have hIl' : I < s'.heap.objs.size := by
      obtain ⟨o, ho, _⟩ := hst'.1
      exact Heap.lt_size ho
    have nS : s'.heap.objs.size ≠ S := Nat.ne_of_gt (Heap.lt_size hS')
    have old : ∀ b o, b ≠ S → s'.heap.get? b = some o → (((s'.heap.push { cls := .type "list", data := .seq (acc ++ r.2.1) }).update S (Obj.mapSeq fun _ => #[Value.ref s'.heap.objs.size])).update S (Obj.mapSeq fun _ => #[Value.ref s'.heap.objs.size])).get? b = some o := fun b o hb e =>
      (Heap.get?_update_other _ _ (Ne.symm hb)).trans ((Heap.get?_update_other _ _ (Ne.symm hb)).trans (Heap.get?_push_of_some _ e))
    have new : (((s'.heap.push { cls := .type "list", data := .seq (acc ++ r.2.1) }).update S (Obj.mapSeq fun _ => #[Value.ref s'.heap.objs.size])).update S (Obj.mapSeq fun _ => #[Value.ref s'.heap.objs.size])).get? s'.heap.objs.size = some { cls := .type "list", data := .seq (acc ++ r.2.1) } :=
      (Heap.get?_update_other _ _ (Ne.symm nS)).trans ((Heap.get?_update_other _ _ (Ne.symm nS)).trans (Heap.get?_push_size _ rfl))
    refine wpAny_bind (wpAny_updateSeq hS₂ rfl (wpAny_pure ⟨plainId_quiet F.plain_sum_loop _, ih (i + 1) _ s'.heap.objs.size (acc ++ r.2.1) 0 _ hd2 hlt (hst'.1.at fun o e => old I o (Ne.symm hIS) e) (hst'.2.at fun o e => old l o hlS e) (Heap.get?_update_self _ hS₂ rfl) new (fun r' hr' => ?_) nS ?_ ?_ ?_ fun s'' t'' n'' hm'' ht'' hl'' => ?_⟩))
    · obtain ⟨a, b, d⟩ := hr r' (List.mem_cons_of_mem _ hr')
      exact ⟨old _ _ b (keep _ _ d a), b, d⟩
    · exact Nat.ne_of_gt hIl'
    · obtain ⟨o, ho, _⟩ := hst'.1
      exact Heap.lt_size (old I o (Ne.symm hIS) ho)
    · rw [Array.size_append]
      omega
    · refine hR s'' t'' n'' ⟨fun b o hb e => ?_, ?_, ?_, ?_, ?_⟩ ?_ ?_
      · have hb' : b ≠ S ∧ b ≠ I := by simpa using hb
        exact hm''.heap b o hb (old b o hb'.1 (keep b o hb'.2 e))
      · exact hm''.gens.trans hm.gens
      · exact hm''.drawn.trans hm.drawn
      · exact hm''.os.trans hm.os
      · exact Nat.le_trans hm.toks hm''.toks
      · refine .inr ?_
        rcases ht'' with ⟨_, e⟩ | e
        · rw [e]; exact hIl'
        · exact e
      · have e : acc ++ flatR (r :: rows) = (acc ++ r.2.1) ++ flatR rows := by rw [flatR_cons, Array.append_assoc]
        rw [e]
        exact hl''
theorem call_sumL {E : Value → Shared → Prop} {Q : Value → Shared → Prop} {s : Shared} {l z : Addr} {items : Array Value} {rows : List (Addr × Array Value × Nat)} {n : Nat} (hh : A.handled = none) (hl : s.heap.IsList l items) (hz : IsLs s.heap z #[] n)
    (hd : items.toList = rows.map (fun r => Value.ref r.1)) (hr : ∀ r ∈ rows, IsLs s.heap r.1 r.2.1 r.2.2) (h1 : 0 < rows.length) (hs : (flatR rows).size ≤ sizeLine)
    (h : ∀ h' tk t' n', (∀ b o, s.heap.get? b = some o → h'.get? b = some o) → s.heap.objs.size < t' → IsLs h' t' (flatR rows) n' → Q (.ref t') { s with heap := h', toks := tk }) :
    wpAny (model prog w) A (call (.builtin "sum") [.ref l, .ref z]) Q E s := by
  refine call_function_tree F.kind_sum F.plain_sum F.entry_sum (by unfold argsOk; kernel_rfl) ?_
  unfold Builtin.«sum»
  simp only [List.length_cons, List.length_nil]
  rw [if_neg (by decide)]
  refine wpAny_bind (wpAny_of_eq (show Builtin.Builtins.bindParams "sum" ["start"] 0 ⟨[.ref z], []⟩ = pure [some (.ref z)] from rfl) ?_)
  have hne : l ≠ s.heap.objs.size := by
    obtain ⟨o, ho, _⟩ := hl
    exact Nat.ne_of_lt (Heap.lt_size ho)
  have hzl := Heap.lt_size hz
  refine wpAny_bind (wpAny_pyIter_list hl ?_)
  refine wpAny_bind (wpAny_pure ?_)
  have hz2 := Heap.get?_push_of_some { cls := .type "list_iterator", data := .fields #[.ref l, .int 0 0] } hz
  have ty : ∀ {s2 : Shared}, IsLs s2.heap z #[] n → s2.TypeIs (.ref z) "list" := fun q => ⟨_, q, rfl⟩
  simp only [List.forIn_cons, List.forIn_nil]
  refine wpAny_bind (wpAny_bind (wpAny_bind (wpAny_isInstance (T := "list") (b := false) (ty hz2) F.sub_list_str ?_)))
  simp only [Bool.false_eq_true, if_false]
  refine wpAny_pure (wpAny_bind (wpAny_bind (wpAny_isInstance (T := "list") (b := false) (ty hz2) F.sub_list_bytes ?_)))
  simp only [Bool.false_eq_true, if_false]
  refine wpAny_pure (wpAny_bind (wpAny_bind (wpAny_isInstance (T := "list") (b := false) (ty hz2) F.sub_list_bytearray ?_)))
  simp only [Bool.false_eq_true, if_false]
  refine wpAny_pure (wpAny_pure ?_)
  refine wpAny_bind (wpAny_newObj_type ?_)
  have k2 : ∀ b o, s.heap.get? b = some o → ((s.heap.push { cls := .type "list_iterator", data := .fields #[.ref l, .int 0 0] }).push { cls := .type "list", data := .seq #[.ref z] }).get? b = some o := fun b o e => Heap.get?_push_of_some _ (Heap.get?_push_of_some _ e)
  have sz1 : (s.heap.push { cls := .type "list_iterator", data := .fields #[.ref l, .int 0 0] }).objs.size = s.heap.objs.size + 1 := Heap.size_push _ _
  refine wpAny_pure ⟨plainId_quiet F.plain_sum_loop _, sumL_loop hh s.heap.objs.size _ l items (by show (s.heap.push _).objs.size ≠ _; rw [sz1]; exact Nat.succ_ne_self _) (by show l ≠ (s.heap.push _).objs.size; rw [sz1]; obtain ⟨o, ho, _⟩ := hl; exact Nat.ne_of_lt (Nat.lt_succ_of_lt (Heap.lt_size ho))) hne rows 0 _ z #[] n 0
    (by simpa using hd) (Nat.zero_le _) ⟨_, Heap.get?_push_of_some _ (Heap.get?_push_size _ rfl), rfl, rfl⟩ (hl.at fun o e => k2 l o e) (Heap.get?_push_size _ rfl) (k2 _ _ hz) (fun r hm => ?_) ?_ (Nat.ne_of_lt hzl) ?_ (by simpa using hs) fun s' t' n' hm ht hls => ?_⟩
  · refine ⟨k2 _ _ (hr r hm), ?_, Nat.ne_of_lt (Heap.lt_size (hr r hm))⟩
    show r.1 ≠ (s.heap.push _).objs.size
    rw [sz1]
    exact Nat.ne_of_lt (Nat.lt_succ_of_lt (Heap.lt_size (hr r hm)))
  · show z ≠ (s.heap.push _).objs.size
    rw [sz1]
    exact Nat.ne_of_lt (Nat.lt_succ_of_lt hzl)
  · show s.heap.objs.size < ((s.heap.push _).push _).objs.size
    rw [Heap.size_push, sz1]
    omega
  · have e0 : #[] ++ flatR rows = flatR rows := by simp
    rw [e0] at hls
    have hlt : s.heap.objs.size < t' := by
      rcases ht with ⟨e, _⟩ | e
      · rw [e] at h1
        exact absurd h1 (by simp)
      · exact e
    obtain ⟨h', g', d', tk', os'⟩ := s'
    have e1 : g' = s.gens := hm.gens
    have e2 : d' = s.drawn := hm.drawn
    have e3 : os' = s.os := hm.os
    subst e1 e2 e3
    refine h h' tk' t' n' (fun b o e => hm.heap b o (fun hb => ?_) (k2 b o e)) hlt hls
    have hb : b = (s.heap.push { cls := .type "list_iterator", data := .fields #[.ref l, .int 0 0] }).objs.size ∨ b = s.heap.objs.size := by simpa using hb
    have := Heap.lt_size e
    rcases hb with hb | hb
    · rw [hb, sz1] at this
      exact Nat.lt_irrefl _ (Nat.lt_of_succ_lt this)
    · rw [hb] at this
      exact Nat.lt_irrefl _ this
end
end DL
/-! T3: more of texts and lists over the layer. -/
namespace DL
open PySem L2 PyProof.Rows
/-! ### sum(xs, []) -/
def listsOf : List D → Option (List (List D))
  | [] => some []
  | .list ds :: r => (listsOf r).map (ds :: ·)
  | _ :: _ => none
theorem listsOf_map : ∀ ys : List (List D), listsOf (ys.map .list) = some ys
  | [] => rfl
  | y :: ys => by
    show (listsOf (ys.map .list)).map (y :: ·) = _
    rw [listsOf_map ys]
    rfl
def rSumL (K : PySem.W.Frag) : List V → Hp → VK → Prop := fun vs H Q => ∃ (l z : Addr) (rows : List (Addr × List V)), vs = [.ref l, .ref z] ∧ H l = some (.lst (rows.map fun r => .ref r.1)) ∧ H z = some (.lst []) ∧ (∀ r ∈ rows, H r.1 = some (.lst r.2)) ∧ 0 < rows.length ∧ ((rows.map (·.2)).flatten).length ≤ sizeLine ∧
  ∀ p, H p = none → Q (.ref p) (upd H p (.lst ((rows.map (·.2)).flatten)))
section
variable {X : Cx}
theorem rows_raw {pins : List (Addr × Obj)} {σ : L2.St} {H : Hp} {s : Shared} (I : Inv X pins σ H s) : ∀ (rows : List (Addr × List V)) (its : List Value), (∀ r ∈ rows, H r.1 = some (.lst r.2)) → Vals (rows.map fun r => .ref r.1) its →
    ∃ raw : List (Addr × Array Value × Nat), its = raw.map (fun r => Value.ref r.1) ∧ (∀ r ∈ raw, IsLs s.heap r.1 r.2.1 r.2.2) ∧ raw.length = rows.length ∧ Vals ((rows.map (·.2)).flatten) (flatR raw).toList
  | [], its, _, r => by
    cases r
    exact ⟨[], rfl, fun r h => absurd h (by simp), rfl, .nil⟩
  | r :: rows, its, h, rv => by
    cases rv with
    | cons r1 r2 =>
      rename_i u us
      obtain rfl : u = Value.ref r.1 := r1
      obtain ⟨raw, e1, e2, e3, e4⟩ := rows_raw I rows us (fun x hx => h x (List.mem_cons_of_mem _ hx)) r2
      obtain ⟨z, its, n, rr, hl, e⟩ := I.lstM (h r List.mem_cons_self)
      refine ⟨(r.1, its.toArray, n) :: raw, by rw [e1]; rfl, fun x hx => ?_, by simp [e3], ?_⟩
      · rcases List.mem_cons.mp hx with rfl | hx
        · exact e
        · exact e2 x hx
      · rw [flatR_cons]
        show Vals (r.2 ++ _) (its.toArray ++ flatR raw).toList
        rw [Array.toList_append]
        exact rr.append e4
theorem cr_sumL (hc : X.calm = true) : CallR X (.builtin "sum") (rSumL X.K) := by
  intro pins s σ H vs us Q I r h
  obtain ⟨l, z, rows, rfl, hl, hz, hr, h1, hs, q⟩ := h
  obtain ⟨u1, u2, rfl, r1, r2⟩ := vals2 r
  cases r1
  cases r2
  obtain ⟨_, its, n, rv, _, e⟩ := I.lstM hl
  obtain ⟨_, its2, n2, rv2, _, e2⟩ := I.lstM hz
  cases rv2
  obtain ⟨raw, e3, e4, e5, e6⟩ := rows_raw I rows its hr rv
  have hlen : (flatR raw).size ≤ sizeLine := by
    rw [← Array.length_toList, ← e6.length]
    exact hs
  refine call_sumL (I.ok.hd hc) ⟨_, e, rfl, n, rfl⟩ e2 (by simpa using e3) e4 (by rw [e5]; exact h1) hlen fun h' tk t' n' hk hlt hls => ?_
  exact ⟨.ref t', upd H t' (.lst ((rows.map (·.2)).flatten)), I.laid hk (Nat.le_of_lt hlt) ⟨hs, (flatR raw).toList, n', e6, by simpa using hls⟩, rfl, q t' (I.hok.fresh (Nat.le_of_lt hlt))⟩
def gSumL : List D → Option W
  | [.list rows, .list []] => (match listsOf rows with
    | some ls => if 0 < ls.length ∧ ls.flatten.length ≤ sizeLine then some (.frs ls.flatten) else none
    | none => none)
  | _ => none
theorem rps_lists {K : PySem.W.Frag} {A : List Addr} {H : Hp} : ∀ {vs : List V} {ds : List D} {ls : List (List D)}, Rps K (hid A H) vs ds → listsOf ds = some ls → ∃ rows : List (Addr × List V), vs = rows.map (fun r => V.ref r.1) ∧ (∀ r ∈ rows, H r.1 = some (.lst r.2)) ∧ rows.length = ls.length ∧ Rps K (hid A H) ((rows.map (·.2)).flatten) ls.flatten
  | _, [], _, h, e => by
    cases h
    cases e
    exact ⟨[], rfl, fun r h => absurd h (by simp), rfl, .nil⟩
  | _, .list ds :: r, ls, h, e => by
    cases h with
    | cons a b =>
      cases q : listsOf r with
      | none => simp [listsOf, q] at e
      | some zs =>
        have e : ls = ds :: zs := by simpa [listsOf, q] using e.symm
        subst e
        obtain ⟨p, xs, rfl, h1, h2⟩ := rp_lst a
        obtain ⟨rows, e1, e2, e3, e4⟩ := rps_lists b q
        refine ⟨(p, xs) :: rows, by rw [e1]; rfl, fun x hx => ?_, by simp [e3], h2.app e4⟩
        rcases List.mem_cons.mp hx with rfl | hx
        · exact h1
        · exact e2 x hx
  | _, .none :: _, _, _, e | _, .bool _ :: _, _, _, e | _, .int _ :: _, _, _, e | _, .str _ :: _, _, _, e | _, .tuple _ :: _, _, _, e | _, .dict _ :: _, _, _, e => by cases e
theorem cal_sumL {K : PySem.W.Frag} : CalR K (rSumL K) gSumL := fun A H xs ds w Q tr r q gw => by
  unfold gSumL at q
  split at q
  · rename_i rows
    cases q2 : listsOf rows with
    | none => rw [q2] at q; cases q
    | some ls =>
      rw [q2] at q
      dsimp only at q
      by_cases c : 0 < ls.length ∧ ls.flatten.length ≤ sizeLine
      · rw [if_pos c] at q
        cases q
        obtain ⟨v, u, rfl, h1, h2⟩ := rps_two r
        obtain ⟨l, vs, rfl, hl, s1⟩ := rp_lst h1
        obtain ⟨z, us, rfl, hz, s2⟩ := rp_lst h2
        cases s2
        obtain ⟨rs, e1, e2, e3, e4⟩ := rps_lists s1 q2
        subst e1
        exact ⟨l, z, rs, rfl, hl, hz, e2, by rw [e3]; exact c.1, by rw [e4.length]; exact c.2, give_lst e4 gw⟩
      · rw [if_neg c] at q; cases q
  · cases q
/-! ### max(xs) -/
def maxI : List Int → Int
  | [] => 0
  | [x] => x
  | x :: r => max x (maxI r)
theorem maxI_mem : ∀ {l : List Int}, l ≠ [] → maxI l ∈ l
  | [], h => absurd rfl h
  | [x], _ => by simp [maxI]
  | x :: y :: r, _ => by
    have ih := maxI_mem (l := y :: r) (by simp)
    show max x (maxI (y :: r)) ∈ _
    rcases Int.le_total x (maxI (y :: r)) with h | h
    · rw [Int.max_eq_right h]; exact List.mem_cons_of_mem _ ih
    · rw [Int.max_eq_left h]; exact List.mem_cons_self
theorem le_maxI : ∀ {l : List Int} {x : Int}, x ∈ l → x ≤ maxI l
  | [], _, h => absurd h (by simp)
  | [y], x, h => by
    rw [List.mem_singleton.mp h]
    exact Int.le_refl _
  | y :: z :: r, x, h => by
    show x ≤ max y (maxI (z :: r))
    rcases List.mem_cons.mp h with rfl | h
    · exact Int.le_max_left _ _
    · exact Int.le_trans (le_maxI h) (Int.le_max_right _ _)
def gMaxL : List D → Option W
  | [.list ds] => (match intsOf ds with
    | some ns => if 0 < ns.length then some (.pu (.int (maxI ns))) else none
    | none => none)
  | _ => none
theorem cal_maxL {K : PySem.W.Frag} : CalR K (rMax K) gMaxL := fun A H xs ds w Q tr r q gw => by
  unfold gMaxL at q
  split at q
  · rename_i ds
    cases e : intsOf ds with
    | none => rw [e] at q; cases q
    | some ns =>
      rw [e] at q
      dsimp only at q
      by_cases c : 0 < ns.length
      · rw [if_pos c] at q
        cases q
        obtain ⟨v, rfl, h⟩ := rps_one r
        obtain ⟨p, ys, rfl, h1, s1⟩ := rp_lst h
        rw [rps_ints s1 e] at h1
        refine ⟨p, ns, rfl, .inl (.inl h1), c, fun m hm hle => ?_⟩
        have e2 : m = maxI ns := Int.le_antisymm (le_maxI hm) (hle _ (maxI_mem fun z => by rw [z] at c; exact absurd c (by simp)))
        rw [e2]
        exact give_pu (.int _) gw
      · rw [if_neg c] at q; cases q
  · cases q
end
/-! ### texts -/
def strRep (x : Str) (n : Int) : Str := if n < 1 then Str.empty else if (n == 1 || x.length == 0) = true then x else ⟨(List.replicate n.toNat x.cps).foldl (· ++ ·) #[]⟩
def gMulS : D → D → Option W
  | .str x, .int n => if -(2 ^ 31) ≤ n ∧ n < 2 ^ 31 ∧ x.length ≤ 1 ∧ x.length * n.toNat ≤ sizeLine then some (.pu (.str (strRep x n))) else none
  | _, _ => none
def rMulS : R2 := fun x y H Q => ∃ z n, x = .str z ∧ y = .int n ∧ -(2 ^ 31) ≤ n ∧ n < 2 ^ 31 ∧ z.length ≤ 1 ∧ z.length * n.toNat ≤ sizeLine ∧ Q (.str (strRep z n)) H
theorem fold_size : ∀ (l : List (Array Nat)) (a : Array Nat), (l.foldl (· ++ ·) a).size = a.size + (l.map (·.size)).sum
  | [], a => by simp
  | b :: l, a => by
    rw [List.foldl_cons, fold_size l, Array.size_append, List.map_cons, List.sum_cons]
    omega
theorem sum_rep (n m : Nat) : (List.replicate n m).sum = n * m := by
  induction n with
  | zero => simp
  | succ n ih => rw [List.replicate_succ, List.sum_cons, ih, Nat.succ_mul]; omega
theorem strRep_len (x : Str) (n : Int) : (strRep x n).length = x.length * n.toNat := by
  unfold strRep
  by_cases h1 : n < 1
  · rw [if_pos h1]
    have : n.toNat = 0 := by omega
    rw [this]; rfl
  · rw [if_neg h1]
    by_cases h2 : (n == 1 || x.length == 0) = true
    · rw [if_pos h2]
      simp only [Bool.or_eq_true, beq_iff_eq] at h2
      rcases h2 with h2 | h2
      · rw [h2]; simp
      · rw [h2]; simp
    · rw [if_neg h2]
      show ((List.replicate n.toNat x.cps).foldl (· ++ ·) #[]).size = _
      rw [fold_size, List.map_replicate, sum_rep]
      show 0 + n.toNat * x.length = _
      rw [Nat.zero_add, Nat.mul_comm]
section
variable {X : Cx} {E : XK} {a b e : Expr} {fa fb : Env → RE} {fr : Env → RL} {p p2 pos apos : Pos} {k : Nat}
theorem op_mulS : OpR X (binaryOp .Mult) rMulS := by
  intro pins s σ H x y v u Q I rx ry h
  obtain ⟨z, n, rfl, rfl, h1, h2, h3, h4, q⟩ := h
  obtain ⟨t, rfl⟩ := rx
  obtain ⟨t2, rfl⟩ := ry
  have hlen := strRep_len z n
  refine PySem.P.mul_str ?_ (fun hn _ => ?_) (fun hn _ => ?_) ?_
  · have a1 : ¬ n < -(2 ^ 63 : Int) := by omega
    have a2 : ¬ n ≥ 2 ^ 63 := by omega
    rw [decide_eq_false a1, decide_eq_false a2]; rfl
  · have : (1 : Int) ≤ (2 ^ 63 - 1) / n := by
      have hn' : 0 < n := by omega
      exact (Int.le_ediv_iff_mul_le hn').mpr (by omega)
    have : (z.length : Int) ≤ 1 := by omega
    omega
  · unfold Builtin.Str.tooLong
    exact decide_eq_false (by omega)
  · have fin : ∀ (t' : Tok) (k : Nat), EP X pins σ Q (.str (strRep z n) t') { s with toks := k } := fun t' k => ⟨.str (strRep z n), H, I.tok k, ⟨t', rfl⟩, q⟩
    unfold strRep at fin hlen
    by_cases c1 : n < 1
    · rw [if_pos c1] at fin ⊢
      exact ⟨by decide, fin _ _⟩
    · rw [if_neg c1] at fin hlen ⊢
      by_cases c2 : (n == 1 || z.length == 0) = true
      · rw [if_pos c2] at fin ⊢
        exact fin t s.toks
      · rw [if_neg c2] at fin hlen ⊢
        refine ⟨?_, fin _ _⟩
        show Str.length _ ≤ sizeLine
        rw [hlen]
        exact h4
theorem op2_mulS : Op2R X.K rMulS gMulS := fun A H x y d1 d2 w Q tr r1 r2 q gw => by
  unfold gMulS at q
  split at q
  · rename_i x n
    by_cases c : -(2 ^ 31) ≤ n ∧ n < 2 ^ 31 ∧ x.length ≤ 1 ∧ x.length * n.toNat ≤ sizeLine
    · rw [if_pos c] at q
      cases q
      exact ⟨x, n, rp_str r1, rp_int r2, c.1, c.2.1, c.2.2.1, c.2.2.2, give_pu (.str _) gw⟩
    · rw [if_neg c] at q; cases q
  · cases q
theorem d_mulS (ha : DE X E a fa) (hb : DE X E b fb) : DE X E (.BinOp a .Mult b pos) (fOp2 gMulS fa fb) := de_bin op_mulS op2_mulS ha hb
/-- c in text, one sign -/
def gInS : D → D → Option W
  | .str x, .str z => (match x.cps.toList with
    | [c] => some (.pu (.bool (decide (c ∈ z.cps.toList))))
    | _ => none)
  | _, _ => none
def gNotInS : D → D → Option W
  | .str x, .str z => (match x.cps.toList with
    | [c] => some (.pu (.bool (!decide (c ∈ z.cps.toList))))
    | _ => none)
  | _, _ => none
theorem one_sign {x : Str} {c : Nat} (h : x.cps.toList = [c]) : x = ⟨#[c]⟩ := by
  obtain ⟨⟨l⟩⟩ := x
  simp at h
  rw [h]
theorem op2_notInS : Op2R X.K (fun x y H Q => ∃ (c : Nat) (z : Str), x = .str ⟨#[c]⟩ ∧ y = .str z ∧ Q (.bl (!decide (c ∈ z.cps.toList))) H) gNotInS := fun A H x y d1 d2 w Q tr r1 r2 q gw => by
  unfold gNotInS at q
  split at q
  · rename_i x z
    split at q
    · rename_i c hc
      cases q
      exact ⟨c, z, by rw [rp_str r1, one_sign hc], rp_str r2, give_pu (.bl _) gw⟩
    · cases q
  · cases q
theorem t_notInS (ha : DE X E a fa) (hb : DE X E b fb) (hm : behindInMarks .NotIn b = false := by rfl) : DT X E (.Compare a [.NotIn] [b] pos) (fOp2 gNotInS fa fb) := dt_cmp op_notIn_sign op2_notInS ha hb hm
/-- x in list, data -/
def gInD : D → D → Option W
  | d, .list ds => if SeqAt.shaped d && SeqAt.shaped (.list ds) then some (.pu (.bool (ds.any fun z => PyData.eqv z d))) else none
  | _, _ => none
def gNotInD : D → D → Option W
  | d, .list ds => if SeqAt.shaped d && SeqAt.shaped (.list ds) then some (.pu (.bool (!ds.any fun z => PyData.eqv z d))) else none
  | _, _ => none
theorem op2_inD : Op2R X.K (rInD X.K) gInD := fun A H x y d1 d2 w Q tr r1 r2 q gw => by
  unfold gInD at q
  split at q
  · rename_i ds
    by_cases c : (SeqAt.shaped d1 && SeqAt.shaped (.list ds)) = true
    · rw [if_pos c] at q
      cases q
      have c2 := Bool.and_eq_true_iff.mp c
      exact ⟨d1, ds, (r1.ext hid_ext).dp (SeqAt.canLay_of_shaped c2.1), (r2.ext hid_ext).dp (SeqAt.canLay_of_shaped c2.2), c2.1, c2.2, give_pu (.bl _) gw⟩
    · rw [if_neg c] at q; cases q
  · cases q
theorem op2_notInD : Op2R X.K (rNotInD X.K) gNotInD := fun A H x y d1 d2 w Q tr r1 r2 q gw => by
  unfold gNotInD at q
  split at q
  · rename_i ds
    by_cases c : (SeqAt.shaped d1 && SeqAt.shaped (.list ds)) = true
    · rw [if_pos c] at q
      cases q
      have c2 := Bool.and_eq_true_iff.mp c
      exact ⟨d1, ds, (r1.ext hid_ext).dp (SeqAt.canLay_of_shaped c2.1), (r2.ext hid_ext).dp (SeqAt.canLay_of_shaped c2.2), c2.1, c2.2, give_pu (.bl _) gw⟩
    · rw [if_neg c] at q; cases q
  · cases q
theorem d_inD (c : Cn X E k) (ha : DE X E a fa) (hb : DE X E b fb) (hm : behindInMarks .In b = false := by rfl) : DE X E (.Compare a [.In] [b] pos) (fOp2 gInD fa fb) := de_cmp (op_inD (by have := c.rm.un; omega)) op2_inD ha hb hm
theorem d_notInD (c : Cn X E k) (ha : DE X E a fa) (hb : DE X E b fb) (hm : behindInMarks .NotIn b = false := by rfl) : DE X E (.Compare a [.NotIn] [b] pos) (fOp2 gNotInD fa fb) := de_cmp (op_notInD (by have := c.rm.un; omega)) op2_notInD ha hb hm
theorem t_inD (c : Cn X E k) (ha : DE X E a fa) (hb : DE X E b fb) (hm : behindInMarks .In b = false := by rfl) : DT X E (.Compare a [.In] [b] pos) (fOp2 gInD fa fb) := dt_cmp (op_inD (by have := c.rm.un; omega)) op2_inD ha hb hm
theorem t_notInD (c : Cn X E k) (ha : DE X E a fa) (hb : DE X E b fb) (hm : behindInMarks .NotIn b = false := by rfl) : DT X E (.Compare a [.NotIn] [b] pos) (fOp2 gNotInD fa fb) := dt_cmp (op_notInD (by have := c.rm.un; omega)) op2_notInD ha hb hm
/-- cuts of texts -/
def gCutSH : D → D → Option W
  | .str z, .int h => if z.length ≤ sizeLine then some (.pu (.str (cutS z none (some h)))) else none
  | _, _ => none
def gCutSL : D → D → Option W
  | .str z, .int l => if z.length ≤ sizeLine then some (.pu (.str (cutS z (some l) none))) else none
  | _, _ => none
theorem op2_cutSH : Op2R X.K (fun x y H Q => ∃ h, y = .int h ∧ rSlS x none (some h) H Q) gCutSH := fun A H x y d1 d2 w Q tr r1 r2 q gw => by
  unfold gCutSH at q
  split at q
  · rename_i z h
    by_cases c : z.length ≤ sizeLine
    · rw [if_pos c] at q
      cases q
      exact ⟨h, rp_int r2, z, rp_str r1, c, give_pu (.str _) gw⟩
    · rw [if_neg c] at q; cases q
  · cases q
theorem op2_cutSL : Op2R X.K (fun x y H Q => ∃ h, y = .int h ∧ rSlS x (some h) none H Q) gCutSL := fun A H x y d1 d2 w Q tr r1 r2 q gw => by
  unfold gCutSL at q
  split at q
  · rename_i z h
    by_cases c : z.length ≤ sizeLine
    · rw [if_pos c] at q
      cases q
      exact ⟨h, rp_int r2, z, rp_str r1, c, give_pu (.str _) gw⟩
    · rw [if_neg c] at q; cases q
  · cases q
theorem de_cutSH (ha : DE X E a fa) (hb : DE X E b fb) : DE X E (.Subscript a (.Slice none (some b) none p2) pos) (fOp2 gCutSH fa fb) :=
  ⟨PE.weak (pe_slice sl_str ha.pe po_none (po_some hb.pe)) fun _ _ _ h => op2_of op2_cutSH h⟩
theorem de_cutSL (ha : DE X E a fa) (hb : DE X E b fb) : DE X E (.Subscript a (.Slice (some b) none none p2) pos) (fOp2 gCutSL fa fb) :=
  ⟨PE.weak (pe_slice sl_str ha.pe (po_some hb.pe) po_none) fun σ H Q h => op2_of op2_cutSL h⟩
/-- a written bound below nought -/
theorem po_m {i : Int} {j} {p1 p2 : Pos} : PO X (some (.UnaryOp .USub (.Constant (.int i) j p1) p2)) (fun _ H Q => Q (some (-i)) H) := by
  refine ⟨fun pins s σ H Q I h => (po_some (pe_un un_neg (pe_int (i := i)))).run pins s σ H Q I ⟨i, rfl, -i, rfl, h⟩⟩
/-- for c in text -/
def itemsS : D → Option (List D)
  | .str x => some (x.cps.toList.map fun c => .str ⟨#[c]⟩)
  | _ => none
theorem walks_str {K : PySem.W.Frag} {A0 : List Addr} {x : Str} {H : Hp} {P : List Addr} : Walks K A0 (Its x) (x.cps.toList.map fun c => .str ⟨#[c]⟩) H P := fun A1 i H2 P2 hA t => by
  refine ⟨fun d e => ?_, fun e => ?_⟩
  · rw [List.getElem?_map] at e
    cases q : x.cps.toList[i]? with
    | none => rw [q] at e; cases e
    | some c =>
      rw [q] at e
      cases e
      have q2 : x.cps[i]? = some c := by rw [← Array.getElem?_toList]; exact q
      refine ⟨?_, fun y H3 z => ?_⟩
      · show i < x.cps.size
        rw [← Array.length_toList]
        exact (List.getElem?_eq_some_iff.mp q).1
      · obtain ⟨rfl, c', e1, rfl⟩ := z
        rw [q2] at e1
        cases e1
        exact ⟨Ext.rfl _, fun _ => .str _⟩
  · show x.cps.size ≤ i
    rw [List.length_map, Array.length_toList] at e
    exact e
theorem di_str {tg : Expr} (ha : DE X E a fa) : DI X E tg a (srcE fa itemsS) := by
  refine ⟨PI.weak (pi_str ha.pe) fun σ H R h => srcE_of h fun v H' τ A0 P' ρ' d items S r q k => ?_⟩
  cases d with
  | str x =>
    cases q
    exact ⟨x, rp_str r, k _ _ (Ext.rfl _) walks_str⟩
  | _ => cases q
/-- int(text) -/
def gIntS : List D → Option W
  | [.str x] => (match PySem.intText? x with
    | some n => if x.length ≤ 640 then some (.pu (.int n)) else none
    | none => none)
  | _ => none
theorem cal_intS {K : PySem.W.Frag} : CalR K (fun xs H Q => ∃ a n, xs = [.str a] ∧ PySem.intText? a = some n ∧ a.length ≤ 640 ∧ Q (.int n) H) gIntS := fun A H xs ds w Q tr r q gw => by
  unfold gIntS at q
  split at q
  · rename_i x
    cases q2 : PySem.intText? x with
    | none => rw [q2] at q; cases q
    | some n =>
      rw [q2] at q
      dsimp only at q
      by_cases c : x.length ≤ 640
      · rw [if_pos c] at q
        cases q
        obtain ⟨v, rfl, h⟩ := rps_one r
        rw [rp_str h]
        exact ⟨x, n, rfl, q2, c, give_pu (.int _) gw⟩
      · rw [if_neg c] at q; cases q
  · cases q
theorem d_intS (B : Bl X.mg) (ha : DA X E [e] fr) (hg : Gl X "int" := by rfl) (he : starEach [e] X.env = (false, eval e X.env) :: starEach [] X.env := by rfl) : DE X E (.Call (.Name "int" p) [e] [] pos) (bndA fr gIntS) := de_callTy call_int_str cal_intS hg B.int bt_int ha (by decide) (by decide) he
theorem d_str (B : Bl X.mg) (ha : DA X E [e] fr) (hg : Gl X "str" := by rfl) (he : starEach [e] X.env = (false, eval e X.env) :: starEach [] X.env := by rfl) : DE X E (.Call (.Name "str" p) [e] [] pos) (bndA fr gStr1) := de_callTy call_str_int cal_str hg B.str bt_str ha (by decide) (by decide) he
theorem d_maxL (c : Cn X E k) (B : Bl X.mg) (ha : DA X E [e] fr) (hg : Gl X "max" := by rfl) (he : starEach [e] X.env = (false, eval e X.env) :: starEach [] X.env := by rfl) : DE X E (.Call (.Name "max" p) [e] [] pos) (bndA fr gMaxL) := de_callB (cr_max c.cm) cal_maxL hg B.max bt_max ha (by decide) (by decide) he
theorem d_sumL (c : Cn X E k) (B : Bl X.mg) (ha : DA X E [a, b] fr) (hg : Gl X "sum" := by rfl) (he : starEach [a, b] X.env = (false, eval a X.env) :: starEach [b] X.env := by rfl) (hpl : (backTo pos (starEach [b] X.env)).any (·.1) = false := by rfl) : DE X E (.Call (.Name "sum" p) [a, b] [] pos) (bndA fr gSumL) := de_callB (cr_sumL c.cm) cal_sumL hg B.sum bt_sum ha (by decide) (by decide) he hpl
end
end DL
/-! T4: an own list's pop(i) and its test; count of data; replace of written texts, one token out. -/
namespace DL
open PySem L2 PyProof.Rows
theorem Rps.eraseIdx {K : PySem.W.Frag} {H : Hp} : ∀ {vs : List V} {ds : List D} (i : Nat), Rps K H vs ds → Rps K H (vs.eraseIdx i) (ds.eraseIdx i)
  | _, _, _, .nil => .nil
  | _, _, 0, .cons _ r => r
  | _, _, i + 1, .cons h r => .cons h (Rps.eraseIdx i r)
/-- x.pop(e), x an own list -/
def fPop (i : Nat) (fb : Env → RE) : Env → RE := fun ρ => match ρ[i]? with
  | some (some (.own _ _)) => (match fb ρ with
    | .ok w ρ1 => (match ρ1[i]?, w.d with
      | some (some (.own t ds)), .int j => if -(2 ^ 63) ≤ j ∧ j < 2 ^ 63 then (match seqIndex? j ds.length with
        | some k => (match ds[k]? with
          | some d => .ok (.pu d) (ρ1.set i (some (.own t (ds.eraseIdx k))))
          | none => .st)
        | none => .st) else .st
      | _, _ => .st)
    | .err c d => .err c d
    | .st => .st)
  | _ => .st
/-- x != [], x an own list that stays so -/
def fNeNilO (i : Nat) : Env → RE := fun ρ => match ρ[i]? with
  | some (some (.own _ ds)) => if SeqAt.shaped (.list ds) then .ok (.pu (.bool (!PyData.eqv (.list ds) (.list [])))) ρ else .st
  | _ => .st
section
variable {X : Cx} {E : XK} {e a b : Expr} {fa fb : Env → RE} {i m : Nat} {apos pos p p2 : Pos}
theorem de_pop (h0 : PE X a (tVar i)) (hb : DE X E b fb) (hbase : attributeBase a "pop" X.env (eval a X.env) = eval a X.env := by rfl) (hs : starEach [b] X.env = (false, eval b X.env) :: starEach [] X.env := by rfl) (hline : (apos.endLine == pos.line) = true := by rfl)
    (hfew : ((backTo pos (starEach [b] X.env)).all (fun x => !x.1) && (backToKw pos (keywordEach [] X.env)).all (fun x => x.1.isSome)
      && decide ([b].length + ([] : List Keyword).length + (if ([] : List Keyword).isEmpty then 0 else 1) < 30)) = true := by rfl) (hpl : (backTo pos (starEach [] X.env)).any (·.1) = false := by rfl) :
    DE X E (.Call (.Attribute a "pop" apos) [b] [] pos) (fPop i fb) := by
  refine ⟨PE.weak (pe_bm PySem.F.plainAttrs_list PySem.F.slot_list_pop PySem.F.type_list_pop mt_popAt h0 (pa_cons hb.pe pa_nil hs) hbase hfew hline hs hpl) fun σ H Q ⟨τ, A0, P, ρ, S, c⟩ => ?_⟩
  unfold fPop at c
  split at c
  · rename_i t0 ds0 q0
    obtain ⟨q, xs, b1, b2, b3, b4, b5⟩ := S.own i t0 ds0 q0
    refine ⟨.ref q, b1, .inl ⟨rfl, xs, .inl (.inl b3)⟩, τ, A0, P, ρ, S, CDE.toD ?_⟩
    cases q1 : fb ρ with
    | err cc d => rw [q1] at c; exact c
    | st => rw [q1] at c; exact c
    | ok w ρ1 =>
      rw [q1] at c
      dsimp only at c
      intro v H1 P1 t1 S1 r1
      split at c
      · rename_i t ds j q2 q3
        by_cases hj : -(2 ^ 63) ≤ j ∧ j < 2 ^ 63
        rotate_left
        · rw [if_neg hj] at c; exact c.elim
        rw [if_pos hj] at c
        rw [q3] at r1
        obtain ⟨q', ys, d1, d2, d3, d4, d5⟩ := S1.own i t ds q2
        rw [b1] at d1
        cases d1
        cases q4 : seqIndex? j ds.length with
        | none => rw [q4] at c; exact c.elim
        | some k =>
          rw [q4] at c
          dsimp only at c
          cases q5 : ds[k]? with
          | none => rw [q5] at c; exact c.elim
          | some d =>
            rw [q5] at c
            obtain ⟨u, h2, h3⟩ := d4.get q5
            obtain ⟨S2, hp⟩ := S1.chg q2 b1 (d4.eraseIdx k)
            refine ⟨q, ys, j, k, u, rfl, by rw [rp_int r1], d3, hj.1, hj.2, by rw [d4.length]; exact q4, h2, ?_⟩
            refine c u _ P1 (t1.trans (stp_own hp d3)) S2 ?_
            rw [hid_upd_in (List.mem_append_left _ hp)]
            exact h3
      · exact c.elim
  · exact c.elim
theorem t_neNilO (c : Cn X E m) (h0 : PE X a (tVar i)) : DT X E (.Compare a [.NotEq] [.List [] p2] pos) (fNeNilO i) := by
  refine ⟨PT.weak (pt_cmpR (op_neD c.rm.units) h0 (pe_lst pa_nil) (nomark _)) fun σ H Q ⟨τ, A0, P, ρ, S, c⟩ => ?_⟩
  unfold fNeNilO at c
  split at c
  · rename_i t ds q
    obtain ⟨p, xs, hσ, b2, b3, b4, b5⟩ := S.own i t ds q
    by_cases hs : SeqAt.shaped (.list ds) = true
    rotate_left
    · rw [if_neg hs] at c; exact c.elim
    rw [if_pos hs] at c
    refine ⟨.ref p, hσ, by show 0 ≤ sizeLine; exact Nat.zero_le _, fun z hz => ?_⟩
    have ex : Ext H (upd H z (.lst [])) := Evl.Ex.new hz
    have r0 : Rp X.K H (.ref p) (.list ds) := .lst b3 (b4.ext hid_ext)
    refine ⟨.list ds, .list [], (r0.ext ex).dp (SeqAt.canLay_of_shaped hs), .lst (.inl (.inl upd_same)) .nil, hs, by decide, ?_⟩
    obtain ⟨k, e, q⟩ := c (.bl (!PyData.eqv (.list ds) (.list []))) _ P (Stp.ext ex) (S.grow ex.gr) (.bl _)
    exact ⟨k, e, q⟩
  · exact c.elim
end
/-! ### list.count of data -/
def rCntD (K : PySem.W.Frag) : V → List V → Hp → VK → Prop := fun x xs H Q => ∃ (p : Addr) (y : V) (d : D) (ds : List D), x = .ref p ∧ xs = [y] ∧ Dp K H (.ref p) (.list ds) ∧ (∃ ys, H p = some (.lst ys)) ∧ Dp K H y d ∧ SeqAt.shaped (.list ds) = true ∧ SeqAt.shaped d = true ∧ PyData.plainAll ds = true ∧ d.plain = true ∧
  Q (.int ((ds.countP fun z => PyData.eqv z d : Nat) : Int)) H
def gCntD : D → D → Option W
  | .list ds, d => if SeqAt.shaped (.list ds) && SeqAt.shaped d && PyData.plainAll ds && d.plain then some (.pu (.int ((ds.countP fun z => PyData.eqv z d : Nat) : Int))) else none
  | _, _ => none
section
variable {X : Cx} {E : XK} {e a b : Expr} {fa fb : Env → RE} {i m : Nat} {apos pos p p2 : Pos}
theorem shaped_depth {d : D} (h : SeqAt.shaped d = true) : d.depth ≤ 64 := by
  unfold SeqAt.shaped at h
  simp only [Bool.and_eq_true, decide_eq_true_eq] at h
  exact Nat.le_trans h.2 (by decide)
theorem mt_cntD (hu : X.A.units + 66 < cLine) : MtR X "list.count" (rCntD X.K) := by
  intro pins s σ H x xs v us Q I rx rxs h
  obtain ⟨p, y, d, ds, rfl, rfl, h1, ⟨ys, h2⟩, h3, s1, s2, p1, p2, q⟩ := h
  cases rx
  obtain ⟨u, rfl, ru⟩ := Vals.one rxs
  obtain ⟨_, its, n, rv, ho⟩ := I.hok p _ h2
  obtain ⟨as, r1⟩ := Dp.reads I (.list ds) (.ref p) (.ref p) h1 rfl
  obtain ⟨bs, r2⟩ := Dp.reads I d y u h3 ru
  cases r1 with
  | list e hc hd rr =>
    rename_i l c vs n2 as2
    rw [ho] at e
    cases e
    cases hd
    refine SeqAt.count_list_data (d := d) (xs := ds) (vs := its.toArray) ⟨_, ho, rfl, n, rfl⟩ (by simpa using rr) r2 p1 p2 ?_ ?_
    · have := shaped_depth s2
      omega
    · exact ⟨.int _, H, I.tok _, ⟨s.toks, rfl⟩, q⟩
/-- a method of a list, one argument -/
def fL1 (g : D → D → Option W) (fa fb : Env → RE) : Env → RE := bndE fa fun d1 => match d1 with
  | .list ds => bndE fb fun d2 => resW (g (.list ds) d2)
  | _ => fun _ => .st
theorem l1_of {K : PySem.W.Frag} {σ : L2.St} {H : Hp} {Q : VK} {r : V → List V → Hp → VK → Prop} {g : D → D → Option W} (hr : Op2R K (fun x y H Q => r x [y] H Q) g) (h : tDE K E (fL1 g fa fb) σ H Q) : tBM K "list" r (tDE K E fa) (tCons (tDE K E fb) tNil) σ H Q := by
  refine tde_bnd h fun v1 H1 τ A0 P1 ρ1 d1 S1 r1 c1 => ?_
  cases d1 with
  | list ds =>
    obtain ⟨p, xs, rfl, h1, rr⟩ := rp_lst r1
    refine ⟨tyL h1, τ, A0, P1, ρ1, S1, ?_⟩
    have c2 := CDE.bnd c1
    revert c2
    have fin : ∀ {v2 H2 P2 ρ2 d2}, Stp K H1 P1 H2 P2 → SRep K τ A0 H2 σ ρ2 P2 → Rp K (hid (P2 ++ A0) H2) v2 d2 → CDE K E τ A0 H2 P2 σ (resW (g (.list ds) d2) ρ2) Q → r (.ref p) [v2] H2 Q := fun {v2 H2 P2 ρ2 d2} t S2 r2 z => by
      unfold resW at z
      cases q : g (.list ds) d2 with
      | some w =>
        rw [q] at z
        exact hr (P2 ++ A0) H2 (.ref p) v2 (.list ds) d2 w Q S2.tr (r1.stp t) r2 q (giveW S2 z)
      | none =>
        rw [q] at z
        exact z.elim
    cases q : fb ρ1 with
    | ok w ρ' =>
      cases w with
      | pu d => exact fun c2 v H' P' t S' r => let ⟨P2, ρ2, d2, t2, S2, r2, z⟩ := c2 v H' P' t S' r; fin t2 S2 r2 z
      | frs ds => exact fun c2 p xs H' P' t hn n1 n2 S' hl hr => let ⟨P2, ρ2, d2, t2, S2, r2, z⟩ := c2 p xs H' P' t hn n1 n2 S' hl hr; fin t2 S2 r2 z
    | err c d => exact fun c2 => c2
    | st => exact fun c2 => c2
  | _ => exact c1.elim
theorem op2_cntD {K : PySem.W.Frag} : Op2R K (fun x y H Q => rCntD K x [y] H Q) gCntD := fun A H x y d1 d2 w Q tr r1 r2 q gw => by
  unfold gCntD at q
  split at q
  · rename_i ds
    by_cases c : (SeqAt.shaped (.list ds) && SeqAt.shaped d2 && PyData.plainAll ds && d2.plain) = true
    · rw [if_pos c] at q
      cases q
      simp only [Bool.and_eq_true] at c
      obtain ⟨⟨⟨c1, c2⟩, c3⟩, c4⟩ := c
      obtain ⟨p, xs, rfl, h1, rr⟩ := rp_lst r1
      exact ⟨p, y, d2, ds, rfl, rfl, (r1.ext hid_ext).dp (SeqAt.canLay_of_shaped c1), ⟨xs, h1⟩, (r2.ext hid_ext).dp (SeqAt.canLay_of_shaped c2), c1, c2, c3, c4, give_pu (.int _) gw⟩
    · rw [if_neg c] at q; cases q
  · cases q
theorem de_cntD (c : Cn X E m) (ha : DE X E a fa) (hb : DE X E b fb) (hbase : attributeBase a "count" X.env (eval a X.env) = eval a X.env := by rfl) (hs : starEach [b] X.env = (false, eval b X.env) :: starEach [] X.env := by rfl) (hline : (apos.endLine == pos.line) = true := by rfl)
    (hfew : ((backTo pos (starEach [b] X.env)).all (fun x => !x.1) && (backToKw pos (keywordEach [] X.env)).all (fun x => x.1.isSome)
      && decide ([b].length + ([] : List Keyword).length + (if ([] : List Keyword).isEmpty then 0 else 1) < 30)) = true := by rfl) (hpl : (backTo pos (starEach [] X.env)).any (·.1) = false := by rfl) :
    DE X E (.Call (.Attribute a "count" apos) [b] [] pos) (fL1 gCntD fa fb) := by
  have un := c.rm.un
  exact ⟨PE.weak (pe_bm PySem.F.plainAttrs_list PySem.F.slot_list_count PySem.F.type_list_count (mt_cntD (by omega)) ha.pe (pa_cons hb.pe pa_nil hs) hbase hfew hline hs hpl) fun σ H Q h => l1_of op2_cntD h⟩
end
/-! ### one token out -/
structure DET (X : Cx) (E : XK) (e : Expr) (f : Env → RE) : Prop where
  pe : PET X e (tDE X.K E f)
structure DAT (X : Cx) (E : XK) (es : List Expr) (f : Env → RL) : Prop where
  pa : PAT X es (tDA X.K E f)
structure DST (X : Cx) (E : XK) (s : Stmt) (f : Env → RS) : Prop where
  ps : PST X s (tDS X.K E f)
structure DSsT (X : Cx) (E : XK) (s : List Stmt) (f : Env → RS) : Prop where
  pss : PSsT X s (tDS X.K E f)
def gRepl (y z : Str) : D → Option W
  | .str x => if x.length + (x.length + 1) * z.length ≤ 16777216 then some (.pu (.str (Txt.replace x y z))) else none
  | _ => none
section
variable {X : Cx} {E : XK} {e a b o : Expr} {es : List Expr} {fa fb fe : Env → RE} {fr : Env → RL} {st : Stmt} {rest : List Stmt} {f g : Env → RS} {i m : Nat} {apos pos p p2 : Pos}
theorem DET.of (h : DE X E e fa) : DET X E e fa := ⟨CwR.PET.of h.pe⟩
theorem dat_nil : DAT X E [] fNil := ⟨fun pos pins s σ H Q h0 I ⟨τ, A0, P, ρ, S, c⟩ => pat_nil pos pins s σ H Q h0 I (c [] H P (Stp.rfl H P) S .nil)⟩
theorem dat_cons (ha : DET X E e fa) (hr : DAT X E es fr) (hs : starEach (e :: es) X.env = (false, eval e X.env) :: starEach es X.env := by rfl) : DAT X E (e :: es) (fCons fa fr) := by
  refine ⟨fun pos pins s σ H Q h0 I h => pat_cons ha.pe hr.pa hs pos pins s σ H Q h0 I ?_⟩
  obtain ⟨τ, A0, P, ρ, S, c⟩ := h
  refine ⟨τ, A0, P, ρ, S, CDE.toD ?_⟩
  unfold fCons at c
  cases q : fa ρ with
  | ok w ρ1 =>
    rw [q] at c
    intro v H1 P1 t1 S1 r1
    refine ⟨τ, A0, P1, ρ1, S1, ?_⟩
    dsimp only at c
    cases q2 : fr ρ1 with
    | ok ds ρ2 =>
      rw [q2] at c
      exact fun vs H2 P2 t2 S2 r2 => c (v :: vs) H2 P2 (t1.trans t2) S2 (.cons (r1.stp t2) r2)
    | err cc d =>
      rw [q2] at c
      exact fun dx v H2 P2 t2 hx hr => c dx v H2 P2 (t1.trans t2) ⟨t1.al _ hx.1, hx.2⟩ hr
    | st =>
      rw [q2] at c
      exact c
  | err cc d =>
    rw [q] at c
    exact c
  | st =>
    rw [q] at c
    exact c
theorem det_mkL (ha : DAT X E es fr) (hz : es.length ≤ 10000 := by decide) : DET X E (.List es pos) (bndA fr gMkL) := by
  refine ⟨fun pins s σ H Q h0 I h => pet_lst ha.pa pins s σ H Q h0 I (tda_bnd h fun vs H' A ds w tr r q gw => ?_)⟩
  unfold gMkL at q
  by_cases hl : ds.length ≤ sizeLine
  · rw [if_pos hl] at q
    cases q
    exact ⟨by rw [r.length]; exact hl, give_lst r gw⟩
  · rw [if_neg hl] at q
    cases q
theorem det_repl {y z : Str} {j k : Nat} {c0 c1 : Pos} (ho : DE X E o fa) (hyz : (y == z) = false := by decide)
    (hst : starEach [.Constant (.str y) j c0, .Constant (.str z) k c1] X.env = [(false, eval (.Constant (.str y) j c0) X.env), (false, eval (.Constant (.str z) k c1) X.env)] := by rfl)
    (hbase : attributeBase o "replace" X.env (eval o X.env) = eval o X.env := by rfl) (hline : (apos.endLine == pos.line) = true := by rfl) :
    DET X E (.Call (.Attribute o "replace" apos) [.Constant (.str y) j c0, .Constant (.str z) k c1] [] pos) (fOp1 (gRepl y z) fa) := by
  refine ⟨fun pins s σ H Q h0 I h => CwR.pet_replC ho.pe hyz hst hbase hline pins s σ H Q h0 I (tde_bnd h fun v H' τ A0 P' ρ' d S r c => ?_)⟩
  unfold resW gRepl at c
  split at c
  · rename_i w q
    split at q
    · rename_i x
      by_cases hz : x.length + (x.length + 1) * z.length ≤ 16777216
      · rw [if_pos hz] at q
        cases q
        exact ⟨x, rp_str r, hz, give_pu (.str _) (giveW S c)⟩
      · rw [if_neg hz] at q; cases q
    · cases q
  · exact c.elim
theorem DST.of (h : DS X E st f) : DST X E st f := ⟨PST.of h.ps⟩
theorem dsst_one (h : DST X E st f) : DSsT X E [st] f := ⟨fun pins s σ H D h0 I q => CwR.psst_one h.ps pins s σ H D h0 I q⟩
theorem dsst_cons (h1 : DST X E st f) (h2 : DSsT X E rest g) : DSsT X E (st :: rest) (sSeq f g) := ⟨fun pins s σ H D h0 I q => psst_cons h1.ps h2.pss pins s σ H D h0 I (seq_of q)⟩
theorem dst_put {x : Str} {pos' : Pos} (hN : X.N.Nodup) (hi : X.N[i]? = some x) (hx : Loc X.env.scope x) (he : DET X E e fe) (hs : swapsWith e (some (.Name x pos')) pos.line X.env = pure false := by rfl) (hf : X.fn x = true ∨ X.env.scope.names.lookup x = some .local := by first | exact .inl rfl | exact .inr rfl | assumption) :
    DST X E (.Assign [.Name x pos'] e pos) (sPut i fe) := by
  refine ⟨fun pins s σ H D h0 I h => ?_⟩
  have h2 : tDE X.K E fe σ H fun v H' => D.nx (σ.set i (some v)) H' := by
    obtain ⟨τ, A0, P, ρ, S, c⟩ := h
    refine ⟨τ, A0, P, ρ, S, CDE.toD ?_⟩
    unfold sPut sE at c
    cases q : fe ρ with
    | ok w ρ1 => rw [q] at c; exact fun v H' P' t S' r => c _ H' P' t (S'.put r i)
    | err cc d => rw [q] at c; exact c
    | st => rw [q] at c; exact c
  refine wpAny_Assign_Name (thn (he.pe pins s σ H _ h0 I h2) fun v s1 ⟨x1, H1, I1, r1, q1⟩ => ?_) hs
  exact store_ok I1 hN hi hx r1 (fun s2 I2 => ⟨_, H1, I2, q1⟩) hf
theorem dst_for {tg iter : Expr} {bodyS : List Stmt} {bind : D → Env → Option Env} {body : Env → RS} {tgf : TG} {js : List Nat} (hp : PassesOwn (model X.prog X.w) X.A X.env X.xe) (hc : X.calm = true) (hi : DET X E iter fe) (hb : GtOk X.K tgf bind js) (hg : PG X tg tgf) (hbody : DSs X E bodyS body) (hs : ∀ x, foldedSetIterable iter X.env x = pure x := by intro _; rfl) :
    DST X E (.For tg iter bodyS [] pos) (sFor (srcE fe itemsL) bind body) := by
  refine ⟨fun pins s σ H D h0 I h => pst_for hp hc (pit_list hi.pe) hg hbody.pss hs pins s σ H D h0 I ?_⟩
  have z : tFor (tDI X.K E (srcE fe itemsL)) tgf (tDS X.K E body) D σ H := for_of hb h
  exact srcE_of z fun v H' τ A0 P' ρ' d items S r q k => by
    cases d with
    | list ds =>
      cases q
      obtain ⟨b, xs, rfl, h1, h2, s1⟩ := rp_out r
      exact ⟨b, rfl, ⟨xs, .inl (.inl h1)⟩, k _ _ (Ext.rfl _) (walks_list h1 h2 s1)⟩
    | _ => cases q
theorem dss_strT {j : Nat} {x c : Str} {cpos pos' : Pos} (hN : X.N.Nodup) (hi : X.N[i]? = some x) (hx : Loc X.env.scope x) (h2 : DSsT X E rest g)
    (hs : swapsWith (.Constant (.str c) j cpos) (some (.Name x pos')) pos.line X.env = pure false := by rfl) (hf : X.fn x = true ∨ X.env.scope.names.lookup x = some .local := by first | exact .inl rfl | exact .inr rfl | assumption) :
    DSs X E (.Assign [.Name x pos'] (.Constant (.str c) j cpos) pos :: rest) (sSeq (sPut i (fC (.str c))) g) := by
  refine ⟨PSs.weak (pss_str hN hi hx h2.pss hs hf) fun D σ H h => ?_⟩
  obtain ⟨τ, A0, P, ρ, S, cc⟩ := h
  exact ⟨τ, A0, P, _, S.put (v := .str c) (.str c) i, cc⟩
end
end DL
namespace DL
open PySem L2 PyProof.Rows
theorem de_globS {X : Cx} {E : XK} {pos : Pos} {x z : Str} {t : Tok} (hm : X.mg x = some (.str z t)) (hg : Gl X x := by rfl) (hd : (x == ("__debug__" : Str)) = false := by decide) : DE X E (.Name x pos) (fC (.str z)) := de_glob (v := .str z) hm ⟨t, rfl⟩ (fun _ => .str z) hg hd
end DL
/-! S5: x in list, cuts with computed bounds, gcd, abs, len of an own list, two new lists at once. -/
namespace DL
open PySem L2 PyProof.Rows
theorem ints_lay : ∀ {ds : List D} {ns : List Int}, intsOf ds = some ns → PyData.canLayAll0 ds = true ∧ PyData.depthAll ds ≤ 1 ∧ ∀ i : Int, (ds.any fun z => PyData.eqv z (.int i)) = ns.contains i
  | [], _, h => by
    cases h
    refine ⟨rfl, by simp [PyData.depthAll], fun i => rfl⟩
  | .int j :: r, ns, h => by
    cases q : intsOf r with
    | none => simp [intsOf, q] at h
    | some ms =>
      have h : ns = j :: ms := by simpa [intsOf, q] using h.symm
      subst h
      obtain ⟨a, b, c⟩ := ints_lay q
      refine ⟨by simp [PyData.canLayAll0, PyData.canLay0, a], by simp only [PyData.depthAll, PyData.depth]; omega, fun i => ?_⟩
      rw [List.any_cons, c i, List.contains_cons, PyData.eqv]
      congr 1
      by_cases hji : j = i
      · subst hji; simp
      · have h2 : ¬ i = j := fun z => hji z.symm
        rw [beq_eq_false_iff_ne.mpr hji, beq_eq_false_iff_ne.mpr h2]
  | .none :: _, _, h | .bool _ :: _, _, h | .str _ :: _, _, h | .list _ :: _, _, h | .tuple _ :: _, _, h | .dict _ :: _, _, h => by cases h
def gIn : D → D → Option W
  | .int i, .list ds => (match intsOf ds with
    | some ns => some (.pu (.bool (ns.contains i)))
    | none => none)
  | _, _ => none
section
variable {X : Cx} {E : XK} {k : Nat} {e a b : Expr} {es : List Expr} {fa fb : Env → RE} {fr : Env → RL} {p p2 pos : Pos}
theorem op2_in : Op2R X.K (rInD X.K) gIn := fun A H x y d1 d2 w Q tr r1 r2 q gw => by
  unfold gIn at q
  split at q
  · rename_i i ds
    split at q
    · rename_i ns h
      cases q
      obtain ⟨l1, l2, l3⟩ := ints_lay h
      have s1 : SeqAt.shaped (.int i) = true := rfl
      have s2 : SeqAt.shaped (.list ds) = true := by
        unfold SeqAt.shaped
        simp only [Bool.and_eq_true, decide_eq_true_eq]
        exact ⟨by simpa [PyData.canLay0] using l1, by simp only [PyData.depth]; omega⟩
      exact ⟨.int i, ds, (r1.ext hid_ext).dp rfl, (r2.ext hid_ext).dp (SeqAt.canLay_of_shaped s2), s1, s2, by rw [l3]; exact give_pu (.bl _) gw⟩
    · cases q
  · cases q
theorem d_in (c : Cn X E k) (ha : DE X E a fa) (hb : DE X E b fb) (hm : behindInMarks .In b = false := by rfl) : DE X E (.Compare a [.In] [b] pos) (fOp2 gIn fa fb) := de_cmp (op_inD (by have := c.rm.un; omega)) op2_in ha hb hm
/-- xs[:h], xs[l:] -/
def gCutH : D → D → Option W
  | .list ds, .int h => some (.frs (cutD ds none (some h)))
  | _, _ => none
def gCutL : D → D → Option W
  | .list ds, .int l => some (.frs (cutD ds (some l) none))
  | _, _ => none
theorem op2_cutH : Op2R X.K (fun x y H Q => ∃ h, y = .int h ∧ rSlL X.K x none (some h) H Q) gCutH := fun A H x y d1 d2 w Q tr r1 r2 q gw => by
  unfold gCutH at q
  split at q
  · rename_i ds h
    cases q
    obtain ⟨b, xs, rfl, h1, _, s1⟩ := rp_out (P := []) (A0 := A) r1
    exact ⟨h, rp_int r2, b, xs, rfl, .inl (.inl h1), fun p hp => give_lst (s1.cut _ _) gw p hp⟩
  · cases q
theorem op2_cutL : Op2R X.K (fun x y H Q => ∃ h, y = .int h ∧ rSlL X.K x (some h) none H Q) gCutL := fun A H x y d1 d2 w Q tr r1 r2 q gw => by
  unfold gCutL at q
  split at q
  · rename_i ds h
    cases q
    obtain ⟨b, xs, rfl, h1, _, s1⟩ := rp_out (P := []) (A0 := A) r1
    exact ⟨h, rp_int r2, b, xs, rfl, .inl (.inl h1), fun p hp => give_lst (s1.cut _ _) gw p hp⟩
  · cases q
theorem de_cutH (ha : DE X E a fa) (hb : DE X E b fb) : DE X E (.Subscript a (.Slice none (some b) none p2) pos) (fOp2 gCutH fa fb) :=
  ⟨PE.weak (pe_slice sl_list ha.pe po_none (po_some hb.pe)) fun _ _ _ h => op2_of op2_cutH h⟩
theorem de_cutL (ha : DE X E a fa) (hb : DE X E b fb) : DE X E (.Subscript a (.Slice (some b) none none p2) pos) (fOp2 gCutL fa fb) :=
  ⟨PE.weak (pe_slice sl_list ha.pe (po_some hb.pe) po_none) fun σ H Q h => op2_of op2_cutL h⟩
/-- math.gcd -/
def gGcd : List D → Option W
  | [.int i, .int j] => some (.pu (.int (Nat.gcd i.natAbs j.natAbs : Nat)))
  | _ => none
theorem cal_gcd : CalR X.K rGcd gGcd := fun A H xs ds w Q tr r q gw => by
  unfold gGcd at q
  split at q
  · cases q
    obtain ⟨v, u, rfl, h1, h2⟩ := rps_two r
    rw [rp_int h1, rp_int h2]
    exact ⟨_, _, rfl, give_pu (.int _) gw⟩
  · cases q
theorem de_gcd (hm : X.mg "gcd" = some (.builtin "math.gcd")) (ha : DA X E [a, b] fr) (hg : Gl X "gcd" := by rfl) (he : starEach [a, b] X.env = (false, eval a X.env) :: starEach [b] X.env := by rfl) (hpl : (backTo pos (starEach [b] X.env)).any (·.1) = false := by rfl) :
    DE X E (.Call (.Name "gcd" p) [a, b] [] pos) (bndA fr gGcd) :=
  ⟨PE.weak (pe_callBfun cr_gcd hg hm ha.pa (by decide) he hpl) fun σ H Q h => tda_bnd h fun vs H' A ds w tr r q gw => cal_gcd A H' vs ds w Q tr r q gw⟩
theorem d_abs (B : Bl X.mg) (ha : DA X E [e] fr) (hg : Gl X "abs" := by rfl) (he : starEach [e] X.env = (false, eval e X.env) :: starEach [] X.env := by rfl) : DE X E (.Call (.Name "abs" p) [e] [] pos) (bndA fr gAbs) := de_callB call_abs cal_abs hg B.abs (by decide +kernel) ha (by decide) (by decide) he
/-- len(x), x an own list that stays so -/
def fLenO (i : Nat) : Env → RE := fun ρ => match ρ[i]? with
  | some (some (.own _ ds)) => .ok (.pu (.int (ds.length : Nat))) ρ
  | _ => .st
theorem d_lenO {i : Nat} (B : Bl X.mg) (h0 : PE X e (tVar i)) (hg : Gl X "len" := by rfl) (he : starEach [e] X.env = (false, eval e X.env) :: starEach [] X.env := by rfl) : DE X E (.Call (.Name "len" p) [e] [] pos) (fLenO i) := by
  refine ⟨PE.weak (pe_callB call_len hg B.len bt_len (pa_cons h0 pa_nil he) (by decide) (by decide) he) fun σ H Q ⟨τ, A0, P, ρ, S, c⟩ => ?_⟩
  unfold fLenO at c
  split at c
  · rename_i t ds q
    obtain ⟨q', xs, b1, b2, b3, b4, b5⟩ := S.own i t ds q
    exact ⟨.ref q', b1, _, _, rfl, .inl ⟨xs, .inl (.inl b3), b4.length.symm⟩, c (.int ds.length) H P (Stp.rfl H P) S (.int _)⟩
  · exact c.elim
/-- x, y = e1, e2, both new lists -/
def sParO (i j : Nat) (fa fb : Env → RE) : Env → RS := fun ρ => match fa ρ with
  | .ok (.frs ds1) ρ1 => (match fb ρ1 with
    | .ok (.frs ds2) ρ2 => if noN ρ2 = true ∧ noN (ρ2.set j (some (.own 0 ds2))) = true then .nx ((ρ2.set j (some (.own 0 ds2))).set i (some (.own 0 ds1))) else .st
    | .err c d => .err c d
    | _ => .st)
  | .err c d => .err c d
  | _ => .st
theorem ds_parO {i j : Nat} {x y : Str} {px py pt : Pos} {kt k2 pt2} (hc : X.calm = true) (hN : X.N.Nodup) (hi : X.N[i]? = some x) (hj : X.N[j]? = some y) (hij : i ≠ j)
    (hx : X.env.scope.names.lookup x = some .local) (hy : X.env.scope.names.lookup y = some .local) (ha : DE X E a fa) (hb : DE X E b fb)
    (he : starEach [a, b] X.env = (false, eval a X.env) :: starEach [b] X.env := by rfl) (he2 : starEach [b] X.env = (false, eval b X.env) :: starEach [] X.env := by rfl)
    (hw : swappedStores [.Tuple [.Name x px, .Name y py] kt pt] (.Tuple [a, b] k2 pt2) X.env = pure (some [x, y]) := by rfl)
    (hs : swapsWithSole [.Tuple [.Name x px, .Name y py] kt pt] (.Tuple [a, b] k2 pt2) pos.line X.env = pure false := by rfl) :
    DS X E (.Assign [.Tuple [.Name x px, .Name y py] kt pt] (.Tuple [a, b] k2 pt2) pos) (sParO i j fa fb) := by
  refine ⟨PS.weak (ps_par hc hN hi hj hij hx hy (pa_cons ha.pe (pa_cons hb.pe pa_nil he2) he) hw hs) fun Dn σ H ⟨τ, A0, P, ρ, S, c⟩ => ⟨τ, A0, P, ρ, S, ?_⟩⟩
  unfold sParO at c
  cases q : fa ρ with
  | err cc d => rw [q] at c; exact c
  | st => rw [q] at c; exact c
  | ok wa ρ1 =>
    rw [q] at c
    cases wa with
    | pu d => exact c.elim
    | frs ds1 =>
      dsimp only at c
      intro p xs H1 P1 t1 hn np nA S1 hl r1
      refine ⟨τ, p :: A0, P1, ρ1, S1, ?_⟩
      cases q2 : fb ρ1 with
      | err cc d => rw [q2] at c; exact fun dx u H2 P2 t2 hx2 hr => c dx u H2 P2 (t1.trans t2) ⟨t1.al _ hx2.1, hx2.2⟩ (hr.ext (hid_less fun a z => by
          rcases List.mem_append.mp z with z | z
          · exact List.mem_append_left _ z
          · exact List.mem_append_right _ (List.mem_cons_of_mem _ z)))
      | st => rw [q2] at c; exact c
      | ok wb ρ2 =>
        rw [q2] at c
        cases wb with
        | pu d => exact c.elim
        | frs ds2 =>
          dsimp only at c
          by_cases hnn : noN ρ2 = true ∧ noN (ρ2.set j (some (.own 0 ds2))) = true
          rotate_left
          · rw [if_neg hnn] at c; exact c.elim
          rw [if_pos hnn] at c
          intro q' ys H2 P2 t2 n n1 n2 S2 hl2 r2
          have T1 := S2.own_ n2 hl2 r2 j hnn.1
          have l1 : H2 p = some (.lst xs) := t2.kp p _ np hl (fun _ z => nomatch z)
          have r1' : Rps X.K (hid ((q' :: P2) ++ p :: A0) H2) xs ds1 := r1.ext fun a o z => by
            obtain ⟨m, z2⟩ := hid_of z
            rw [List.mem_append, not_or] at m
            refine hid_in (fun w => ?_) (t2.kp a o m.1 z2 (hid_nt z)) (hid_nt z)
            rcases List.mem_append.mp w with w | w
            · rcases List.mem_cons.mp w with w | w
              · rw [w, n] at z2; cases z2
              · rcases t2.nw a w with w | w
                · exact m.1 w
                · rw [w] at z2; cases z2
            · exact m.2 w
          have T2 := T1.own_ nA l1 r1' i hnn.2
          have hσ : (σ.set j (some (.ref q'))).set i (some (.ref p)) = (σ.set i (some (.ref p))).set j (some (.ref q')) := List.set_comm _ _ hij.symm
          rw [hσ] at T2
          refine ⟨.ref p, .ref q', rfl, c _ H2 (p :: q' :: P2) ⟨(t1.trans t2).kp, fun a z => ?_, (t1.trans t2).al, (t1.trans t2).tb⟩ T2⟩
          rcases List.mem_cons.mp z with z | z
          · exact .inr (by rw [z]; exact hn)
          · rcases List.mem_cons.mp z with z | z
            · exact .inr (by rw [z]; exact t1.al _ n)
            · exact (t1.trans t2).nw a z
end
end DL
/-! S6: defs that make lambdas. -/
namespace DL
open PySem L2 PyProof.Rows
/-- where lambdas are made -/
structure Maker (X : Cx) : Prop where
  ex : ∃ c Pt, LamX.TabB X.base X.mg c Pt ∧ X.env.code = .ref c ∧ (Pt, X.env.qual ++ "<lambda>") ∈ TbK X.K ∧ ∀ p ∈ TbK X.K, p.1 = Pt → p.2 = X.env.qual ++ "<lambda>"
  fn : ∀ x, X.fn x = true
/-- the table of a def's lambdas -/
structure MakT (K : PySem.W.Frag) (mg : Str → Option Value) (base : Heap) (x : Str) : Prop where
  TB : LamX.TabB base mg (He.cT K (x, none)).1 (He.cT K (x, none)).2
  hu : ∀ p ∈ TbK K, p.1 = (He.cT K (x, none)).2 → p.2 = x ++ ".<locals>." ++ "<lambda>"
section
variable {P : Program} {w : World} {K : PySem.W.Frag} {mg : Str → Option Value} {base : Heap}
theorem mk_of {x : Str} {N : List Str} {st : Stmt} {f : Addr} {A : Around} {outer : List PySem.Env} {s : Shared} {H : Hp} {E : XK} (Mt : MakT K mg base x) (h : ((He.cT K (x, none)).2, x ++ ".<locals>." ++ "<lambda>") ∈ TbK K) : Maker (fx P w K mg base N x st f (.ref (He.cT K (x, none)).1) A outer s H E) :=
  ⟨⟨_, _, Mt.TB, rfl, h, Mt.hu⟩, fun _ => rfl⟩
theorem Df_mkC {x : Str} {st : Stmt} {f : Addr} {fd : FuncData} {N ps : List Str} {k n : Nat} {g : DL.Env → RS} {cd : Addr} (F : FunD K x x (defArgs st) (defBody st) (defScope st) [] [] f fd) (hm : mg x = some (.ref f)) (S : FnScope N ps (defScope st)) (hn : N.length = n)
    (hb : ∀ (kV doc pm : Value) (an : Option Addr) (cdv ct : Value) (us : List Value), us.length = ps.length → bindArgs (PySem.W.fnOf x x (defArgs st) (defBody st) (defScope st) .none kV doc pm an cdv ct) ⟨us, []⟩ = pure (ps.zip us)) (hcd : fd.code = .ref cd)
    (hbody : ∀ (A : Around) (outer : List PySem.Env) (s : Shared) (H : Hp) (E : XK), Cn (fx P w K mg base N x st f (.ref cd) A outer s H E) E k → DSs (fx P w K mg base N x st f (.ref cd) A outer s H E) E (defBody st) g) :
    Df P w K mg base x st (k + 1) ps (fnF n g) := by
  obtain ⟨oc, od, kV, doc, pm, an, cdv, ct, osl, rfl, lk, hcd2⟩ := (Fun.ofD F).ex
  obtain rfl : cdv = .ref cd := hcd
  refine ⟨f, _, hm, ⟨fun A outer s H args us vs Q E hg hr e0 hb rv hl h => LamX.run_ofS lk hcd2 S hr e0 hb rv hl fun hr2 => ?_⟩, F.kp, hb kV doc pm an _ ct, kV, doc, pm, an, _, ct, rfl⟩
  exact ⟨_, (hbody A outer s H E ⟨hg, hr2, passes_call (W := fun cls d _ H => E cls d H) (takes_of rfl rfl rfl rfl) (fun _ _ _ _ h => h), takes_of rfl rfl rfl rfl, rfl⟩).pss, fnF_of hn h⟩
end
theorem mem_TbK {K : PySem.W.Frag} {x q q2 : Str} (h : ((x, none), q) ∈ lamDefs) (e : q2 = q) : ((He.cT K (x, none)).2, q2) ∈ TbK K := by
  subst e
  exact List.mem_map.mpr ⟨_, h, rfl⟩
end DL
/-! E1: the program's defs, the law's plain ones. -/
namespace K65
open PySem L2 PyProof.Rows DL
def m_l_drawn_order : DL.Env → Nat := fun ρ => match (ρ[2]? : Option (Option Sl)) with
  | some (some (Sl.own _ ds)) => ds.length + 1
  | _ => 1
abbrev s_is_whole : Stmt := top 6
abbrev N_is_whole : List Str := ["value"]
theorem sc_is_whole : FnScope N_is_whole ["value"] (defScope s_is_whole) := ⟨rfl, rfl, rfl, by decide +kernel, rfl, by decide +kernel, by decide +kernel⟩
def g_is_whole : DL.Env → RS := sRet (fAnd (fOp1 (gIsi "int") (fVar 0)) (fNot (fOp1 (gIsi "bool") (fVar 0))))
def F_is_whole : List Sl → RF := fnF 1 (g_is_whole)
theorem b_is_whole {P : Program} {w : World} {K : PySem.W.Frag} {mg : Str → Option Value} {base : Heap} (B : Bl mg) {f : Addr} {cdv : Value} {A : Around} {outer : List PySem.Env} {s : Shared} {H : Hp} {E : XK} (c : Cn (fx P w K mg base N_is_whole "is_whole" s_is_whole f cdv A outer s H E) E 0) :
    DSs (fx P w K mg base N_is_whole "is_whole" s_is_whole f cdv A outer s H E) E (defBody s_is_whole) (g_is_whole) := by
  have nd := sc_is_whole.nd
  exact dss_one (ds_ret (de_and (d_isi B "int" "int" rfl B.int bt_int (de_var (pv 0))) (de_one (de_not (d_isi B "bool" "bool" rfl B.bool bt_bool (de_var (pv 0)))))))
theorem df_is_whole {P : Program} {w : World} {K : PySem.W.Frag} {mg : Str → Option Value} {base : Heap} (B : Bl mg) {f : Addr} {fd : FuncData} (F : FunD K "is_whole" "is_whole" (defArgs s_is_whole) (defBody s_is_whole) (defScope s_is_whole) [] [] f fd) (hm : mg "is_whole" = some (.ref f)) : Df P w K mg base "is_whole" s_is_whole 1 ["value"] (F_is_whole) :=
  Df.mk' F hm sc_is_whole rfl (fun _ _ _ _ _ _ us hl => match us, hl with | [_], _ => rfl) fun cdv A outer s H E c => b_is_whole B c

abbrev s_read_count : Stmt := top 9
abbrev N_read_count : List Str := ["word", "sign"]
theorem sc_read_count : FnScope N_read_count ["word"] (defScope s_read_count) := ⟨rfl, rfl, rfl, by decide +kernel, rfl, by decide +kernel, by decide +kernel⟩
def g_read_count : DL.Env → RS := sSeq (sIf (fOr (fOp2 gEq (fVar 0) (fC (.str ""))) (fOr (fOp2 gGt (bndA (fCons (fVar 0) (fNil)) gLen) (fC (.int 60))) (fOp2 gNe (fLc (srcE (fVar 0) itemsS) (bName 1) (fOp2 gNotInS (fVar 1) (fC (.str "0123456789"))) (fVar 1) [1]) (bndA (fNil) gMkL)))) (sRet (fC .none)) (.nx)) (sRet (fIf (fOr (fOp2 gEq (fVar 0) (fC (.str "0"))) (fOp2 gNe (fOp2 gIx (fVar 0) (fC (.int 0))) (fC (.str "0")))) (bndA (fCons (fVar 0) (fNil)) gIntS) (fC .none)))
def F_read_count : List Sl → RF := fnF 2 (g_read_count)
theorem b_read_count {P : Program} {w : World} {K : PySem.W.Frag} {mg : Str → Option Value} {base : Heap} (B : Bl mg) {t_FIGURES : Tok} (h_FIGURES : mg "FIGURES" = some (.str "0123456789" t_FIGURES)) {f : Addr} {cdv : Value} {A : Around} {outer : List PySem.Env} {s : Shared} {H : Hp} {E : XK} (c : Cn (fx P w K mg base N_read_count "read_count" s_read_count f cdv A outer s H E) E 0) :
    DSs (fx P w K mg base N_read_count "read_count" s_read_count f cdv A outer s H E) E (defBody s_read_count) (g_read_count) := by
  have nd := sc_read_count.nd
  exact dss_cons (ds_if (dt_w (dw_or (t_eq c (de_var (pv 0)) (de_str)) (dw_or (t_gt (d_len B (da_cons (de_var (pv 0)) (da_nil))) (de_int)) (dw_or1 (t_ne c (de_lc (own := [("sign", 1)]) c.cm nd (di_str (de_var (pv 0))) (blkOk_by (by rfl)) (gt_name) (by decide) (fun _ _ _ _ _ => pg_name nd (i := 1) rfl (by first | exact .inl rfl | exact .inr rfl)) (fun _ _ _ _ _ => dts_one (t_notInS (de_var (pv 1)) (de_globS h_FIGURES))) (fun _ _ _ _ _ => de_var (pv 1))) (de_mkL (da_nil))))))) (dss_one (ds_ret (de_non))) (dss_nil))
    (dss_one (ds_ret (de_if (dt_w (dw_or (t_eq c (de_var (pv 0)) (de_str)) (dw_or1 (t_ne c (d_ix (de_var (pv 0)) (de_int)) (de_str))))) (d_intS B (da_cons (de_var (pv 0)) (da_nil))) (de_non))))
theorem df_read_count {P : Program} {w : World} {K : PySem.W.Frag} {mg : Str → Option Value} {base : Heap} (B : Bl mg) {t_FIGURES : Tok} (h_FIGURES : mg "FIGURES" = some (.str "0123456789" t_FIGURES)) {f : Addr} {fd : FuncData} (F : FunD K "read_count" "read_count" (defArgs s_read_count) (defBody s_read_count) (defScope s_read_count) [] [] f fd) (hm : mg "read_count" = some (.ref f)) : Df P w K mg base "read_count" s_read_count 1 ["word"] (F_read_count) :=
  Df.mk' F hm sc_read_count rfl (fun _ _ _ _ _ _ us hl => match us, hl with | [_], _ => rfl) fun cdv A outer s H E c => b_read_count B h_FIGURES c

abbrev s_read_whole : Stmt := top 10
abbrev N_read_whole : List Str := ["word", "count"]
theorem sc_read_whole : FnScope N_read_whole ["word"] (defScope s_read_whole) := ⟨rfl, rfl, rfl, by decide +kernel, rfl, by decide +kernel, by decide +kernel⟩
def g_read_whole : DL.Env → RS := sSeq (sIf (fNot (fM1 gStarts (fVar 0) (fC (.str "-")))) (sRet (fCall 1 F_read_count (fCons (fVar 0) (fNil)))) (.nx)) (sSeq (sPut 1 (fCall 1 F_read_count (fCons (fOp2 gCutSL (fVar 0) (fC (.int 1))) (fNil)))) (sRet (fIf (fOr (fOp2 gIsN (fVar 1) (fC .none)) (fOp2 gEq (fVar 1) (fC (.int 0)))) (fC .none) (fOp1 gNeg (fVar 1)))))
def F_read_whole : List Sl → RF := fnF 2 (g_read_whole)
theorem b_read_whole {P : Program} {w : World} {K : PySem.W.Frag} {mg : Str → Option Value} {base : Heap} (B : Bl mg) (d_read_count : Df P w K mg base "read_count" s_read_count 1 ["word"] F_read_count) {f : Addr} {cdv : Value} {A : Around} {outer : List PySem.Env} {s : Shared} {H : Hp} {E : XK} (c : Cn (fx P w K mg base N_read_whole "read_whole" s_read_whole f cdv A outer s H E) E 1) :
    DSs (fx P w K mg base N_read_whole "read_whole" s_read_whole f cdv A outer s H E) E (defBody s_read_whole) (g_read_whole) := by
  have nd := sc_read_whole.nd
  exact dss_cons (ds_if (dt_not (dt_val (d_starts (de_var (pv 0)) (de_str)))) (dss_one (ds_ret (de_call d_read_count c (da_cons (de_var (pv 0)) (da_nil))))) (dss_nil))
    (dss_cons (ds_put (i := 1) nd rfl (by first | exact .inl rfl | exact .inr rfl) (de_call d_read_count c (da_cons (de_cutSL (de_var (pv 0)) (de_int)) (da_nil))))
    (dss_one (ds_ret (de_if (dt_w (dw_or (t_is (de_var (pv 1)) (de_non)) (dw_or1 (t_eq c (de_var (pv 1)) (de_int))))) (de_non) (d_neg (de_var (pv 1)))))))
theorem df_read_whole {P : Program} {w : World} {K : PySem.W.Frag} {mg : Str → Option Value} {base : Heap} (B : Bl mg) (d_read_count : Df P w K mg base "read_count" s_read_count 1 ["word"] F_read_count) {f : Addr} {fd : FuncData} (F : FunD K "read_whole" "read_whole" (defArgs s_read_whole) (defBody s_read_whole) (defScope s_read_whole) [] [] f fd) (hm : mg "read_whole" = some (.ref f)) : Df P w K mg base "read_whole" s_read_whole 2 ["word"] (F_read_whole) :=
  Df.mk' F hm sc_read_whole rfl (fun _ _ _ _ _ _ us hl => match us, hl with | [_], _ => rfl) fun cdv A outer s H E c => b_read_whole B d_read_count c

abbrev s_ended_lines : Stmt := top 11
abbrev N_ended_lines : List Str := ["text"]
theorem sc_ended_lines : FnScope N_ended_lines ["text"] (defScope s_ended_lines) := ⟨rfl, rfl, rfl, by decide +kernel, rfl, by decide +kernel, by decide +kernel⟩
def g_ended_lines : DL.Env → RS := sSeq (sIf (fOr (fNot (fOp1 (gIsi "str") (fVar 0))) (fNot (fM1 gEnds (fVar 0) (fC (.str "\n"))))) (sRet (fC .none)) (.nx)) (sRet (fOp1 (gCut none (some (-1))) (fM1 gSplit (fVar 0) (fC (.str "\n")))))
def F_ended_lines : List Sl → RF := fnF 1 (g_ended_lines)
theorem b_ended_lines {P : Program} {w : World} {K : PySem.W.Frag} {mg : Str → Option Value} {base : Heap} (B : Bl mg) {f : Addr} {cdv : Value} {A : Around} {outer : List PySem.Env} {s : Shared} {H : Hp} {E : XK} (c : Cn (fx P w K mg base N_ended_lines "ended_lines" s_ended_lines f cdv A outer s H E) E 0) :
    DSs (fx P w K mg base N_ended_lines "ended_lines" s_ended_lines f cdv A outer s H E) E (defBody s_ended_lines) (g_ended_lines) := by
  have nd := sc_ended_lines.nd
  exact dss_cons (ds_if (dt_w (dw_or (dt_not (dt_val (d_isi B "str" "str" rfl B.str bt_str (de_var (pv 0))))) (dw_or1 (dt_not (dt_val (d_ends (de_var (pv 0)) (de_str))))))) (dss_one (ds_ret (de_non))) (dss_nil))
    (dss_one (ds_ret (de_cut po_n po_m (d_split (de_var (pv 0)) (de_str)))))
theorem df_ended_lines {P : Program} {w : World} {K : PySem.W.Frag} {mg : Str → Option Value} {base : Heap} (B : Bl mg) {f : Addr} {fd : FuncData} (F : FunD K "ended_lines" "ended_lines" (defArgs s_ended_lines) (defBody s_ended_lines) (defScope s_ended_lines) [] [] f fd) (hm : mg "ended_lines" = some (.ref f)) : Df P w K mg base "ended_lines" s_ended_lines 1 ["text"] (F_ended_lines) :=
  Df.mk' F hm sc_ended_lines rfl (fun _ _ _ _ _ _ us hl => match us, hl with | [_], _ => rfl) fun cdv A outer s H E c => b_ended_lines B c

abbrev s_is_grid : Stmt := top 15
abbrev N_is_grid : List Str := ["value", "row", "number"]
theorem sc_is_grid : FnScope N_is_grid ["value"] (defScope s_is_grid) := ⟨rfl, rfl, rfl, by decide +kernel, rfl, by decide +kernel, by decide +kernel⟩
def g_is_grid : DL.Env → RS := sSeq (sIf (fOr (fNot (fOp1 (gIsi "list") (fVar 0))) (fOr (fOp2 gEq (fVar 0) (bndA (fNil) gMkL)) (fOp2 gNe (fLc (srcE (fVar 0) itemsL) (bName 1) (fNot (fOp1 (gIsi "list") (fVar 1))) (fVar 1) [1]) (bndA (fNil) gMkL)))) (sRet (fC (.bool false))) (.nx)) (sSeq (sIf (fOr (fOp2 gNe (fLc (srcE (fVar 0) itemsL) (bName 1) (fOr (fOp2 gEq (fVar 1) (bndA (fNil) gMkL)) (fOp2 gNe (bndA (fCons (fVar 1) (fNil)) gLen) (bndA (fCons (fOp2 gIx (fVar 0) (fC (.int 0))) (fNil)) gLen))) (fVar 1) [1]) (bndA (fNil) gMkL)) (fOp2 gGt (fOp2 gMul (bndA (fCons (fVar 0) (fNil)) gLen) (bndA (fCons (fOp2 gIx (fVar 0) (fC (.int 0))) (fNil)) gLen)) (fC (.int 60)))) (sRet (fC (.bool false))) (.nx)) (sRet (fOp2 gEq (fLc (srcE (bndA (fCons (fVar 0) (fCons (bndA (fNil) gMkL) (fNil))) gSumL) itemsL) (bName 2) (fNot (fCall 1 F_is_whole (fCons (fVar 2) (fNil)))) (fVar 2) [2]) (bndA (fNil) gMkL))))
def F_is_grid : List Sl → RF := fnF 3 (g_is_grid)
theorem b_is_grid {P : Program} {w : World} {K : PySem.W.Frag} {mg : Str → Option Value} {base : Heap} (B : Bl mg) (d_is_whole : Df P w K mg base "is_whole" s_is_whole 1 ["value"] F_is_whole) {f : Addr} {cdv : Value} {A : Around} {outer : List PySem.Env} {s : Shared} {H : Hp} {E : XK} (c : Cn (fx P w K mg base N_is_grid "is_grid" s_is_grid f cdv A outer s H E) E 1) :
    DSs (fx P w K mg base N_is_grid "is_grid" s_is_grid f cdv A outer s H E) E (defBody s_is_grid) (g_is_grid) := by
  have nd := sc_is_grid.nd
  exact dss_cons (ds_if (dt_w (dw_or (dt_not (dt_val (d_isi B "list" "list" rfl B.list bt_list (de_var (pv 0))))) (dw_or (t_eq c (de_var (pv 0)) (de_mkL (da_nil))) (dw_or1 (t_ne c (de_lc (own := [("row", 1)]) c.cm nd (di_list (de_var (pv 0))) (blkOk_by (by rfl)) (gt_name) (by decide) (fun _ _ _ _ _ => pg_name nd (i := 1) rfl (by first | exact .inl rfl | exact .inr rfl)) (fun _ _ _ _ _ => dts_one (dt_not (dt_val (d_isi B "list" "list" rfl B.list bt_list (de_var (pv 1)))))) (fun _ _ _ _ _ => de_var (pv 1))) (de_mkL (da_nil))))))) (dss_one (ds_ret (de_bl))) (dss_nil))
    (dss_cons (ds_if (dt_w (dw_or (t_ne c (de_lc (own := [("row", 1)]) c.cm nd (di_list (de_var (pv 0))) (blkOk_by (by rfl)) (gt_name) (by decide) (fun _ _ _ _ _ => pg_name nd (i := 1) rfl (by first | exact .inl rfl | exact .inr rfl)) (fun _ _ _ _ _ => dts_one (dt_w (dw_or (t_eq c.blk (de_var (pv 1)) (de_mkL (da_nil))) (dw_or1 (t_ne c.blk (d_len B (da_cons (de_var (pv 1)) (da_nil))) (d_len B (da_cons (d_ix (de_var (pv 0)) (de_int)) (da_nil)))))))) (fun _ _ _ _ _ => de_var (pv 1))) (de_mkL (da_nil))) (dw_or1 (t_gt (d_mul (d_len B (da_cons (de_var (pv 0)) (da_nil))) (d_len B (da_cons (d_ix (de_var (pv 0)) (de_int)) (da_nil)))) (de_int))))) (dss_one (ds_ret (de_bl))) (dss_nil))
    (dss_one (ds_ret (d_eq c.rm.units (de_lc (own := [("number", 2)]) c.cm nd (di_list (d_sumL c B (da_cons (de_var (pv 0)) (da_cons (de_mkL (da_nil)) (da_nil))))) (blkOk_by (by rfl)) (gt_name) (by decide) (fun _ _ _ _ _ => pg_name nd (i := 2) rfl (by first | exact .inl rfl | exact .inr rfl)) (fun _ _ _ _ _ => dts_one (dt_not (dt_val (de_call d_is_whole c.blk (da_cons (de_var (pv 2)) (da_nil)))))) (fun _ _ _ _ _ => de_var (pv 2))) (de_mkL (da_nil))))))
theorem df_is_grid {P : Program} {w : World} {K : PySem.W.Frag} {mg : Str → Option Value} {base : Heap} (B : Bl mg) (d_is_whole : Df P w K mg base "is_whole" s_is_whole 1 ["value"] F_is_whole) {f : Addr} {fd : FuncData} (F : FunD K "is_grid" "is_grid" (defArgs s_is_grid) (defBody s_is_grid) (defScope s_is_grid) [] [] f fd) (hm : mg "is_grid" = some (.ref f)) : Df P w K mg base "is_grid" s_is_grid 2 ["value"] (F_is_grid) :=
  Df.mk' F hm sc_is_grid rfl (fun _ _ _ _ _ _ us hl => match us, hl with | [_], _ => rfl) fun cdv A outer s H E c => b_is_grid B d_is_whole c

abbrev s_is_name : Stmt := top 16
abbrev N_is_name : List Str := ["value", "sign"]
theorem sc_is_name : FnScope N_is_name ["value"] (defScope s_is_name) := ⟨rfl, rfl, rfl, by decide +kernel, rfl, by decide +kernel, by decide +kernel⟩
def g_is_name : DL.Env → RS := sSeq (sIf (fOr (fNot (fOp1 (gIsi "str") (fVar 0))) (fNot (fChain gLe gLe (fC (.int 1)) (bndA (fCons (fVar 0) (fNil)) gLen) (fC (.int 12))))) (sRet (fC (.bool false))) (.nx)) (sRet (fOp2 gEq (fLc (srcE (fVar 0) itemsS) (bName 1) (fOp2 gNotInS (fVar 1) (fC (.str "abcdefghijklmnopqrstuvwxyz"))) (fVar 1) [1]) (bndA (fNil) gMkL)))
def F_is_name : List Sl → RF := fnF 2 (g_is_name)
theorem b_is_name {P : Program} {w : World} {K : PySem.W.Frag} {mg : Str → Option Value} {base : Heap} (B : Bl mg) {t_LETTERS : Tok} (h_LETTERS : mg "LETTERS" = some (.str "abcdefghijklmnopqrstuvwxyz" t_LETTERS)) {f : Addr} {cdv : Value} {A : Around} {outer : List PySem.Env} {s : Shared} {H : Hp} {E : XK} (c : Cn (fx P w K mg base N_is_name "is_name" s_is_name f cdv A outer s H E) E 0) :
    DSs (fx P w K mg base N_is_name "is_name" s_is_name f cdv A outer s H E) E (defBody s_is_name) (g_is_name) := by
  have nd := sc_is_name.nd
  exact dss_cons (ds_if (dt_w (dw_or (dt_not (dt_val (d_isi B "str" "str" rfl B.str bt_str (de_var (pv 0))))) (dw_or1 (dt_not (t_le2 (de_int) (d_len B (da_cons (de_var (pv 0)) (da_nil))) (de_int)))))) (dss_one (ds_ret (de_bl))) (dss_nil))
    (dss_one (ds_ret (d_eq c.rm.units (de_lc (own := [("sign", 1)]) c.cm nd (di_str (de_var (pv 0))) (blkOk_by (by rfl)) (gt_name) (by decide) (fun _ _ _ _ _ => pg_name nd (i := 1) rfl (by first | exact .inl rfl | exact .inr rfl)) (fun _ _ _ _ _ => dts_one (t_notInS (de_var (pv 1)) (de_globS h_LETTERS))) (fun _ _ _ _ _ => de_var (pv 1))) (de_mkL (da_nil)))))
theorem df_is_name {P : Program} {w : World} {K : PySem.W.Frag} {mg : Str → Option Value} {base : Heap} (B : Bl mg) {t_LETTERS : Tok} (h_LETTERS : mg "LETTERS" = some (.str "abcdefghijklmnopqrstuvwxyz" t_LETTERS)) {f : Addr} {fd : FuncData} (F : FunD K "is_name" "is_name" (defArgs s_is_name) (defBody s_is_name) (defScope s_is_name) [] [] f fd) (hm : mg "is_name" = some (.ref f)) : Df P w K mg base "is_name" s_is_name 1 ["value"] (F_is_name) :=
  Df.mk' F hm sc_is_name rfl (fun _ _ _ _ _ _ us hl => match us, hl with | [_], _ => rfl) fun cdv A outer s H E c => b_is_name B h_LETTERS c

abbrev s_are_names_of : Stmt := top 17
abbrev N_are_names_of : List Str := ["value", "many", "name"]
theorem sc_are_names_of : FnScope N_are_names_of ["value", "many"] (defScope s_are_names_of) := ⟨rfl, rfl, rfl, by decide +kernel, rfl, by decide +kernel, by decide +kernel⟩
def g_are_names_of : DL.Env → RS := sSeq (sIf (fOr (fNot (fOp1 (gIsi "list") (fVar 0))) (fOr (fOp2 gNe (bndA (fCons (fVar 0) (fNil)) gLen) (fVar 1)) (fOp2 gNe (fLc (srcE (fVar 0) itemsL) (bName 2) (fNot (fCall 1 F_is_name (fCons (fVar 2) (fNil)))) (fVar 2) [2]) (bndA (fNil) gMkL)))) (sRet (fC (.bool false))) (.nx)) (sRet (fAnd (fOp2 gEq (fLc (srcE (fVar 0) itemsL) (bName 2) (fOp2 gGt (fL1 gCntD (fVar 0) (fVar 2)) (fC (.int 1))) (fVar 2) [2]) (bndA (fNil) gMkL)) (fOp2 gNotInD (fC (.str "all")) (fVar 0))))
def F_are_names_of : List Sl → RF := fnF 3 (g_are_names_of)
theorem b_are_names_of {P : Program} {w : World} {K : PySem.W.Frag} {mg : Str → Option Value} {base : Heap} (B : Bl mg) (d_is_name : Df P w K mg base "is_name" s_is_name 1 ["value"] F_is_name) {f : Addr} {cdv : Value} {A : Around} {outer : List PySem.Env} {s : Shared} {H : Hp} {E : XK} (c : Cn (fx P w K mg base N_are_names_of "are_names_of" s_are_names_of f cdv A outer s H E) E 1) :
    DSs (fx P w K mg base N_are_names_of "are_names_of" s_are_names_of f cdv A outer s H E) E (defBody s_are_names_of) (g_are_names_of) := by
  have nd := sc_are_names_of.nd
  exact dss_cons (ds_if (dt_w (dw_or (dt_not (dt_val (d_isi B "list" "list" rfl B.list bt_list (de_var (pv 0))))) (dw_or (t_ne c (d_len B (da_cons (de_var (pv 0)) (da_nil))) (de_var (pv 1))) (dw_or1 (t_ne c (de_lc (own := [("name", 2)]) c.cm nd (di_list (de_var (pv 0))) (blkOk_by (by rfl)) (gt_name) (by decide) (fun _ _ _ _ _ => pg_name nd (i := 2) rfl (by first | exact .inl rfl | exact .inr rfl)) (fun _ _ _ _ _ => dts_one (dt_not (dt_val (de_call d_is_name c.blk (da_cons (de_var (pv 2)) (da_nil)))))) (fun _ _ _ _ _ => de_var (pv 2))) (de_mkL (da_nil))))))) (dss_one (ds_ret (de_bl))) (dss_nil))
    (dss_one (ds_ret (de_and (d_eq c.rm.units (de_lc (own := [("name", 2)]) c.cm nd (di_list (de_var (pv 0))) (blkOk_by (by rfl)) (gt_name) (by decide) (fun _ _ _ _ _ => pg_name nd (i := 2) rfl (by first | exact .inl rfl | exact .inr rfl)) (fun _ _ _ _ _ => dts_one (t_gt (de_cntD c.blk (de_var (pv 0)) (de_var (pv 2))) (de_int))) (fun _ _ _ _ _ => de_var (pv 2))) (de_mkL (da_nil))) (de_one (d_notInD c (de_str) (de_var (pv 0)))))))
theorem df_are_names_of {P : Program} {w : World} {K : PySem.W.Frag} {mg : Str → Option Value} {base : Heap} (B : Bl mg) (d_is_name : Df P w K mg base "is_name" s_is_name 1 ["value"] F_is_name) {f : Addr} {fd : FuncData} (F : FunD K "are_names_of" "are_names_of" (defArgs s_are_names_of) (defBody s_are_names_of) (defScope s_are_names_of) [] [] f fd) (hm : mg "are_names_of" = some (.ref f)) : Df P w K mg base "are_names_of" s_are_names_of 2 ["value", "many"] (F_are_names_of) :=
  Df.mk' F hm sc_are_names_of rfl (fun _ _ _ _ _ _ us hl => match us, hl with | [_, _], _ => rfl) fun cdv A outer s H E c => b_are_names_of B d_is_name c

abbrev s_check_grid : Stmt := top 18
abbrev N_check_grid : List Str := ["table"]
theorem sc_check_grid : FnScope N_check_grid ["table"] (defScope s_check_grid) := ⟨rfl, rfl, rfl, by decide +kernel, rfl, by decide +kernel, by decide +kernel⟩
def g_check_grid (ca : Str → Addr) : DL.Env → RS := sIf (fNot (fCall 1 F_is_grid (fCons (fVar 0) (fNil)))) (sRaise (ca "InvalidTable") (fCons (fVar 0) (fNil))) (.nx)
def F_check_grid (ca : Str → Addr) : List Sl → RF := fnF 1 (g_check_grid ca)
theorem b_check_grid {P : Program} {w : World} {K : PySem.W.Frag} {mg : Str → Option Value} {base : Heap} {ca : Str → Addr} (B : Bl mg) (d_is_grid : Df P w K mg base "is_grid" s_is_grid 2 ["value"] F_is_grid) (x_InvalidTable : DLX.ExT P K mg "InvalidTable" (ca "InvalidTable")) {f : Addr} {cdv : Value} {A : Around} {outer : List PySem.Env} {s : Shared} {H : Hp} {E : XK} (c : Cn (fx P w K mg base N_check_grid "check_grid" s_check_grid f cdv A outer s H E) E 2) :
    DSs (fx P w K mg base N_check_grid "check_grid" s_check_grid f cdv A outer s H E) E (defBody s_check_grid) (g_check_grid ca) := by
  have nd := sc_check_grid.nd
  exact dss_one (ds_if (dt_not (dt_val (de_call d_is_grid c (da_cons (de_var (pv 0)) (da_nil))))) (dss_one (ds_raise x_InvalidTable c (da_cons (de_var (pv 0)) (da_nil)))) (dss_nil))
theorem df_check_grid {P : Program} {w : World} {K : PySem.W.Frag} {mg : Str → Option Value} {base : Heap} {ca : Str → Addr} (B : Bl mg) (d_is_grid : Df P w K mg base "is_grid" s_is_grid 2 ["value"] F_is_grid) (x_InvalidTable : DLX.ExT P K mg "InvalidTable" (ca "InvalidTable")) {f : Addr} {fd : FuncData} (F : FunD K "check_grid" "check_grid" (defArgs s_check_grid) (defBody s_check_grid) (defScope s_check_grid) [] [] f fd) (hm : mg "check_grid" = some (.ref f)) : Df P w K mg base "check_grid" s_check_grid 3 ["table"] (F_check_grid ca) :=
  Df.mk' F hm sc_check_grid rfl (fun _ _ _ _ _ _ us hl => match us, hl with | [_], _ => rfl) fun cdv A outer s H E c => b_check_grid B d_is_grid x_InvalidTable c

abbrev s_check_names : Stmt := top 19
abbrev N_check_names : List Str := ["names", "table"]
theorem sc_check_names : FnScope N_check_names ["names", "table"] (defScope s_check_names) := ⟨rfl, rfl, rfl, by decide +kernel, rfl, by decide +kernel, by decide +kernel⟩
def g_check_names (ca : Str → Addr) : DL.Env → RS := sSeq (sIf (fOr (fNot (fOp1 (gIsi "tuple") (fVar 0))) (fOp2 gNe (bndA (fCons (fVar 0) (fNil)) gLen) (fC (.int 2)))) (sRaise (ca "InvalidNames") (fCons (fVar 0) (fNil))) (.nx)) (sIf (fOr (fNot (fCall 2 F_are_names_of (fCons (fOp2 gIx (fVar 0) (fC (.int 0))) (fCons (bndA (fCons (fVar 1) (fNil)) gLen) (fNil))))) (fNot (fCall 2 F_are_names_of (fCons (fOp2 gIx (fVar 0) (fC (.int 1))) (fCons (bndA (fCons (fOp2 gIx (fVar 1) (fC (.int 0))) (fNil)) gLen) (fNil)))))) (sRaise (ca "InvalidNames") (fCons (fVar 0) (fNil))) (.nx))
def F_check_names (ca : Str → Addr) : List Sl → RF := fnF 2 (g_check_names ca)
theorem b_check_names {P : Program} {w : World} {K : PySem.W.Frag} {mg : Str → Option Value} {base : Heap} {ca : Str → Addr} (B : Bl mg) (d_are_names_of : Df P w K mg base "are_names_of" s_are_names_of 2 ["value", "many"] F_are_names_of) (x_InvalidNames : DLX.ExT P K mg "InvalidNames" (ca "InvalidNames")) {f : Addr} {cdv : Value} {A : Around} {outer : List PySem.Env} {s : Shared} {H : Hp} {E : XK} (c : Cn (fx P w K mg base N_check_names "check_names" s_check_names f cdv A outer s H E) E 2) :
    DSs (fx P w K mg base N_check_names "check_names" s_check_names f cdv A outer s H E) E (defBody s_check_names) (g_check_names ca) := by
  have nd := sc_check_names.nd
  exact dss_cons (ds_if (dt_w (dw_or (dt_not (dt_val (d_isi B "tuple" "tuple" rfl B.tuple bt_tuple (de_var (pv 0))))) (dw_or1 (t_ne c (d_len B (da_cons (de_var (pv 0)) (da_nil))) (de_int))))) (dss_one (ds_raise x_InvalidNames c (da_cons (de_var (pv 0)) (da_nil)))) (dss_nil))
    (dss_one (ds_if (dt_w (dw_or (dt_not (dt_val (de_call d_are_names_of c (da_cons (d_ix (de_var (pv 0)) (de_int)) (da_cons (d_len B (da_cons (de_var (pv 1)) (da_nil))) (da_nil)))))) (dw_or1 (dt_not (dt_val (de_call d_are_names_of c (da_cons (d_ix (de_var (pv 0)) (de_int)) (da_cons (d_len B (da_cons (d_ix (de_var (pv 1)) (de_int)) (da_nil))) (da_nil))))))))) (dss_one (ds_raise x_InvalidNames c (da_cons (de_var (pv 0)) (da_nil)))) (dss_nil)))
theorem df_check_names {P : Program} {w : World} {K : PySem.W.Frag} {mg : Str → Option Value} {base : Heap} {ca : Str → Addr} (B : Bl mg) (d_are_names_of : Df P w K mg base "are_names_of" s_are_names_of 2 ["value", "many"] F_are_names_of) (x_InvalidNames : DLX.ExT P K mg "InvalidNames" (ca "InvalidNames")) {f : Addr} {fd : FuncData} (F : FunD K "check_names" "check_names" (defArgs s_check_names) (defBody s_check_names) (defScope s_check_names) [] [] f fd) (hm : mg "check_names" = some (.ref f)) : Df P w K mg base "check_names" s_check_names 3 ["names", "table"] (F_check_names ca) :=
  Df.mk' F hm sc_check_names rfl (fun _ _ _ _ _ _ us hl => match us, hl with | [_, _], _ => rfl) fun cdv A outer s H E c => b_check_names B d_are_names_of x_InvalidNames c

abbrev s_words_of : Stmt := top 20
abbrev N_words_of : List Str := ["table", "names", "rows", "at", "row", "number", "sums", "total"]
theorem sc_words_of : FnScope N_words_of ["table", "names"] (defScope s_words_of) := ⟨rfl, rfl, rfl, by decide +kernel, rfl, by decide +kernel, by decide +kernel⟩
def g_words_of : DL.Env → RS := sSeq (sOwn 2 (bndA (fCons (fOp2 gAdd (fOp2 gAdd (bndA (fCons (fC (.str "")) (fNil)) gMkL) (fOp2 gIx (fVar 1) (fC (.int 1)))) (bndA (fCons (fC (.str "all")) (fNil)) gMkL)) (fNil)) gMkL)) (sSeq (sFor (srcA (fCons (fVar 0) (fNil)) kEnum) (bTup [bName 3, bName 4]) (sApp 2 (fOp2 gAdd (fOp2 gAdd (bndA (fCons (fOp2 gIx (fOp2 gIx (fVar 1) (fC (.int 0))) (fVar 3)) (fNil)) gMkL) (fLc (srcE (fVar 4) itemsL) (bName 5) (fC (.bool true)) (bndA (fCons (fVar 5) (fNil)) gStr1) [5])) (bndA (fCons (bndA (fCons (bndA (fCons (fVar 4) (fNil)) gSum) (fNil)) gStr1) (fNil)) gMkL)))) (sSeq (sPut 6 (fLc (srcA (fCons (bndA (fCons (fOp2 gIx (fVar 0) (fC (.int 0))) (fNil)) gLen) (fNil)) kRng1) (bName 3) (fC (.bool true)) (bndA (fCons (fLc (srcE (fVar 0) itemsL) (bName 4) (fC (.bool true)) (fOp2 gIx (fVar 4) (fVar 3)) [4]) (fNil)) gSum) [3])) (sSeq (sApp 2 (fOp2 gAdd (fOp2 gAdd (bndA (fCons (fC (.str "all")) (fNil)) gMkL) (fLc (srcE (fVar 6) itemsL) (bName 7) (fC (.bool true)) (bndA (fCons (fVar 7) (fNil)) gStr1) [7])) (bndA (fCons (bndA (fCons (bndA (fCons (fVar 6) (fNil)) gSum) (fNil)) gStr1) (fNil)) gMkL))) (sRetOwn 2))))
def F_words_of : List Sl → RF := fnF 8 (g_words_of)
theorem b_words_of {P : Program} {w : World} {K : PySem.W.Frag} {mg : Str → Option Value} {base : Heap} (B : Bl mg) {f : Addr} {cdv : Value} {A : Around} {outer : List PySem.Env} {s : Shared} {H : Hp} {E : XK} (c : Cn (fx P w K mg base N_words_of "words_of" s_words_of f cdv A outer s H E) E 0) :
    DSs (fx P w K mg base N_words_of "words_of" s_words_of f cdv A outer s H E) E (defBody s_words_of) (g_words_of) := by
  have nd := sc_words_of.nd
  exact dss_cons (ds_own (i := 2) nd rfl (by first | exact .inl rfl | exact .inr rfl) (de_mkL (da_cons (d_add (d_add (de_mkL (da_cons (de_str) (da_nil))) (d_ix (de_var (pv 1)) (de_int))) (de_mkL (da_cons (de_str) (da_nil)))) (da_nil))))
    (dss_cons (ds_for (passes_of rfl) c.cm (di_enum rfl B.enum (da_cons (de_var (pv 0)) (da_nil))) (gt_tup (gts_cons (gt_name) (gts_cons (gt_name) (gts_nil)))) (pg_tup c.cm (pgs_cons (pg_name nd (i := 3) rfl (by first | exact .inl rfl | exact .inr rfl)) (pgs_cons (pg_name nd (i := 4) rfl (by first | exact .inl rfl | exact .inr rfl)) (pgs_nil)))) (dss_one (ds_app (fun _ h => pe_bm PySem.F.plainAttrs_list PySem.F.slot_list_append PySem.F.type_list_append mt_append (pv 2) (pa_cons h pa_nil)) (d_add (d_add (de_mkL (da_cons (d_ix (d_ix (de_var (pv 1)) (de_int)) (de_var (pv 3))) (da_nil))) (de_lc (own := [("number", 5)]) c.cm nd (di_list (de_var (pv 4))) (blkOk_by (by rfl)) (gt_name) (by decide) (fun _ _ _ _ _ => pg_name nd (i := 5) rfl (by first | exact .inl rfl | exact .inr rfl)) (fun _ _ _ _ _ => dts_nil) (fun _ _ _ _ _ => d_str B (da_cons (de_var (pv 5)) (da_nil))))) (de_mkL (da_cons (d_str B (da_cons (d_sum c B (da_cons (de_var (pv 4)) (da_nil))) (da_nil))) (da_nil)))))))
    (dss_cons (ds_lc (ps_lc (own := [("at", 3)]) c.cm nd (i := 6) rfl (di_rng1 rfl B.range (da_cons (d_len B (da_cons (d_ix (de_var (pv 0)) (de_int)) (da_nil))) (da_nil))) (blkOk_by (by rfl)) (gt_name) (by decide) (fun _ _ _ _ _ => pg_name nd (i := 3) rfl (by first | exact .inl rfl | exact .inr rfl)) (fun _ _ _ _ _ => dts_nil) (fun _ _ _ _ _ => d_sum c.blk B (da_cons (de_lc (own := [("row", 4)]) c.blk.cm nd (di_list (de_var (pv 0))) (blkOk_by (by rfl)) (gt_name) (by decide) (fun _ _ _ _ _ => pg_name nd (i := 4) rfl (by first | exact .inl rfl | exact .inr rfl)) (fun _ _ _ _ _ => dts_nil) (fun _ _ _ _ _ => d_ix (de_var (pv 4)) (de_var (pv 3)))) (da_nil))) rfl))
    (dss_cons (ds_app (fun _ h => pe_bm PySem.F.plainAttrs_list PySem.F.slot_list_append PySem.F.type_list_append mt_append (pv 2) (pa_cons h pa_nil)) (d_add (d_add (de_mkL (da_cons (de_str) (da_nil))) (de_lc (own := [("total", 7)]) c.cm nd (di_list (de_var (pv 6))) (blkOk_by (by rfl)) (gt_name) (by decide) (fun _ _ _ _ _ => pg_name nd (i := 7) rfl (by first | exact .inl rfl | exact .inr rfl)) (fun _ _ _ _ _ => dts_nil) (fun _ _ _ _ _ => d_str B (da_cons (de_var (pv 7)) (da_nil))))) (de_mkL (da_cons (d_str B (da_cons (d_sum c B (da_cons (de_var (pv 6)) (da_nil))) (da_nil))) (da_nil)))))
    (dss_one (ds_retOwn (pv 2))))))
theorem df_words_of {P : Program} {w : World} {K : PySem.W.Frag} {mg : Str → Option Value} {base : Heap} (B : Bl mg) {f : Addr} {fd : FuncData} (F : FunD K "words_of" "words_of" (defArgs s_words_of) (defBody s_words_of) (defScope s_words_of) [] [] f fd) (hm : mg "words_of" = some (.ref f)) : Df P w K mg base "words_of" s_words_of 1 ["table", "names"] (F_words_of) :=
  Df.mk' F hm sc_words_of rfl (fun _ _ _ _ _ _ us hl => match us, hl with | [_, _], _ => rfl) fun cdv A outer s H E c => b_words_of B c

abbrev s_drawn_rows : Stmt := top 21
abbrev N_drawn_rows : List Str := ["rows", "widths", "row", "at", "lines", "words", "word", "line"]
theorem sc_drawn_rows : FnScope N_drawn_rows ["rows"] (defScope s_drawn_rows) := ⟨rfl, rfl, rfl, by decide +kernel, rfl, by decide +kernel, by decide +kernel⟩
def g_drawn_rows : DL.Env → RS := sSeq (sPut 1 (fLc (srcA (fCons (bndA (fCons (fOp2 gIx (fVar 0) (fC (.int 0))) (fNil)) gLen) (fNil)) kRng1) (bName 3) (fC (.bool true)) (bndA (fCons (fLc (srcE (fVar 0) itemsL) (bName 2) (fC (.bool true)) (bndA (fCons (fOp2 gIx (fVar 2) (fVar 3)) (fNil)) gLen) [2]) (fNil)) gMaxL) [3])) (sSeq (sOwn 4 (bndA (fNil) gMkL)) (sSeq (sFor (srcE (fVar 0) itemsL) (bName 2) (sSeq (sPut 5 (fLc (srcA (fCons (fVar 2) (fNil)) kEnum) (bTup [bName 3, bName 6]) (fC (.bool true)) (fOp2 gAdd (fOp2 gMulS (fC (.str " ")) (fOp2 gSub (fOp2 gIx (fVar 1) (fVar 3)) (bndA (fCons (fVar 6) (fNil)) gLen))) (fVar 6)) [3, 6])) (sApp 4 (fOp2 gAdd (fOp2 gAdd (fOp2 gAdd (fOp2 gAdd (fOp2 gIx (fVar 5) (fC (.int 0))) (fC (.str " | "))) (fM1 gJoin (fC (.str " ")) (fOp1 (gCut (some 1) (some (-1))) (fVar 5)))) (fC (.str " | "))) (fOp2 gIx (fVar 5) (fOp1 gNeg (fC (.int 1)))))))) (sRet (fM1 gJoin (fC (.str "")) (fLc (srcE (fVar 4) itemsL) (bName 7) (fC (.bool true)) (fOp2 gAdd (fVar 7) (fC (.str "\n"))) [7])))))
def F_drawn_rows : List Sl → RF := fnF 8 (g_drawn_rows)
theorem b_drawn_rows {P : Program} {w : World} {K : PySem.W.Frag} {mg : Str → Option Value} {base : Heap} (B : Bl mg) {t_BAR : Tok} (h_BAR : mg "BAR" = some (.str " | " t_BAR)) {f : Addr} {cdv : Value} {A : Around} {outer : List PySem.Env} {s : Shared} {H : Hp} {E : XK} (c : Cn (fx P w K mg base N_drawn_rows "drawn_rows" s_drawn_rows f cdv A outer s H E) E 0) :
    DSs (fx P w K mg base N_drawn_rows "drawn_rows" s_drawn_rows f cdv A outer s H E) E (defBody s_drawn_rows) (g_drawn_rows) := by
  have nd := sc_drawn_rows.nd
  exact dss_cons (ds_put (i := 1) nd rfl (by first | exact .inl rfl | exact .inr rfl) (de_lc (own := [("at", 3)]) c.cm nd (di_rng1 rfl B.range (da_cons (d_len B (da_cons (d_ix (de_var (pv 0)) (de_int)) (da_nil))) (da_nil))) (blkOk_by (by rfl)) (gt_name) (by decide) (fun _ _ _ _ _ => pg_name nd (i := 3) rfl (by first | exact .inl rfl | exact .inr rfl)) (fun _ _ _ _ _ => dts_nil) (fun _ _ _ _ _ => d_maxL c.blk B (da_cons (de_lc (own := [("row", 2)]) c.blk.cm nd (di_list (de_var (pv 0))) (blkOk_by (by rfl)) (gt_name) (by decide) (fun _ _ _ _ _ => pg_name nd (i := 2) rfl (by first | exact .inl rfl | exact .inr rfl)) (fun _ _ _ _ _ => dts_nil) (fun _ _ _ _ _ => d_len B (da_cons (d_ix (de_var (pv 2)) (de_var (pv 3))) (da_nil)))) (da_nil)))))
    (dss_cons (ds_own (i := 4) nd rfl (by first | exact .inl rfl | exact .inr rfl) (de_mkL (da_nil)))
    (dss_cons (ds_for (passes_of rfl) c.cm (di_list (de_var (pv 0))) (gt_name) (pg_name nd (i := 2) rfl (by first | exact .inl rfl | exact .inr rfl)) (dss_cons (ds_lc (ps_lc (own := [("at", 3), ("word", 6)]) c.cm nd (i := 5) rfl (di_enum rfl B.enum (da_cons (de_var (pv 2)) (da_nil))) (blkOk_by (by rfl)) (gt_tup (gts_cons (gt_name) (gts_cons (gt_name) (gts_nil)))) (by decide) (fun _ _ _ _ _ => pg_tup c.blk.cm (pgs_cons (pg_name nd (i := 3) rfl (by first | exact .inl rfl | exact .inr rfl)) (pgs_cons (pg_name nd (i := 6) rfl (by first | exact .inl rfl | exact .inr rfl)) (pgs_nil)))) (fun _ _ _ _ _ => dts_nil) (fun _ _ _ _ _ => d_add (d_mulS (de_str) (d_sub (d_ix (de_var (pv 1)) (de_var (pv 3))) (d_len B (da_cons (de_var (pv 6)) (da_nil))))) (de_var (pv 6))) rfl))
    (dss_one (ds_app (fun _ h => pe_bm PySem.F.plainAttrs_list PySem.F.slot_list_append PySem.F.type_list_append mt_append (pv 4) (pa_cons h pa_nil)) (d_add (d_add (d_add (d_add (d_ix (de_var (pv 5)) (de_int)) (de_globS h_BAR)) (d_join (de_str) (de_cut po_c po_m (de_var (pv 5))))) (de_globS h_BAR)) (d_ix (de_var (pv 5)) (d_neg (de_int))))))))
    (dss_one (ds_ret (d_join (de_str) (de_lc (own := [("line", 7)]) c.cm nd (di_list (de_var (pv 4))) (blkOk_by (by rfl)) (gt_name) (by decide) (fun _ _ _ _ _ => pg_name nd (i := 7) rfl (by first | exact .inl rfl | exact .inr rfl)) (fun _ _ _ _ _ => dts_nil) (fun _ _ _ _ _ => d_add (de_var (pv 7)) (de_str))))))))
theorem df_drawn_rows {P : Program} {w : World} {K : PySem.W.Frag} {mg : Str → Option Value} {base : Heap} (B : Bl mg) {t_BAR : Tok} (h_BAR : mg "BAR" = some (.str " | " t_BAR)) {f : Addr} {fd : FuncData} (F : FunD K "drawn_rows" "drawn_rows" (defArgs s_drawn_rows) (defBody s_drawn_rows) (defScope s_drawn_rows) [] [] f fd) (hm : mg "drawn_rows" = some (.ref f)) : Df P w K mg base "drawn_rows" s_drawn_rows 1 ["rows"] (F_drawn_rows) :=
  Df.mk' F hm sc_drawn_rows rfl (fun _ _ _ _ _ _ us hl => match us, hl with | [_], _ => rfl) fun cdv A outer s H E c => b_drawn_rows B h_BAR c

abbrev s_text_of_grid : Stmt := top 22
abbrev N_text_of_grid : List Str := ["table", "names"]
theorem sc_text_of_grid : FnScope N_text_of_grid ["table", "names"] (defScope s_text_of_grid) := ⟨rfl, rfl, rfl, by decide +kernel, rfl, by decide +kernel, by decide +kernel⟩
def g_text_of_grid (ca : Str → Addr) : DL.Env → RS := sSeq (sDrop (fCall 1 (F_check_grid ca) (fCons (fVar 0) (fNil)))) (sSeq (sDrop (fCall 2 (F_check_names ca) (fCons (fVar 1) (fCons (fVar 0) (fNil))))) (sRet (fCall 1 F_drawn_rows (fCons (fCall 2 F_words_of (fCons (fVar 0) (fCons (fVar 1) (fNil)))) (fNil)))))
def F_text_of_grid (ca : Str → Addr) : List Sl → RF := fnF 2 (g_text_of_grid ca)
theorem b_text_of_grid {P : Program} {w : World} {K : PySem.W.Frag} {mg : Str → Option Value} {base : Heap} {ca : Str → Addr} (B : Bl mg) (d_check_grid : Df P w K mg base "check_grid" s_check_grid 3 ["table"] (F_check_grid ca)) (d_check_names : Df P w K mg base "check_names" s_check_names 3 ["names", "table"] (F_check_names ca)) (d_drawn_rows : Df P w K mg base "drawn_rows" s_drawn_rows 1 ["rows"] F_drawn_rows) (d_words_of : Df P w K mg base "words_of" s_words_of 1 ["table", "names"] F_words_of) {f : Addr} {cdv : Value} {A : Around} {outer : List PySem.Env} {s : Shared} {H : Hp} {E : XK} (c : Cn (fx P w K mg base N_text_of_grid "text_of_grid" s_text_of_grid f cdv A outer s H E) E 3) :
    DSs (fx P w K mg base N_text_of_grid "text_of_grid" s_text_of_grid f cdv A outer s H E) E (defBody s_text_of_grid) (g_text_of_grid ca) := by
  have nd := sc_text_of_grid.nd
  exact dss_cons (ds_drop (de_call d_check_grid c (da_cons (de_var (pv 0)) (da_nil))))
    (dss_cons (ds_drop (de_call d_check_names c (da_cons (de_var (pv 1)) (da_cons (de_var (pv 0)) (da_nil)))))
    (dss_one (ds_ret (de_call d_drawn_rows c (da_cons (de_call d_words_of c (da_cons (de_var (pv 0)) (da_cons (de_var (pv 1)) (da_nil)))) (da_nil))))))
theorem df_text_of_grid {P : Program} {w : World} {K : PySem.W.Frag} {mg : Str → Option Value} {base : Heap} {ca : Str → Addr} (B : Bl mg) (d_check_grid : Df P w K mg base "check_grid" s_check_grid 3 ["table"] (F_check_grid ca)) (d_check_names : Df P w K mg base "check_names" s_check_names 3 ["names", "table"] (F_check_names ca)) (d_drawn_rows : Df P w K mg base "drawn_rows" s_drawn_rows 1 ["rows"] F_drawn_rows) (d_words_of : Df P w K mg base "words_of" s_words_of 1 ["table", "names"] F_words_of) {f : Addr} {fd : FuncData} (F : FunD K "text_of_grid" "text_of_grid" (defArgs s_text_of_grid) (defBody s_text_of_grid) (defScope s_text_of_grid) [] [] f fd) (hm : mg "text_of_grid" = some (.ref f)) : Df P w K mg base "text_of_grid" s_text_of_grid 4 ["table", "names"] (F_text_of_grid ca) :=
  Df.mk' F hm sc_text_of_grid rfl (fun _ _ _ _ _ _ us hl => match us, hl with | [_, _], _ => rfl) fun cdv A outer s H E c => b_text_of_grid B d_check_grid d_check_names d_drawn_rows d_words_of c

abbrev s_parts_in : Stmt := top 23
abbrev N_parts_in : List Str := ["line", "parts"]
theorem sc_parts_in : FnScope N_parts_in ["line"] (defScope s_parts_in) := ⟨rfl, rfl, rfl, by decide +kernel, rfl, by decide +kernel, by decide +kernel⟩
def g_parts_in : DL.Env → RS := sSeq (sPut 1 (fM1 gSplit (fVar 0) (fC (.str " | ")))) (sSeq (sIf (fOp2 gNe (bndA (fCons (fVar 1) (fNil)) gLen) (fC (.int 3))) (sRet (fC .none)) (.nx)) (sRet (fOp2 gAdd (fOp2 gAdd (bndA (fCons (fM0 gStrip (fOp2 gIx (fVar 1) (fC (.int 0)))) (fNil)) gMkL) (fM0 gWords (fOp2 gIx (fVar 1) (fC (.int 1))))) (bndA (fCons (fM0 gStrip (fOp2 gIx (fVar 1) (fC (.int 2)))) (fNil)) gMkL))))
def F_parts_in : List Sl → RF := fnF 2 (g_parts_in)
theorem b_parts_in {P : Program} {w : World} {K : PySem.W.Frag} {mg : Str → Option Value} {base : Heap} (B : Bl mg) {t_BAR : Tok} (h_BAR : mg "BAR" = some (.str " | " t_BAR)) {f : Addr} {cdv : Value} {A : Around} {outer : List PySem.Env} {s : Shared} {H : Hp} {E : XK} (c : Cn (fx P w K mg base N_parts_in "parts_in" s_parts_in f cdv A outer s H E) E 0) :
    DSs (fx P w K mg base N_parts_in "parts_in" s_parts_in f cdv A outer s H E) E (defBody s_parts_in) (g_parts_in) := by
  have nd := sc_parts_in.nd
  exact dss_cons (ds_put (i := 1) nd rfl (by first | exact .inl rfl | exact .inr rfl) (d_split (de_var (pv 0)) (de_globS h_BAR)))
    (dss_cons (ds_if (t_ne c (d_len B (da_cons (de_var (pv 1)) (da_nil))) (de_int)) (dss_one (ds_ret (de_non))) (dss_nil))
    (dss_one (ds_ret (d_add (d_add (de_mkL (da_cons (d_strip (d_ix (de_var (pv 1)) (de_int))) (da_nil))) (d_words (d_ix (de_var (pv 1)) (de_int)))) (de_mkL (da_cons (d_strip (d_ix (de_var (pv 1)) (de_int))) (da_nil)))))))
theorem df_parts_in {P : Program} {w : World} {K : PySem.W.Frag} {mg : Str → Option Value} {base : Heap} (B : Bl mg) {t_BAR : Tok} (h_BAR : mg "BAR" = some (.str " | " t_BAR)) {f : Addr} {fd : FuncData} (F : FunD K "parts_in" "parts_in" (defArgs s_parts_in) (defBody s_parts_in) (defScope s_parts_in) [] [] f fd) (hm : mg "parts_in" = some (.ref f)) : Df P w K mg base "parts_in" s_parts_in 1 ["line"] (F_parts_in) :=
  Df.mk' F hm sc_parts_in rfl (fun _ _ _ _ _ _ us hl => match us, hl with | [_], _ => rfl) fun cdv A outer s H E c => b_parts_in B h_BAR c

abbrev s_grid_of_text : Stmt := top 24
abbrev N_grid_of_text : List Str := ["text", "lines", "rows", "line", "row", "names", "table", "word"]
theorem sc_grid_of_text : FnScope N_grid_of_text ["text"] (defScope s_grid_of_text) := ⟨rfl, rfl, rfl, by decide +kernel, rfl, by decide +kernel, by decide +kernel⟩
def g_grid_of_text (ca : Str → Addr) : DL.Env → RS := sSeq (sPut 1 (fCall 1 F_ended_lines (fCons (fVar 0) (fNil)))) (sSeq (sPut 2 (fIf (fOp2 gIsN (fVar 1) (fC .none)) (bndA (fNil) gMkL) (fLc (srcE (fVar 1) itemsL) (bName 3) (fC (.bool true)) (fCall 1 F_parts_in (fCons (fVar 3) (fNil))) [3]))) (sSeq (sIf (fOr (fOp2 gLt (bndA (fCons (fVar 2) (fNil)) gLen) (fC (.int 3))) (fOr (fOp2 gInD (fC .none) (fVar 2)) (fOp2 gNe (fLc (srcE (fVar 2) itemsL) (bName 4) (fOp2 gNe (bndA (fCons (fVar 4) (fNil)) gLen) (bndA (fCons (fOp2 gIx (fVar 2) (fC (.int 0))) (fNil)) gLen)) (fVar 4) [4]) (bndA (fNil) gMkL)))) (sRaise (ca "InvalidText") (fCons (fVar 0) (fNil))) (.nx)) (sSeq (sPut 5 (bndA (fCons (fLc (srcE (fOp1 (gCut (some 1) (some (-1))) (fVar 2)) itemsL) (bName 4) (fC (.bool true)) (fOp2 gIx (fVar 4) (fC (.int 0))) [4]) (fCons (fOp1 (gCut (some 1) (some (-1))) (fOp2 gIx (fVar 2) (fC (.int 0)))) (fNil))) gMkT)) (sSeq (sPut 6 (fLc (srcE (fOp1 (gCut (some 1) (some (-1))) (fVar 2)) itemsL) (bName 4) (fC (.bool true)) (fLc (srcE (fOp1 (gCut (some 1) (some (-1))) (fVar 4)) itemsL) (bName 7) (fC (.bool true)) (fCall 1 F_read_whole (fCons (fVar 7) (fNil))) [7]) [4])) (sSeq (sIf (fOr (fNot (fCall 1 F_is_grid (fCons (fVar 6) (fNil)))) (fOr (fNot (fCall 2 F_are_names_of (fCons (fOp2 gIx (fVar 5) (fC (.int 0))) (fCons (bndA (fCons (fVar 6) (fNil)) gLen) (fNil))))) (fNot (fCall 2 F_are_names_of (fCons (fOp2 gIx (fVar 5) (fC (.int 1))) (fCons (bndA (fCons (fOp2 gIx (fVar 6) (fC (.int 0))) (fNil)) gLen) (fNil))))))) (sRaise (ca "InvalidText") (fCons (fVar 0) (fNil))) (.nx)) (sSeq (sIf (fOp2 gNe (fCall 1 F_drawn_rows (fCons (fCall 2 F_words_of (fCons (fVar 6) (fCons (fVar 5) (fNil)))) (fNil))) (fVar 0)) (sRaise (ca "InvalidText") (fCons (fVar 0) (fNil))) (.nx)) (sRet (bndA (fCons (fVar 6) (fCons (fVar 5) (fNil))) gMkT))))))))
def F_grid_of_text (ca : Str → Addr) : List Sl → RF := fnF 8 (g_grid_of_text ca)
theorem b_grid_of_text {P : Program} {w : World} {K : PySem.W.Frag} {mg : Str → Option Value} {base : Heap} {ca : Str → Addr} (B : Bl mg) (d_ended_lines : Df P w K mg base "ended_lines" s_ended_lines 1 ["text"] F_ended_lines) (d_parts_in : Df P w K mg base "parts_in" s_parts_in 1 ["line"] F_parts_in) (d_read_whole : Df P w K mg base "read_whole" s_read_whole 2 ["word"] F_read_whole) (d_is_grid : Df P w K mg base "is_grid" s_is_grid 2 ["value"] F_is_grid) (d_are_names_of : Df P w K mg base "are_names_of" s_are_names_of 2 ["value", "many"] F_are_names_of) (d_drawn_rows : Df P w K mg base "drawn_rows" s_drawn_rows 1 ["rows"] F_drawn_rows) (d_words_of : Df P w K mg base "words_of" s_words_of 1 ["table", "names"] F_words_of) (x_InvalidText : DLX.ExT P K mg "InvalidText" (ca "InvalidText")) {f : Addr} {cdv : Value} {A : Around} {outer : List PySem.Env} {s : Shared} {H : Hp} {E : XK} (c : Cn (fx P w K mg base N_grid_of_text "grid_of_text" s_grid_of_text f cdv A outer s H E) E 2) :
    DSs (fx P w K mg base N_grid_of_text "grid_of_text" s_grid_of_text f cdv A outer s H E) E (defBody s_grid_of_text) (g_grid_of_text ca) := by
  have nd := sc_grid_of_text.nd
  exact dss_cons (ds_put (i := 1) nd rfl (by first | exact .inl rfl | exact .inr rfl) (de_call d_ended_lines c (da_cons (de_var (pv 0)) (da_nil))))
    (dss_cons (ds_put (i := 2) nd rfl (by first | exact .inl rfl | exact .inr rfl) (de_if (t_is (de_var (pv 1)) (de_non)) (de_mkL (da_nil)) (de_lc (own := [("line", 3)]) c.cm nd (di_list (de_var (pv 1))) (blkOk_by (by rfl)) (gt_name) (by decide) (fun _ _ _ _ _ => pg_name nd (i := 3) rfl (by first | exact .inl rfl | exact .inr rfl)) (fun _ _ _ _ _ => dts_nil) (fun _ _ _ _ _ => de_call d_parts_in c.blk (da_cons (de_var (pv 3)) (da_nil))))))
    (dss_cons (ds_if (dt_w (dw_or (t_lt (d_len B (da_cons (de_var (pv 2)) (da_nil))) (de_int)) (dw_or (t_inD c (de_non) (de_var (pv 2))) (dw_or1 (t_ne c (de_lc (own := [("row", 4)]) c.cm nd (di_list (de_var (pv 2))) (blkOk_by (by rfl)) (gt_name) (by decide) (fun _ _ _ _ _ => pg_name nd (i := 4) rfl (by first | exact .inl rfl | exact .inr rfl)) (fun _ _ _ _ _ => dts_one (t_ne c.blk (d_len B (da_cons (de_var (pv 4)) (da_nil))) (d_len B (da_cons (d_ix (de_var (pv 2)) (de_int)) (da_nil))))) (fun _ _ _ _ _ => de_var (pv 4))) (de_mkL (da_nil))))))) (dss_one (ds_raise x_InvalidText c (da_cons (de_var (pv 0)) (da_nil)))) (dss_nil))
    (dss_cons (ds_put (i := 5) nd rfl (by first | exact .inl rfl | exact .inr rfl) (de_mkT (da_cons (de_lc (own := [("row", 4)]) c.cm nd (di_list (de_cut po_c po_m (de_var (pv 2)))) (blkOk_by (by rfl)) (gt_name) (by decide) (fun _ _ _ _ _ => pg_name nd (i := 4) rfl (by first | exact .inl rfl | exact .inr rfl)) (fun _ _ _ _ _ => dts_nil) (fun _ _ _ _ _ => d_ix (de_var (pv 4)) (de_int))) (da_cons (de_cut po_c po_m (d_ix (de_var (pv 2)) (de_int))) (da_nil)))))
    (dss_cons (ds_lc (ps_lc (own := [("row", 4)]) c.cm nd (i := 6) rfl (di_list (de_cut po_c po_m (de_var (pv 2)))) (blkOk_by (by rfl)) (gt_name) (by decide) (fun _ _ _ _ _ => pg_name nd (i := 4) rfl (by first | exact .inl rfl | exact .inr rfl)) (fun _ _ _ _ _ => dts_nil) (fun _ _ _ _ _ => de_lc (own := [("word", 7)]) c.blk.cm nd (di_list (de_cut po_c po_m (de_var (pv 4)))) (blkOk_by (by rfl)) (gt_name) (by decide) (fun _ _ _ _ _ => pg_name nd (i := 7) rfl (by first | exact .inl rfl | exact .inr rfl)) (fun _ _ _ _ _ => dts_nil) (fun _ _ _ _ _ => de_call d_read_whole c.blk.blk (da_cons (de_var (pv 7)) (da_nil)))) rfl))
    (dss_cons (ds_if (dt_w (dw_or (dt_not (dt_val (de_call d_is_grid c (da_cons (de_var (pv 6)) (da_nil))))) (dw_or (dt_not (dt_val (de_call d_are_names_of c (da_cons (d_ix (de_var (pv 5)) (de_int)) (da_cons (d_len B (da_cons (de_var (pv 6)) (da_nil))) (da_nil)))))) (dw_or1 (dt_not (dt_val (de_call d_are_names_of c (da_cons (d_ix (de_var (pv 5)) (de_int)) (da_cons (d_len B (da_cons (d_ix (de_var (pv 6)) (de_int)) (da_nil))) (da_nil)))))))))) (dss_one (ds_raise x_InvalidText c (da_cons (de_var (pv 0)) (da_nil)))) (dss_nil))
    (dss_cons (ds_if (t_ne c (de_call d_drawn_rows c (da_cons (de_call d_words_of c (da_cons (de_var (pv 6)) (da_cons (de_var (pv 5)) (da_nil)))) (da_nil))) (de_var (pv 0))) (dss_one (ds_raise x_InvalidText c (da_cons (de_var (pv 0)) (da_nil)))) (dss_nil))
    (dss_one (ds_ret (de_mkT (da_cons (de_var (pv 6)) (da_cons (de_var (pv 5)) (da_nil))))))))))))
theorem df_grid_of_text {P : Program} {w : World} {K : PySem.W.Frag} {mg : Str → Option Value} {base : Heap} {ca : Str → Addr} (B : Bl mg) (d_ended_lines : Df P w K mg base "ended_lines" s_ended_lines 1 ["text"] F_ended_lines) (d_parts_in : Df P w K mg base "parts_in" s_parts_in 1 ["line"] F_parts_in) (d_read_whole : Df P w K mg base "read_whole" s_read_whole 2 ["word"] F_read_whole) (d_is_grid : Df P w K mg base "is_grid" s_is_grid 2 ["value"] F_is_grid) (d_are_names_of : Df P w K mg base "are_names_of" s_are_names_of 2 ["value", "many"] F_are_names_of) (d_drawn_rows : Df P w K mg base "drawn_rows" s_drawn_rows 1 ["rows"] F_drawn_rows) (d_words_of : Df P w K mg base "words_of" s_words_of 1 ["table", "names"] F_words_of) (x_InvalidText : DLX.ExT P K mg "InvalidText" (ca "InvalidText")) {f : Addr} {fd : FuncData} (F : FunD K "grid_of_text" "grid_of_text" (defArgs s_grid_of_text) (defBody s_grid_of_text) (defScope s_grid_of_text) [] [] f fd) (hm : mg "grid_of_text" = some (.ref f)) : Df P w K mg base "grid_of_text" s_grid_of_text 3 ["text"] (F_grid_of_text ca) :=
  Df.mk' F hm sc_grid_of_text rfl (fun _ _ _ _ _ _ us hl => match us, hl with | [_], _ => rfl) fun cdv A outer s H E c => b_grid_of_text B d_ended_lines d_parts_in d_read_whole d_is_grid d_are_names_of d_drawn_rows d_words_of x_InvalidText c

abbrev s_l_hash : Stmt := top 26
abbrev N_l_hash : List Str := ["seed", "index", "mixed"]
theorem sc_l_hash : FnScope N_l_hash ["seed", "index"] (defScope s_l_hash) := ⟨rfl, rfl, rfl, by decide +kernel, rfl, by decide +kernel, by decide +kernel⟩
def g_l_hash : DL.Env → RS := sSeq (sPut 2 (fOp2 gMod (bndA (fCons (fOp2 gAdd (fOp2 gAdd (fOp2 gAdd (fOp2 gMul (fVar 0) (fC (.int 1140671))) (fOp2 gMul (fOp2 gMul (fC (.int 27644437)) (fVar 1)) (fVar 1))) (fOp2 gMul (fC (.int 131)) (fVar 1))) (fC (.int 19))) (fNil)) gInt1) (fC (.int 2147483629)))) (sSeq (sPut 2 (fOp2 gMod (bndA (fCons (fOp2 gAdd (fOp2 gAdd (fOp2 gMul (fVar 2) (fVar 2)) (fOp2 gMul (fC (.int 62089)) (fVar 1))) (fC (.int 32416187))) (fNil)) gInt1) (fC (.int 2147483587)))) (sRet (fOp2 gMod (bndA (fCons (fOp2 gMul (fVar 2) (fC (.int 48271))) (fNil)) gInt1) (fC (.int 2147483647)))))
def F_l_hash : List Sl → RF := fnF 3 (g_l_hash)
theorem b_l_hash {P : Program} {w : World} {K : PySem.W.Frag} {mg : Str → Option Value} {base : Heap} (B : Bl mg) {f : Addr} {cdv : Value} {A : Around} {outer : List PySem.Env} {s : Shared} {H : Hp} {E : XK} (c : Cn (fx P w K mg base N_l_hash "_law_hash" s_l_hash f cdv A outer s H E) E 0) :
    DSs (fx P w K mg base N_l_hash "_law_hash" s_l_hash f cdv A outer s H E) E (defBody s_l_hash) (g_l_hash) := by
  have nd := sc_l_hash.nd
  exact dss_cons (ds_put (i := 2) nd rfl (by first | exact .inl rfl | exact .inr rfl) (d_mod (d_int B (da_cons (d_add (d_add (d_add (d_mul (de_var (pv 0)) (de_int)) (d_mul (d_mul (de_int) (de_var (pv 1))) (de_var (pv 1)))) (d_mul (de_int) (de_var (pv 1)))) (de_int)) (da_nil))) (de_int)))
    (dss_cons (ds_put (i := 2) nd rfl (by first | exact .inl rfl | exact .inr rfl) (d_mod (d_int B (da_cons (d_add (d_add (d_mul (de_var (pv 2)) (de_var (pv 2))) (d_mul (de_int) (de_var (pv 1)))) (de_int)) (da_nil))) (de_int)))
    (dss_one (ds_ret (d_mod (d_int B (da_cons (d_mul (de_var (pv 2)) (de_int)) (da_nil))) (de_int)))))
theorem df_l_hash {P : Program} {w : World} {K : PySem.W.Frag} {mg : Str → Option Value} {base : Heap} (B : Bl mg) {f : Addr} {fd : FuncData} (F : FunD K "_law_hash" "_law_hash" (defArgs s_l_hash) (defBody s_l_hash) (defScope s_l_hash) [] [] f fd) (hm : mg "_law_hash" = some (.ref f)) : Df P w K mg base "_law_hash" s_l_hash 1 ["seed", "index"] (F_l_hash) :=
  Df.mk' F hm sc_l_hash rfl (fun _ _ _ _ _ _ us hl => match us, hl with | [_, _], _ => rfl) fun cdv A outer s H E c => b_l_hash B c

abbrev s_l_random : Stmt := top 27
abbrev N_l_random : List Str := ["generator", "bound", "drawn", "turn"]
theorem sc_l_random : FnScope N_l_random ["generator", "bound"] (defScope s_l_random) := ⟨rfl, rfl, rfl, by decide +kernel, rfl, by decide +kernel, by decide +kernel⟩
def g_l_random : DL.Env → RS := sSeq (sIf (fOp2 gGt (fIxO 0 (fC (.int 0))) (fC (.int 0))) (sSeq (sPut 2 (fOp2 gMod (bndA (fCons (fIxO 0 (fC (.int 0))) (fNil)) gInt1) (fVar 1))) (sSeq (sSetO 0 (fOp2 gDiv (fIxO 0 (fC (.int 0))) (fVar 1)) (fC (.int 0))) (sRet (fVar 2)))) (.nx)) (sSeq (sPut 2 (fC (.int 0))) (sSeq (sFor (srcA (fCons (fOp2 gAdd (fC (.int 1)) (fOp2 gDiv (fOp1 gBits (fVar 1)) (fC (.int 30)))) (fNil)) kRng1) (bName 3) (sSeq (sSetO 0 (fOp2 gAdd (fIxO 0 (fC (.int 2))) (fC (.int 1))) (fC (.int 2))) (sPut 2 (fOp2 gAdd (fOp2 gMul (fVar 2) (fC (.int 2147483587))) (fCall 2 F_l_hash (fCons (fIxO 0 (fC (.int 1))) (fCons (fIxO 0 (fC (.int 2))) (fNil)))))))) (sRet (fOp2 gMod (bndA (fCons (fVar 2) (fNil)) gInt1) (fVar 1)))))
def F_l_random : List Sl → RF := fnF 4 (g_l_random)
theorem b_l_random {P : Program} {w : World} {K : PySem.W.Frag} {mg : Str → Option Value} {base : Heap} (B : Bl mg) (d_l_hash : Df P w K mg base "_law_hash" s_l_hash 1 ["seed", "index"] F_l_hash) {f : Addr} {cdv : Value} {A : Around} {outer : List PySem.Env} {s : Shared} {H : Hp} {E : XK} (c : Cn (fx P w K mg base N_l_random "_law_random" s_l_random f cdv A outer s H E) E 1) :
    DSs (fx P w K mg base N_l_random "_law_random" s_l_random f cdv A outer s H E) E (defBody s_l_random) (g_l_random) := by
  have nd := sc_l_random.nd
  exact dss_cons (ds_if (t_gt (de_ixO (pv 0) (de_int)) (de_int)) (dss_cons (ds_put (i := 2) nd rfl (by first | exact .inl rfl | exact .inr rfl) (d_mod (d_int B (da_cons (de_ixO (pv 0) (de_int)) (da_nil))) (de_var (pv 1))))
    (dss_cons (ds_setO (pv 0) (d_div (de_ixO (pv 0) (de_int)) (de_var (pv 1))) (de_int))
    (dss_one (ds_ret (de_var (pv 2)))))) (dss_nil))
    (dss_cons (ds_put (i := 2) nd rfl (by first | exact .inl rfl | exact .inr rfl) (de_int))
    (dss_cons (ds_for (passes_of rfl) c.cm (di_rng1 rfl B.range (da_cons (d_add (de_int) (d_div (d_bits (de_var (pv 1))) (de_int))) (da_nil))) (gt_name) (pg_name nd (i := 3) rfl (by first | exact .inl rfl | exact .inr rfl)) (dss_cons (ds_setO (pv 0) (d_add (de_ixO (pv 0) (de_int)) (de_int)) (de_int))
    (dss_one (ds_put (i := 2) nd rfl (by first | exact .inl rfl | exact .inr rfl) (d_add (d_mul (de_var (pv 2)) (de_int)) (de_call d_l_hash c (da_cons (de_ixO (pv 0) (de_int)) (da_cons (de_ixO (pv 0) (de_int)) (da_nil)))))))))
    (dss_one (ds_ret (d_mod (d_int B (da_cons (de_var (pv 2)) (da_nil))) (de_var (pv 1)))))))
theorem df_l_random {P : Program} {w : World} {K : PySem.W.Frag} {mg : Str → Option Value} {base : Heap} (B : Bl mg) (d_l_hash : Df P w K mg base "_law_hash" s_l_hash 1 ["seed", "index"] F_l_hash) {f : Addr} {fd : FuncData} (F : FunD K "_law_random" "_law_random" (defArgs s_l_random) (defBody s_l_random) (defScope s_l_random) [] [] f fd) (hm : mg "_law_random" = some (.ref f)) : Df P w K mg base "_law_random" s_l_random 2 ["generator", "bound"] (F_l_random) :=
  Df.mk' F hm sc_l_random rfl (fun _ _ _ _ _ _ us hl => match us, hl with | [_, _], _ => rfl) fun cdv A outer s H E c => b_l_random B d_l_hash c

abbrev s_l_pick : Stmt := top 30
abbrev N_l_pick : List Str := ["generator", "things"]
theorem sc_l_pick : FnScope N_l_pick ["generator", "things"] (defScope s_l_pick) := ⟨rfl, rfl, rfl, by decide +kernel, rfl, by decide +kernel, by decide +kernel⟩
def g_l_pick : DL.Env → RS := sRet (fOp2 gIx (fVar 1) (fLend 2 0 F_l_random (fCons (bndA (fCons (fVar 1) (fNil)) gLen) (fNil))))
def F_l_pick : List Sl → RF := fnF 2 (g_l_pick)
theorem b_l_pick {P : Program} {w : World} {K : PySem.W.Frag} {mg : Str → Option Value} {base : Heap} (B : Bl mg) (d_l_random : Df P w K mg base "_law_random" s_l_random 2 ["generator", "bound"] F_l_random) {f : Addr} {cdv : Value} {A : Around} {outer : List PySem.Env} {s : Shared} {H : Hp} {E : XK} (c : Cn (fx P w K mg base N_l_pick "_law_pick" s_l_pick f cdv A outer s H E) E 2) :
    DSs (fx P w K mg base N_l_pick "_law_pick" s_l_pick f cdv A outer s H E) E (defBody s_l_pick) (g_l_pick) := by
  have nd := sc_l_pick.nd
  exact dss_one (ds_ret (d_ix (de_var (pv 1)) (de_lend d_l_random c (pv 0) (da_cons (d_len B (da_cons (de_var (pv 1)) (da_nil))) (da_nil)))))
theorem df_l_pick {P : Program} {w : World} {K : PySem.W.Frag} {mg : Str → Option Value} {base : Heap} (B : Bl mg) (d_l_random : Df P w K mg base "_law_random" s_l_random 2 ["generator", "bound"] F_l_random) {f : Addr} {fd : FuncData} (F : FunD K "_law_pick" "_law_pick" (defArgs s_l_pick) (defBody s_l_pick) (defScope s_l_pick) [] [] f fd) (hm : mg "_law_pick" = some (.ref f)) : Df P w K mg base "_law_pick" s_l_pick 3 ["generator", "things"] (F_l_pick) :=
  Df.mk' F hm sc_l_pick rfl (fun _ _ _ _ _ _ us hl => match us, hl with | [_, _], _ => rfl) fun cdv A outer s H E c => b_l_pick B d_l_random c

abbrev s_l_drawn_order : Stmt := top 31
abbrev N_l_drawn_order : List Str := ["generator", "things", "left", "found"]
theorem sc_l_drawn_order : FnScope N_l_drawn_order ["generator", "things"] (defScope s_l_drawn_order) := ⟨rfl, rfl, rfl, by decide +kernel, rfl, by decide +kernel, by decide +kernel⟩
def g_l_drawn_order : DL.Env → RS := sSeq (sParO 2 3 (bndA (fCons (fVar 1) (fNil)) gListOf) (bndA (fNil) gMkL)) (sSeq ((fun ρ => whGo (fNeNilO 2) (sApp 3 (fPop 2 (fLend 2 0 F_l_random (fCons (fLenO 2) (fNil))))) (m_l_drawn_order ρ) ρ)) (sRetOwn 3))
def F_l_drawn_order : List Sl → RF := fnF 4 (g_l_drawn_order)
theorem b_l_drawn_order {P : Program} {w : World} {K : PySem.W.Frag} {mg : Str → Option Value} {base : Heap} (B : Bl mg) (d_l_random : Df P w K mg base "_law_random" s_l_random 2 ["generator", "bound"] F_l_random) {f : Addr} {cdv : Value} {A : Around} {outer : List PySem.Env} {s : Shared} {H : Hp} {E : XK} (c : Cn (fx P w K mg base N_l_drawn_order "_law_drawn_order" s_l_drawn_order f cdv A outer s H E) E 2) :
    DSs (fx P w K mg base N_l_drawn_order "_law_drawn_order" s_l_drawn_order f cdv A outer s H E) E (defBody s_l_drawn_order) (g_l_drawn_order) := by
  have nd := sc_l_drawn_order.nd
  exact dss_cons (ds_parO (i := 2) (j := 3) c.cm nd rfl rfl (by decide) rfl rfl (d_list B (da_cons (de_var (pv 1)) (da_nil))) (de_mkL (da_nil)))
    (dss_cons (ds_while m_l_drawn_order (passes_of rfl) (t_neNilO c (pv 2)) (dss_one (ds_app (fun _ h => pe_bm PySem.F.plainAttrs_list PySem.F.slot_list_append PySem.F.type_list_append mt_append (pv 3) (pa_cons h pa_nil)) (de_pop (pv 2) (de_lend d_l_random c (pv 0) (da_cons (d_lenO B (pv 2)) (da_nil)))))))
    (dss_one (ds_retOwn (pv 3))))
theorem df_l_drawn_order {P : Program} {w : World} {K : PySem.W.Frag} {mg : Str → Option Value} {base : Heap} (B : Bl mg) (d_l_random : Df P w K mg base "_law_random" s_l_random 2 ["generator", "bound"] F_l_random) {f : Addr} {fd : FuncData} (F : FunD K "_law_drawn_order" "_law_drawn_order" (defArgs s_l_drawn_order) (defBody s_l_drawn_order) (defScope s_l_drawn_order) [] [] f fd) (hm : mg "_law_drawn_order" = some (.ref f)) : Df P w K mg base "_law_drawn_order" s_l_drawn_order 3 ["generator", "things"] (F_l_drawn_order) :=
  Df.mk' F hm sc_l_drawn_order rfl (fun _ _ _ _ _ _ us hl => match us, hl with | [_, _], _ => rfl) fun cdv A outer s H E c => b_l_drawn_order B d_l_random c

abbrev s_l_bent : Stmt := top 35
abbrev N_l_bent : List Str := ["generator", "text", "signs", "way", "at", "sign"]
theorem sc_l_bent : FnScope N_l_bent ["generator", "text", "signs"] (defScope s_l_bent) := ⟨rfl, rfl, rfl, by decide +kernel, rfl, by decide +kernel, by decide +kernel⟩
def g_l_bent : DL.Env → RS := sSeq (sPar 3 4 (fLend 2 0 F_l_random (fCons (fC (.int 8)) (fNil))) (fLend 2 0 F_l_random (fCons (fOp2 gAdd (bndA (fCons (fVar 1) (fNil)) gLen) (fC (.int 1))) (fNil)))) (sSeq (sPut 5 (fOp2 gIx (fVar 2) (fLend 2 0 F_l_random (fCons (bndA (fCons (fVar 2) (fNil)) gLen) (fNil))))) (sSeq (sIf (fOp2 gLt (fVar 3) (fC (.int 3))) (sRet (fOp2 gAdd (fOp2 gCutSH (fVar 1) (fVar 4)) (fOp2 gCutSL (fVar 1) (fOp2 gAdd (fVar 4) (fC (.int 1)))))) (.nx)) (sSeq (sIf (fOp2 gLt (fVar 3) (fC (.int 6))) (sRet (fOp2 gAdd (fOp2 gAdd (fOp2 gCutSH (fVar 1) (fVar 4)) (fVar 5)) (fOp2 gCutSL (fVar 1) (fVar 4)))) (.nx)) (sRet (fOp2 gAdd (fOp2 gAdd (fOp2 gCutSH (fVar 1) (fVar 4)) (fVar 5)) (fOp2 gCutSL (fVar 1) (fOp2 gAdd (fVar 4) (fC (.int 1)))))))))
def F_l_bent : List Sl → RF := fnF 6 (g_l_bent)
theorem b_l_bent {P : Program} {w : World} {K : PySem.W.Frag} {mg : Str → Option Value} {base : Heap} (B : Bl mg) (d_l_random : Df P w K mg base "_law_random" s_l_random 2 ["generator", "bound"] F_l_random) {f : Addr} {cdv : Value} {A : Around} {outer : List PySem.Env} {s : Shared} {H : Hp} {E : XK} (c : Cn (fx P w K mg base N_l_bent "_law_bent" s_l_bent f cdv A outer s H E) E 2) :
    DSs (fx P w K mg base N_l_bent "_law_bent" s_l_bent f cdv A outer s H E) E (defBody s_l_bent) (g_l_bent) := by
  have nd := sc_l_bent.nd
  exact dss_cons (ds_par (i := 3) (j := 4) c.cm nd rfl rfl (by decide) rfl rfl (de_lend d_l_random c (pv 0) (da_cons (de_int) (da_nil))) (de_lend d_l_random c (pv 0) (da_cons (d_add (d_len B (da_cons (de_var (pv 1)) (da_nil))) (de_int)) (da_nil))))
    (dss_cons (ds_put (i := 5) nd rfl (by first | exact .inl rfl | exact .inr rfl) (d_ix (de_var (pv 2)) (de_lend d_l_random c (pv 0) (da_cons (d_len B (da_cons (de_var (pv 2)) (da_nil))) (da_nil)))))
    (dss_cons (ds_if (t_lt (de_var (pv 3)) (de_int)) (dss_one (ds_ret (d_add (de_cutSH (de_var (pv 1)) (de_var (pv 4))) (de_cutSL (de_var (pv 1)) (d_add (de_var (pv 4)) (de_int)))))) (dss_nil))
    (dss_cons (ds_if (t_lt (de_var (pv 3)) (de_int)) (dss_one (ds_ret (d_add (d_add (de_cutSH (de_var (pv 1)) (de_var (pv 4))) (de_var (pv 5))) (de_cutSL (de_var (pv 1)) (de_var (pv 4)))))) (dss_nil))
    (dss_one (ds_ret (d_add (d_add (de_cutSH (de_var (pv 1)) (de_var (pv 4))) (de_var (pv 5))) (de_cutSL (de_var (pv 1)) (d_add (de_var (pv 4)) (de_int)))))))))
theorem df_l_bent {P : Program} {w : World} {K : PySem.W.Frag} {mg : Str → Option Value} {base : Heap} (B : Bl mg) (d_l_random : Df P w K mg base "_law_random" s_l_random 2 ["generator", "bound"] F_l_random) {f : Addr} {fd : FuncData} (F : FunD K "_law_bent" "_law_bent" (defArgs s_l_bent) (defBody s_l_bent) (defScope s_l_bent) [] [] f fd) (hm : mg "_law_bent" = some (.ref f)) : Df P w K mg base "_law_bent" s_l_bent 3 ["generator", "text", "signs"] (F_l_bent) :=
  Df.mk' F hm sc_l_bent rfl (fun _ _ _ _ _ _ us hl => match us, hl with | [_, _, _], _ => rfl) fun cdv A outer s H E c => b_l_bent B d_l_random c

abbrev s_l_drawing : Stmt := top 37
abbrev N_l_drawing : List Str := ["table", "names", "rows", "at", "row", "number", "sums", "wide", "told", "words"]
theorem sc_l_drawing : FnScope N_l_drawing ["table", "names"] (defScope s_l_drawing) := ⟨rfl, rfl, rfl, by decide +kernel, rfl, by decide +kernel, by decide +kernel⟩
def g_l_drawing : DL.Env → RS := sSeq (sOwn 2 (bndA (fCons (fOp2 gAdd (fOp2 gAdd (bndA (fCons (fC (.str "")) (fNil)) gMkL) (fOp2 gIx (fVar 1) (fC (.int 1)))) (bndA (fCons (fC (.str "all")) (fNil)) gMkL)) (fNil)) gMkL)) (sSeq (sFor (srcA (fCons (fVar 0) (fNil)) kEnum) (bTup [bName 3, bName 4]) (sApp 2 (fOp2 gAdd (fOp2 gAdd (bndA (fCons (fOp2 gIx (fOp2 gIx (fVar 1) (fC (.int 0))) (fVar 3)) (fNil)) gMkL) (fLc (srcE (fVar 4) itemsL) (bName 5) (fC (.bool true)) (bndA (fCons (fVar 5) (fNil)) gStr1) [5])) (bndA (fCons (bndA (fCons (bndA (fCons (fVar 4) (fNil)) gSum) (fNil)) gStr1) (fNil)) gMkL)))) (sSeq (sPut 6 (fLc (srcA (fCons (bndA (fCons (fOp2 gIx (fVar 0) (fC (.int 0))) (fNil)) gLen) (fNil)) kRng1) (bName 3) (fC (.bool true)) (bndA (fCons (fLc (srcE (fVar 0) itemsL) (bName 4) (fC (.bool true)) (fOp2 gIx (fVar 4) (fVar 3)) [4]) (fNil)) gSum) [3])) (sSeq (sApp 2 (fOp2 gAdd (fOp2 gAdd (bndA (fCons (fC (.str "all")) (fNil)) gMkL) (fLc (srcE (fVar 6) itemsL) (bName 5) (fC (.bool true)) (bndA (fCons (fVar 5) (fNil)) gStr1) [5])) (bndA (fCons (bndA (fCons (bndA (fCons (fVar 6) (fNil)) gSum) (fNil)) gStr1) (fNil)) gMkL))) (sSeq (sBind (bTup [bName 7, bName 8]) (bndA (fCons (fLc (srcA (fCons (bndA (fCons (fOp2 gIx (fVar 2) (fC (.int 0))) (fNil)) gLen) (fNil)) kRng1) (bName 3) (fC (.bool true)) (bndA (fCons (fLc (srcE (fVar 2) itemsL) (bName 4) (fC (.bool true)) (bndA (fCons (fOp2 gIx (fVar 4) (fVar 3)) (fNil)) gLen) [4]) (fNil)) gMaxL) [3]) (fCons (fC (.str "")) (fNil))) gMkT)) (sSeq (sFor (srcE (fVar 2) itemsL) (bName 4) (sSeq (sPut 9 (fLc (srcA (fCons (bndA (fCons (fVar 4) (fNil)) gLen) (fNil)) kRng1) (bName 3) (fC (.bool true)) (fOp2 gAdd (fOp2 gMulS (fC (.str " ")) (fOp2 gSub (fOp2 gIx (fVar 7) (fVar 3)) (bndA (fCons (fOp2 gIx (fVar 4) (fVar 3)) (fNil)) gLen))) (fOp2 gIx (fVar 4) (fVar 3))) [3])) (sPut 8 (fOp2 gAdd (fOp2 gAdd (fOp2 gAdd (fOp2 gAdd (fOp2 gAdd (fOp2 gAdd (fVar 8) (fOp2 gIx (fVar 9) (fC (.int 0)))) (fC (.str " | "))) (fM1 gJoin (fC (.str " ")) (fOp1 (gCut (some 1) (some (-1))) (fVar 9)))) (fC (.str " | "))) (fOp2 gIx (fVar 9) (fOp1 gNeg (fC (.int 1))))) (fC (.str "\n")))))) (sRet (fVar 8)))))))
def F_l_drawing : List Sl → RF := fnF 10 (g_l_drawing)
theorem b_l_drawing {P : Program} {w : World} {K : PySem.W.Frag} {mg : Str → Option Value} {base : Heap} (B : Bl mg) {f : Addr} {cdv : Value} {A : Around} {outer : List PySem.Env} {s : Shared} {H : Hp} {E : XK} (c : Cn (fx P w K mg base N_l_drawing "_law_drawing" s_l_drawing f cdv A outer s H E) E 0) :
    DSs (fx P w K mg base N_l_drawing "_law_drawing" s_l_drawing f cdv A outer s H E) E (defBody s_l_drawing) (g_l_drawing) := by
  have nd := sc_l_drawing.nd
  exact dss_cons (ds_own (i := 2) nd rfl (by first | exact .inl rfl | exact .inr rfl) (de_mkL (da_cons (d_add (d_add (de_mkL (da_cons (de_str) (da_nil))) (d_ix (de_var (pv 1)) (de_int))) (de_mkL (da_cons (de_str) (da_nil)))) (da_nil))))
    (dss_cons (ds_for (passes_of rfl) c.cm (di_enum rfl B.enum (da_cons (de_var (pv 0)) (da_nil))) (gt_tup (gts_cons (gt_name) (gts_cons (gt_name) (gts_nil)))) (pg_tup c.cm (pgs_cons (pg_name nd (i := 3) rfl (by first | exact .inl rfl | exact .inr rfl)) (pgs_cons (pg_name nd (i := 4) rfl (by first | exact .inl rfl | exact .inr rfl)) (pgs_nil)))) (dss_one (ds_app (fun _ h => pe_bm PySem.F.plainAttrs_list PySem.F.slot_list_append PySem.F.type_list_append mt_append (pv 2) (pa_cons h pa_nil)) (d_add (d_add (de_mkL (da_cons (d_ix (d_ix (de_var (pv 1)) (de_int)) (de_var (pv 3))) (da_nil))) (de_lc (own := [("number", 5)]) c.cm nd (di_list (de_var (pv 4))) (blkOk_by (by rfl)) (gt_name) (by decide) (fun _ _ _ _ _ => pg_name nd (i := 5) rfl (by first | exact .inl rfl | exact .inr rfl)) (fun _ _ _ _ _ => dts_nil) (fun _ _ _ _ _ => d_str B (da_cons (de_var (pv 5)) (da_nil))))) (de_mkL (da_cons (d_str B (da_cons (d_sum c B (da_cons (de_var (pv 4)) (da_nil))) (da_nil))) (da_nil)))))))
    (dss_cons (ds_lc (ps_lc (own := [("at", 3)]) c.cm nd (i := 6) rfl (di_rng1 rfl B.range (da_cons (d_len B (da_cons (d_ix (de_var (pv 0)) (de_int)) (da_nil))) (da_nil))) (blkOk_by (by rfl)) (gt_name) (by decide) (fun _ _ _ _ _ => pg_name nd (i := 3) rfl (by first | exact .inl rfl | exact .inr rfl)) (fun _ _ _ _ _ => dts_nil) (fun _ _ _ _ _ => d_sum c.blk B (da_cons (de_lc (own := [("row", 4)]) c.blk.cm nd (di_list (de_var (pv 0))) (blkOk_by (by rfl)) (gt_name) (by decide) (fun _ _ _ _ _ => pg_name nd (i := 4) rfl (by first | exact .inl rfl | exact .inr rfl)) (fun _ _ _ _ _ => dts_nil) (fun _ _ _ _ _ => d_ix (de_var (pv 4)) (de_var (pv 3)))) (da_nil))) rfl))
    (dss_cons (ds_app (fun _ h => pe_bm PySem.F.plainAttrs_list PySem.F.slot_list_append PySem.F.type_list_append mt_append (pv 2) (pa_cons h pa_nil)) (d_add (d_add (de_mkL (da_cons (de_str) (da_nil))) (de_lc (own := [("number", 5)]) c.cm nd (di_list (de_var (pv 6))) (blkOk_by (by rfl)) (gt_name) (by decide) (fun _ _ _ _ _ => pg_name nd (i := 5) rfl (by first | exact .inl rfl | exact .inr rfl)) (fun _ _ _ _ _ => dts_nil) (fun _ _ _ _ _ => d_str B (da_cons (de_var (pv 5)) (da_nil))))) (de_mkL (da_cons (d_str B (da_cons (d_sum c B (da_cons (de_var (pv 6)) (da_nil))) (da_nil))) (da_nil)))))
    (dss_cons (ds_asg (gt_tup (gts_cons (gt_name) (gts_cons (gt_name) (gts_nil)))) (pg_tup c.cm (pgs_cons (pg_name nd (i := 7) rfl (by first | exact .inl rfl | exact .inr rfl)) (pgs_cons (pg_name nd (i := 8) rfl (by first | exact .inl rfl | exact .inr rfl)) (pgs_nil)))) (de_mkT (da_cons (de_lc (own := [("at", 3)]) c.cm nd (di_rng1 rfl B.range (da_cons (d_len B (da_cons (d_ix (de_var (pv 2)) (de_int)) (da_nil))) (da_nil))) (blkOk_by (by rfl)) (gt_name) (by decide) (fun _ _ _ _ _ => pg_name nd (i := 3) rfl (by first | exact .inl rfl | exact .inr rfl)) (fun _ _ _ _ _ => dts_nil) (fun _ _ _ _ _ => d_maxL c.blk B (da_cons (de_lc (own := [("row", 4)]) c.blk.cm nd (di_list (de_var (pv 2))) (blkOk_by (by rfl)) (gt_name) (by decide) (fun _ _ _ _ _ => pg_name nd (i := 4) rfl (by first | exact .inl rfl | exact .inr rfl)) (fun _ _ _ _ _ => dts_nil) (fun _ _ _ _ _ => d_len B (da_cons (d_ix (de_var (pv 4)) (de_var (pv 3))) (da_nil)))) (da_nil)))) (da_cons (de_str) (da_nil)))))
    (dss_cons (ds_for (passes_of rfl) c.cm (di_list (de_var (pv 2))) (gt_name) (pg_name nd (i := 4) rfl (by first | exact .inl rfl | exact .inr rfl)) (dss_cons (ds_lc (ps_lc (own := [("at", 3)]) c.cm nd (i := 9) rfl (di_rng1 rfl B.range (da_cons (d_len B (da_cons (de_var (pv 4)) (da_nil))) (da_nil))) (blkOk_by (by rfl)) (gt_name) (by decide) (fun _ _ _ _ _ => pg_name nd (i := 3) rfl (by first | exact .inl rfl | exact .inr rfl)) (fun _ _ _ _ _ => dts_nil) (fun _ _ _ _ _ => d_add (d_mulS (de_str) (d_sub (d_ix (de_var (pv 7)) (de_var (pv 3))) (d_len B (da_cons (d_ix (de_var (pv 4)) (de_var (pv 3))) (da_nil))))) (d_ix (de_var (pv 4)) (de_var (pv 3)))) rfl))
    (dss_one (ds_put (i := 8) nd rfl (by first | exact .inl rfl | exact .inr rfl) (d_add (d_add (d_add (d_add (d_add (d_add (de_var (pv 8)) (d_ix (de_var (pv 9)) (de_int))) (de_str)) (d_join (de_str) (de_cut po_c po_m (de_var (pv 9))))) (de_str)) (d_ix (de_var (pv 9)) (d_neg (de_int)))) (de_str))))))
    (dss_one (ds_ret (de_var (pv 8)))))))))
theorem df_l_drawing {P : Program} {w : World} {K : PySem.W.Frag} {mg : Str → Option Value} {base : Heap} (B : Bl mg) {f : Addr} {fd : FuncData} (F : FunD K "_law_drawing" "_law_drawing" (defArgs s_l_drawing) (defBody s_l_drawing) (defScope s_l_drawing) [] [] f fd) (hm : mg "_law_drawing" = some (.ref f)) : Df P w K mg base "_law_drawing" s_l_drawing 1 ["table", "names"] (F_l_drawing) :=
  Df.mk' F hm sc_l_drawing rfl (fun _ _ _ _ _ _ us hl => match us, hl with | [_, _], _ => rfl) fun cdv A outer s H E c => b_l_drawing B c

end K65
/-! E2: what is refused, what is read. -/
namespace K65
open PySem L2 PyProof.Rows DL
abbrev exR : List Str := exNames
structure Exs (P : Program) (K : PySem.W.Frag) (mg : Str → Option Value) (ca : Str → Addr) : Prop where
  g : ∀ n ∈ exNames, mg n = some (.ref (ca n))
  t : ∀ n ∈ exR, DLX.ExT P K mg n (ca n)
  k : ∀ n ∈ exR, ExK K (ca n)
  kit : ∀ n ∈ exR, ∀ m ∈ exNames, PySem.W.kitOne K (.ref (ca n)) (.ref (ca m)) = some (decide (n = m))
  sum : mg "SumError" = some (.ref (ca "SumError"))
  exm : ∀ n ∈ exR, PySem.W.exmOne K (.ref (ca n)) (.ref (ca "SumError")) = some true
  exm1 : PySem.W.exmOne K (.ref (ca "InvalidText")) (.ref (ca "InvalidText")) = some true
theorem Exs.kcs {P : Program} {K : PySem.W.Frag} {mg : Str → Option Value} {ca : Str → Addr} (X : Exs P K mg ca) : ∀ c ∈ exR.map ca, ExK K c := fun c h => by
  obtain ⟨n, hn, e⟩ := List.mem_map.mp h
  rw [← e]
  exact X.k n hn
theorem Exs.mgs {P : Program} {K : PySem.W.Frag} {mg : Str → Option Value} {ca : Str → Addr} (X : Exs P K mg ca) (n : Str) (h : n ∈ exNames) : mg n = some (.ref (ca n)) := X.g n h
abbrev s_l_caught : Stmt := top 33
abbrev N_l_caught : List Str := ["call", "caught", "e", "kinds"]
theorem sc_l_caught : FnScope N_l_caught ["call"] (defScope s_l_caught) := ⟨rfl, rfl, rfl, by decide +kernel, rfl, by decide +kernel, by decide +kernel⟩
def g_l_caughtT (K : PySem.W.Frag) (ca : Str → Addr) : DL.Env → RS := sSeq (sIf (fOp2 gIsN (fVar 1) (fC .none)) (sRet (bndA (fCons (fC (.str "let")) (fCons (fC .none) (fNil))) gMkT)) (.nx)) (sSeq (sPut 3 (bndA (fCons (fOp1 (gIsX K (exNames.map ca) (ca "InvalidTable")) (fVar 1)) (fCons (fOp1 (gIsX K (exNames.map ca) (ca "InvalidNames")) (fVar 1)) (fCons (fOp1 (gIsX K (exNames.map ca) (ca "InvalidText")) (fVar 1)) (fNil)))) gMkL)) (sRet (bndA (fCons (fIf (fOp2 gEq (fOp1 gCntT (fVar 3)) (fC (.int 1))) (fOp2 gIx (bndA (fCons (fC (.str "table")) (fCons (fC (.str "names")) (fCons (fC (.str "text")) (fNil)))) gMkL) (fOp1 gIdxT (fVar 3))) (fC (.str "odd"))) (fCons (fOp1 (gVal (exNames.map ca)) (fVar 1)) (fNil))) gMkT)))
theorem b_l_caughtT {P : Program} {w : World} {K : PySem.W.Frag} {mg : Str → Option Value} {base : Heap} {ca : Str → Addr} (B : Bl mg) (X : Exs P K mg ca) {f : Addr} {cdv : Value} {A : Around} {outer : List PySem.Env} {s : Shared} {H : Hp} {E : XK} {k : Nat} (c : Cn (fx P w K mg base N_l_caught "_law_caught" s_l_caught f cdv A outer s H E) E k) :
    DSs (fx P w K mg base N_l_caught "_law_caught" s_l_caught f cdv A outer s H E) E ((defBody s_l_caught).drop 2) (g_l_caughtT K ca) := by
  have nd := sc_l_caught.nd
  exact dss_cons (ds_if (t_is (de_var (pv 1)) (de_non)) (dss_one (ds_ret (de_mkT (da_cons (de_str) (da_cons (de_non) (da_nil)))))) (dss_nil))
    (dss_cons (ds_put (i := 3) nd rfl (by first | exact .inl rfl | exact .inr rfl) (de_mkL (da_cons (de_isX B X.kcs (X.mgs "InvalidTable" (by decide)) (de_var (pv 1))) (da_cons (de_isX B X.kcs (X.mgs "InvalidNames" (by decide)) (de_var (pv 1))) (da_cons (de_isX B X.kcs (X.mgs "InvalidText" (by decide)) (de_var (pv 1))) (da_nil))))))
    (dss_one (ds_ret (de_mkT (da_cons (de_if (t_eq c (de_cntT c (de_var (pv 3))) (de_int)) (d_ix (de_mkL (da_cons (de_str) (da_cons (de_str) (da_cons (de_str) (da_nil))))) (de_idxT (de_var (pv 3)))) (de_str)) (da_cons (de_value X.kcs (de_var (pv 1))) (da_nil)))))))

abbrev s_l_refuses : Stmt := top 34
abbrev N_l_refuses : List Str := ["call", "word", "value", "told"]
theorem sc_l_refuses : FnScope N_l_refuses ["call", "word", "value"] (defScope s_l_refuses) := ⟨rfl, rfl, rfl, by decide +kernel, rfl, by decide +kernel, by decide +kernel⟩
def g_l_refusesT : DL.Env → RS := sRet (fAnd (fOp2 gEq (fOp2 gIx (fVar 3) (fC (.int 0))) (fVar 1)) (fOp2 gEq (bndA (fCons (fOp2 gIx (fVar 3) (fC (.int 1))) (fNil)) gRepr) (bndA (fCons (fVar 2) (fNil)) gRepr)))
theorem b_l_refusesT {P : Program} {w : World} {K : PySem.W.Frag} {mg : Str → Option Value} {base : Heap} {ca : Str → Addr} (B : Bl mg) {f : Addr} {cdv : Value} {A : Around} {outer : List PySem.Env} {s : Shared} {H : Hp} {E : XK} {k : Nat} (c : Cn (fx P w K mg base N_l_refuses "_law_refuses" s_l_refuses f cdv A outer s H E) E k) :
    DSs (fx P w K mg base N_l_refuses "_law_refuses" s_l_refuses f cdv A outer s H E) E ((defBody s_l_refuses).drop 1) (g_l_refusesT) := by
  have nd := sc_l_refuses.nd
  exact dss_one (ds_ret (de_and (d_eq c.rm.units (d_ix (de_var (pv 3)) (de_int)) (de_var (pv 1))) (de_one (d_eq c.rm.units (d_repr c (da_cons (d_ix (de_var (pv 3)) (de_int)) (da_nil)) B.repr) (d_repr c (da_cons (de_var (pv 2)) (da_nil)) B.repr)))))

abbrev s_l_read : Stmt := top 36
abbrev N_l_read : List Str := ["call", "caught", "told", "e"]
theorem sc_l_read : FnScope N_l_read ["call"] (defScope s_l_read) := ⟨rfl, rfl, rfl, by decide +kernel, rfl, by decide +kernel, by decide +kernel⟩
def g_l_readT (K : PySem.W.Frag) (ca : Str → Addr) : DL.Env → RS := sRet (fIf (fOp2 gIsN (fVar 1) (fC .none)) (bndA (fCons (fC (.str "let")) (fCons (fVar 2) (fNil))) gMkT) (bndA (fCons (fC (.str "text")) (fCons (fOp1 (gVal (exNames.map ca)) (fVar 1)) (fNil))) gMkT))
theorem b_l_readT {P : Program} {w : World} {K : PySem.W.Frag} {mg : Str → Option Value} {base : Heap} {ca : Str → Addr} (B : Bl mg) (X : Exs P K mg ca) {f : Addr} {cdv : Value} {A : Around} {outer : List PySem.Env} {s : Shared} {H : Hp} {E : XK} {k : Nat} (c : Cn (fx P w K mg base N_l_read "_law_read" s_l_read f cdv A outer s H E) E k) :
    DSs (fx P w K mg base N_l_read "_law_read" s_l_read f cdv A outer s H E) E ((defBody s_l_read).drop 2) (g_l_readT K ca) := by
  have nd := sc_l_read.nd
  exact dss_one (ds_ret (de_if (t_is (de_var (pv 1)) (de_non)) (de_mkT (da_cons (de_str) (da_cons (de_var (pv 2)) (da_nil)))) (de_mkT (da_cons (de_str) (da_cons (de_value X.kcs (de_var (pv 1))) (da_nil))))))

theorem srep_of {K : PySem.W.Frag} {τ : Nat → Addr} {T : List Addr} {H : Hp} {σ : L2.St} {ρ : DL.Env} (tr : ∀ a ∈ T, H a ≠ none) (tb : LamX.Tabs (TbK K) H) (hl : σ.length = ρ.length) (hp : ∀ (i : Nat) (s : Sl), ρ[i]? = some (some s) → ∃ d v, s = .pu d ∧ σ[i]? = some (some v) ∧ Rp K (hid T H) v d) : SRep K τ T H σ ρ [] := by
  refine ⟨fun i m d q => ?_, fun i t ds q => ?_, fun i j t u es fs p hij e1 => ?_, tr, hl, fun p hp => absurd hp (by simp), tb, fun i g q => ?_⟩
  · obtain ⟨d', v, e, h1, h2⟩ := hp i _ q
    cases e
    exact ⟨v, h1, h2, fun z => nomatch z⟩
  · obtain ⟨d', v, e, _⟩ := hp i _ q
    cases e
  · obtain ⟨d', v, e, _⟩ := hp i _ e1
    cases e
  · obtain ⟨d', v, e, _⟩ := hp i _ q
    cases e
def foD : FO → D
  | .lets _ => .none
  | .err c d => excD c d
def foT : FO → D
  | .lets d => d
  | .err _ _ => .none
section
variable {P : Program} {w : World} {K : PySem.W.Frag} {mg : Str → Option Value} {base : Heap} {ca : Str → Addr}
theorem caught_run (B : Bl mg) (X : Exs P K mg ca) {fc : Addr} {fdc : FuncData} (F : FunD K "_law_caught" "_law_caught" (defArgs s_l_caught) (defBody s_l_caught) (defScope s_l_caught) [] [] fc fdc) {A : Around} {outer : List PySem.Env} {s : Shared} {H : Hp} {fl : Addr} {T : List Addr} {o : FO} {k : Nat} {Q : VK} {E : XK} {dres : D} {ρ' : DL.Env}
    (hgd : A.guards = some []) (hr : Room (k + 1) A) (e0 : Env0 P w K mg base A outer s H) (C : Can P w K mg base k H T fl o) (tr : ∀ a ∈ T, H a ≠ none) (tb : LamX.Tabs (TbK K) H) (hex : ∀ c d, o = .err c d → ∃ n ∈ exR, c = ca n)
    (hres : g_l_caughtT K ca [none, some (.pu (foD o)), none, none] = .ret (.pu dres) ρ') (hq : ∀ v H', Gr K H H' → Rp K (hid T H') v dres → Q v H') :
    codeAny (model P w) A (.call (.ref fc) ⟨[.ref fl], []⟩) (CR (L2.CX P w) outer P w H s Q E) s := by
  obtain ⟨oc, od, kV, doc, pm, an, cdv, ct, osl, rfl, lk, hcd⟩ := (Fun.ofD F).ex
  refine LamX.run_ofS (N := N_l_caught) (ps := ["call"]) (us := [.ref fl]) (vs := [.ref fl]) lk hcd sc_l_caught hr e0 (.of_eq (by first | rfl | with_unfolding_all rfl)) (.cons rfl .nil) rfl fun hr2 => ?_
  have nd := sc_l_caught.nd
  have cn : Cn (fx P w K mg base N_l_caught "_law_caught" s_l_caught fc cdv A outer s H E) E k := ⟨hgd, hr2, passes_call (W := fun cls d _ H => E cls d H) (takes_of rfl rfl rfl rfl) (fun _ _ _ _ h => h), takes_of rfl rfl rfl rfl, rfl⟩
  refine ⟨_, pss_cons (ps_set nd (i := 1) rfl (.inl rfl) pe_non) (pss_cons (ps_hold (i := 2) (j := 1) (c := .ref (ca "SumError")) rfl rfl rfl nd rfl rfl rfl rfl (fun σ z => by rw [z]; show 2 < N_l_caught.length; decide) ⟨rfl, by decide, .inl X.sum⟩ cn.tk (by decide) (by decide) (fun Y hY => by rw [hY]; rfl)
    (tb := fun W => tDrop fun σ HZ Q => σ[0]? = some (some (.ref fl)) ∧ Gr K H HZ ∧ (∀ a ∈ T, HZ a ≠ none) ∧ LamX.Tabs (TbK K) HZ ∧ FOut K (WE W σ) T HZ o Q)
    (fun W pn xe tk _ => pss_one (ps_expr (pe_can (Y := fx P w K mg base N_l_caught "_law_caught" s_l_caught fc cdv A outer s H E) (i := 0) C hgd hr2 tk rfl (.inl rfl))))) (b_l_caughtT B X cn).pss), ?_⟩
  have fin : ∀ {σ : L2.St} {H' : Hp} {v : V}, σ.length = 4 → σ[1]? = some (some v) → Gr K H H' → Rp K (hid T H') v (foD o) → tDS K E (g_l_caughtT K ca) { nx := fun _ H' => Q .non H', rt := Q } σ H' := fun {σ H' v} h1 h2 g r => by
    refine ⟨fun _ => 0, T, [], _, srep_of (fun a z w => tr a z (g.al a w)) (g.tb tb) h1 (ρ := [none, some (.pu (foD o)), none, none]) fun i sl q => ?_, ?_⟩
    · match i with
      | 0 => simp at q
      | 1 => exact ⟨_, v, (by simpa using q.symm), h2, r⟩
      | 2 => simp at q
      | 3 => simp at q
      | n + 4 => simp at q
    · rw [hres]
      exact fun v2 σ2 H2 P2 t _ r2 => hq v2 H2 (g.trans t.toGr) (r2.ext (hid_less fun a z => List.mem_append_right _ z))
  refine ⟨rfl, Ext.gr (Ext.rfl H), tr, tb, ?_⟩
  cases o with
  | lets d => exact fun v H' g _ => fin rfl rfl g .non
  | err c d =>
    intro dx v H' g hx hv
    obtain ⟨n, hn, rfl⟩ := hex c d rfl
    refine ⟨true, X.exm n hn, fun _ => ⟨ca n, dx, rfl, rfl, fun a na => ?_⟩, fun z => nomatch z⟩
    have ex : Ext H' (upd H' a (XO (ca n) dx a)) := Evl.Ex.new na
    have aT : a ∉ T := fun z => tr a z (g.al a na)
    have dT : dx ∉ T := fun z => tr dx z hx.1
    refine fin rfl rfl (g.trans ex.gr) (v := .ref a) (.exc (hid_in aT upd_same) (hid_in dT (ex _ _ hx.2)) (hv.ext (Gr.hid (K := K) ex.gr)))
theorem read_run (B : Bl mg) (X : Exs P K mg ca) {fc : Addr} {fdc : FuncData} (F : FunD K "_law_read" "_law_read" (defArgs s_l_read) (defBody s_l_read) (defScope s_l_read) [] [] fc fdc) {A : Around} {outer : List PySem.Env} {s : Shared} {H : Hp} {fl : Addr} {T : List Addr} {o : FO} {k : Nat} {Q : VK} {E : XK} {dres : D} {ρ' : DL.Env}
    (hgd : A.guards = some []) (hr : Room (k + 1) A) (e0 : Env0 P w K mg base A outer s H) (C : Can P w K mg base k H T fl o) (tr : ∀ a ∈ T, H a ≠ none) (tb : LamX.Tabs (TbK K) H) (hex : ∀ c d, o = .err c d → c = ca "InvalidText")
    (hres : g_l_readT K ca [none, some (.pu (foD o)), some (.pu (foT o)), none] = .ret (.pu dres) ρ') (hq : ∀ v H', Gr K H H' → Rp K (hid T H') v dres → Q v H') :
    codeAny (model P w) A (.call (.ref fc) ⟨[.ref fl], []⟩) (CR (L2.CX P w) outer P w H s Q E) s := by
  obtain ⟨oc, od, kV, doc, pm, an, cdv, ct, osl, rfl, lk, hcd⟩ := (Fun.ofD F).ex
  refine LamX.run_ofS (N := N_l_read) (ps := ["call"]) (us := [.ref fl]) (vs := [.ref fl]) lk hcd sc_l_read hr e0 (.of_eq (by first | rfl | with_unfolding_all rfl)) (.cons rfl .nil) rfl fun hr2 => ?_
  have nd := sc_l_read.nd
  have cn : Cn (fx P w K mg base N_l_read "_law_read" s_l_read fc cdv A outer s H E) E k := ⟨hgd, hr2, passes_call (W := fun cls d _ H => E cls d H) (takes_of rfl rfl rfl rfl) (fun _ _ _ _ h => h), takes_of rfl rfl rfl rfl, rfl⟩
  refine ⟨_, pss_cons (ps_asg (pe_tup (pa_cons pe_non (pa_cons pe_non pa_nil))) (pg_tup cn.cm (pgs_cons (pg_name nd (i := 1) rfl (by first | exact .inl rfl | exact .inr rfl)) (pgs_cons (pg_name nd (i := 2) rfl (by first | exact .inl rfl | exact .inr rfl)) pgs_nil)))) (pss_cons (ps_hold (i := 3) (j := 1) (c := .ref (ca "InvalidText")) rfl rfl rfl nd rfl rfl rfl rfl (fun σ z => by rw [z]; show 3 < N_l_read.length; decide) ⟨rfl, by decide, .inl (X.mgs "InvalidText" (by decide))⟩ cn.tk (by decide) (by decide) (fun Y hY => by rw [hY]; rfl)
    (tb := fun W => tAsg (fun σ HZ Q => σ[0]? = some (some (.ref fl)) ∧ Gr K H HZ ∧ (∀ a ∈ T, HZ a ≠ none) ∧ LamX.Tabs (TbK K) HZ ∧ FOut K (WE W σ) T HZ o Q) (gName 2))
    (fun W pn xe tk _ => pss_one (ps_set (X := (fx P w K mg base N_l_read "_law_read" s_l_read fc cdv A outer s H E).tr pn xe) nd (i := 2) rfl (.inl rfl) (pe_can (Y := fx P w K mg base N_l_read "_law_read" s_l_read fc cdv A outer s H E) (i := 0) C hgd hr2 tk rfl (.inl rfl))))) (b_l_readT B X cn).pss), ?_⟩
  have fin : ∀ {σ : L2.St} {H' : Hp} {v u : V}, σ.length = 4 → σ[1]? = some (some v) → σ[2]? = some (some u) → Gr K H H' → Rp K (hid T H') v (foD o) → Rp K (hid T H') u (foT o) → tDS K E (g_l_readT K ca) { nx := fun _ H' => Q .non H', rt := Q } σ H' := fun {σ H' v u} h1 h2 h3 g r ru => by
    refine ⟨fun _ => 0, T, [], _, srep_of (fun a z w => tr a z (g.al a w)) (g.tb tb) h1 (ρ := [none, some (.pu (foD o)), some (.pu (foT o)), none]) fun i sl q => ?_, ?_⟩
    · match i with
      | 0 => simp at q
      | 1 => exact ⟨_, v, (by simpa using q.symm), h2, r⟩
      | 2 => exact ⟨_, u, (by simpa using q.symm), h3, ru⟩
      | 3 => simp at q
      | n + 4 => simp at q
    · rw [hres]
      exact fun v2 σ2 H2 P2 t _ r2 => hq v2 H2 (g.trans t.toGr) (r2.ext (hid_less fun a z => List.mem_append_right _ z))
  refine ⟨show 2 ≤ sizeLine by decide, fun t ht => ⟨t, [.non, .non], rfl, .inl (.inl upd_same), rfl, .non, [.non], rfl, .non, [], rfl, rfl, ?_⟩⟩
  have g0 : Gr K H (upd H t (.tup [.non, .non])) := Ext.gr (Evl.Ex.new ht)
  refine ⟨rfl, g0, fun a z w => tr a z (g0.al a w), g0.tb tb, ?_⟩
  cases o with
  | lets d => exact fun v H' g r => fin rfl rfl rfl (g0.trans g) .non r
  | err c d =>
    intro dx v H' g1 hx hv
    have g := g0.trans g1
    obtain rfl := hex c d rfl
    refine ⟨true, X.exm1, fun _ => ⟨ca "InvalidText", dx, rfl, rfl, fun a na => ?_⟩, fun z => nomatch z⟩
    have ex : Ext H' (upd H' a (XO (ca "InvalidText") dx a)) := Evl.Ex.new na
    have aT : a ∉ T := fun z => tr a z (g.al a na)
    have dT : dx ∉ T := fun z => tr dx z (g0.al dx hx.1)
    exact fin rfl rfl rfl (g.trans ex.gr) (v := .ref a) (u := .non) (.exc (hid_in aT upd_same) (hid_in dT (ex _ _ hx.2)) (hv.ext (Gr.hid (K := K) ex.gr))) .non
end
end K65
/-! E3: refused, all refused. -/
namespace K65
open PySem L2 PyProof.Rows DL
section
variable {Y : Cx} {ca : Str → Addr}
theorem pe_caught (B : Bl Y.mg) (X : Exs Y.prog Y.K Y.mg ca) {fc : Addr} {fdc : FuncData} (F : FunD Y.K "_law_caught" "_law_caught" (defArgs s_l_caught) (defBody s_l_caught) (defScope s_l_caught) [] [] fc fdc) (hm : Y.mg "_law_caught" = some (.ref fc)) {H0 : Hp} {T : List Addr} {fl : Addr} {o : FO} {k i : Nat} {a : Str} {dres : D} {ρ' : DL.Env} {p p1 pos : Pos}
    (C : Can Y.prog Y.w Y.K Y.mg Y.base k H0 T fl o) (hgd : Y.A.guards = some []) (hr : Room (k + 1) Y.A) (hex : ∀ c d, o = .err c d → ∃ n ∈ exR, c = ca n) (hres : g_l_caughtT Y.K ca [none, some (.pu (foD o)), none, none] = .ret (.pu dres) ρ') (ha : PE Y (.Name a p1) (tVar i))
    (hg : Gl Y "_law_caught" := by rfl) (he : starEach [.Name a p1] Y.env = (false, eval (.Name a p1) Y.env) :: starEach [] Y.env := by rfl) (hpl : (backTo pos (starEach [] Y.env)).any (·.1) = false := by rfl) :
    PE Y (.Call (.Name "_law_caught" p) [.Name a p1] [] pos) (fun σ H Q => σ[i]? = some (some (.ref fl)) ∧ Gr Y.K H0 H ∧ (∀ a ∈ T, H a ≠ none) ∧ LamX.Tabs (TbK Y.K) H ∧ ∀ v H', Gr Y.K H H' → Rp Y.K (hid T H') v dres → Q v H') := by
  refine ⟨fun pins s σ H Q I ⟨hσ, g, tr, tb, q⟩ => ?_⟩
  refine wpAny_Call_Name_kw (ld_glob I hg hm ?_ (by decide))
  refine PySem.W.callWith_K (h₀ := Y.base) I.ok.mod.kin F.kp (thn ((pa_cons ha pa_nil he).run pos pins s σ H (fun vs H1 => vs = [.ref fl] ∧ H1 = H) I ⟨.ref fl, hσ, rfl, rfl⟩) fun us s1 ⟨vs, H1, I1, r, e1, e2⟩ => ⟨I1.kIn, ?_⟩) he hpl
  subst e1
  rw [e2] at I1
  have eu := Vals.ref1 r
  subst eu
  refine wpAny_call (codeAny_mono (caught_run (Q := Q) (E := L2.E0) B X F hgd hr I1.env0 (C.later g (fun _ z => z) (fun a z => .inl z)) tr tb hex hres q) fun r s' hq => ?_)
  cases r with
  | error e => exact (passL (X := Y) pins σ H s1 e s' I1 hq)
  | ok fl =>
    cases fl with
    | ret u => exact I1.after hq
    | next => exact False.elim hq
    | brk => exact False.elim hq
    | cont => exact False.elim hq
end
section
variable {P : Program} {w : World} {K : PySem.W.Frag} {mg : Str → Option Value} {base : Heap} {ca : Str → Addr}
/-- what is asked of a refusal: the error's class by its name, the word, the value, its text -/
structure RefOk (K : PySem.W.Frag) (ca : Str → Addr) (n wd : Str) (d : D) : Prop where
  hn : n ∈ exR
  hc : ∃ ρ', g_l_caughtT K ca [none, some (.pu (excD (ca n) d)), none, none] = .ret (.pu (.tuple [.str wd, d])) ρ'
  hr : ∃ ρ', g_l_refusesT [none, some (.pu (.str wd)), some (.pu d), some (.pu (.tuple [.str wd, d]))] = .ret (.pu (.bool true)) ρ'
theorem refuses_run (B : Bl mg) (X : Exs P K mg ca) {fc fr : Addr} {fdc fdr : FuncData} (Fc : FunD K "_law_caught" "_law_caught" (defArgs s_l_caught) (defBody s_l_caught) (defScope s_l_caught) [] [] fc fdc) (hmc : mg "_law_caught" = some (.ref fc))
    (Fr : FunD K "_law_refuses" "_law_refuses" (defArgs s_l_refuses) (defBody s_l_refuses) (defScope s_l_refuses) [] [] fr fdr) {A : Around} {outer : List PySem.Env} {s : Shared} {H : Hp} {fl : Addr} {T : List Addr} {n wd : Str} {d : D} {v : V} {u : Value} {t : Tok} {k : Nat} {Q : VK} {E : XK}
    (hgd : A.guards = some []) (hr : Room (k + 3) A) (e0 : Env0 P w K mg base A outer s H) (C : Can P w K mg base k H T fl (.err (ca n) d)) (ok : RefOk K ca n wd d) (tr : ∀ a ∈ T, H a ≠ none) (tb : LamX.Tabs (TbK K) H) (rv : Rp K (hid T H) v d) (ru : RelV v u) (hq : ∀ H', Gr K H H' → Q (.bl true) H') :
    codeAny (model P w) A (.call (.ref fr) ⟨[.ref fl, .str wd t, u], []⟩) (CR (L2.CX P w) outer P w H s Q E) s := by
  obtain ⟨oc, od, kV, doc, pm, an, cdv, ct, osl, rfl, lk, hcd⟩ := (Fun.ofD Fr).ex
  refine LamX.run_ofS (N := N_l_refuses) (ps := ["call", "word", "value"]) (us := [.ref fl, .str wd t, u]) (vs := [.ref fl, .str wd, v]) lk hcd sc_l_refuses (hr.mono (j := k + 2 + 1) (Nat.le_refl _)) e0 (.of_eq (by first | rfl | with_unfolding_all rfl)) (.cons rfl (.cons ⟨t, rfl⟩ (.cons ru .nil))) rfl fun hr2 => ?_
  have nd := sc_l_refuses.nd
  have cn : Cn (fx P w K mg base N_l_refuses "_law_refuses" s_l_refuses fr cdv A outer s H E) E (k + 2) := ⟨hgd, hr2, passes_call (W := fun cls d _ H => E cls d H) (takes_of rfl rfl rfl rfl) (fun _ _ _ _ h => h), takes_of rfl rfl rfl rfl, rfl⟩
  obtain ⟨ρ1, hc⟩ := ok.hc
  obtain ⟨ρ2, hres⟩ := ok.hr
  refine ⟨_, pss_cons (ps_set nd (i := 3) rfl (.inl rfl) (pe_caught (Y := fx P w K mg base N_l_refuses "_law_refuses" s_l_refuses fr cdv A outer s H E) B X Fc hmc C hgd (hr2.mono (by omega)) (fun c d e => by cases e; exact ⟨n, ok.hn, rfl⟩) hc (pv 0))) (b_l_refusesT (ca := ca) B cn).pss, ?_⟩
  refine ⟨rfl, Ext.gr (Ext.rfl H), tr, tb, fun v2 H2 g r2 => ?_⟩
  refine ⟨fun _ => 0, T, [], [none, some (.pu (.str wd)), some (.pu d), some (.pu (.tuple [.str wd, d]))], srep_of (fun a z w => tr a z (g.al a w)) (g.tb tb) rfl fun i sl q => ?_, ?_⟩
  · match i with
    | 0 => simp at q
    | 1 => exact ⟨_, .str wd, (by simpa using q.symm), rfl, .str wd⟩
    | 2 => exact ⟨_, v, (by simpa using q.symm), rfl, rv.ext g.hid⟩
    | 3 => exact ⟨_, v2, (by simpa using q.symm), rfl, r2⟩
    | n + 4 => simp at q
  · rw [hres]
    intro v3 σ3 H3 P3 t3 _ r3
    rw [rp_bool r3]
    exact hq H3 (g.trans t3.toGr)
end

end K65
/-! E5: lambdas made, refused or read at once. -/
namespace K65
open PySem L2 PyProof.Rows DL
/-- what the refusals need of the module -/
structure RefKit (P : Program) (w : World) (K : PySem.W.Frag) (mg : Str → Option Value) (base : Heap) (ca : Str → Addr) : Prop where
  B : Bl mg
  X : Exs P K mg ca
  caught : ∃ fc fdc, FunD K "_law_caught" "_law_caught" (defArgs s_l_caught) (defBody s_l_caught) (defScope s_l_caught) [] [] fc fdc ∧ mg "_law_caught" = some (.ref fc)
  refuses : ∃ fr fdr, FunD K "_law_refuses" "_law_refuses" (defArgs s_l_refuses) (defBody s_l_refuses) (defScope s_l_refuses) [] [] fr fdr ∧ mg "_law_refuses" = some (.ref fr)
  read : ∃ fr fdr, FunD K "_law_read" "_law_read" (defArgs s_l_read) (defBody s_l_read) (defScope s_l_read) [] [] fr fdr ∧ mg "_law_read" = some (.ref fr)
section
variable {P : Program} {w : World} {K : PySem.W.Frag} {mg : Str → Option Value} {base base2 : Heap}
theorem Df_over {x : Str} {st : Stmt} {k : Nat} {ps : List Str} {F : List Sl → RF} (h : Df P w K mg base x st k ps F) (M : Mod K mg base) (kp : ∀ b o, base.get? b = some o → base2.get? b = some o) (hz : base.objs.size ≤ base2.objs.size) : Df P w K mg base2 x st k ps F := by
  obtain ⟨f, fd, h1, h2, h3⟩ := h.ex
  exact ⟨f, fd, h1, ⟨fun A outer s H args us vs Q E hg hr e0 => h2.run A outer s H args us vs Q E hg hr (env0_less e0 M kp hz)⟩, h3⟩
end
section
variable {X : Cx} {pins : List (Addr × Obj)} {σ : L2.St} {H : Hp} {s : Shared} {ca : Str → Addr}
theorem RefKit.ground (R : RefKit X.prog X.w X.K X.mg X.base ca) (I : Inv X pins σ H s) : RefKit X.prog X.w X.K X.mg (DL.ground s H (frs X.stack)) ca :=
  ⟨R.B, R.X, R.caught, R.refuses, R.read⟩
/-- a lambda without arguments, its body known -/
structure LamB (X : Cx) (k : Nat) (fb : DL.Env → RE) (params : Arguments) (body : Expr) (scope : Scope) : Prop where
  L : LamX.LamS X.env.scope scope
  hdef : defaultsOf params X.env = ([], [])
  hbind : ∀ (cl : List (Str × Addr)) (pm cv ctv : Value), bindArgs (PySem.W.kla_fn "<lambda>" (X.env.qual ++ "<lambda>") params body scope cl pm cv ctv) ⟨[], []⟩ = pure []
  hbody : ∀ (A : Around) (outer : List PySem.Env) (s : Shared) (H : Hp) (E : XK) (f c' : Addr), Cn (LamX.lamCx X A outer s H E scope f c') E k → DE (LamX.lamCx X A outer s H E scope f c') E body fb
def LamV (X : Cx) (k : Nat) (fb : DL.Env → RE) (H : Hp) (o : Obj) : Prop := ∃ (params : Arguments) (body : Expr) (scope : Scope) (pm ctv : Value) (c' : Addr), o = PySem.W.kla_obj "<lambda>" (X.env.qual ++ "<lambda>") params body scope (cloFrom X.env.cells scope.names []) pm c' ctv ∧ LamB X k fb params body scope ∧ H c' = some (LamX.CodeO c' (X.env.qual ++ "<lambda>"))
theorem LamV.gr {k : Nat} {fb : DL.Env → RE} {H' : Hp} {o : Obj} (h : LamV X k fb H o) (g : Gr X.K H H') : LamV X k fb H' o := by
  obtain ⟨a, b, c, d, e, c', h1, h2, h3⟩ := h
  exact ⟨a, b, c, d, e, c', h1, h2, g.kp _ _ h3 LamX.codeO_ne⟩
theorem lam_push {params : Arguments} {body : Expr} {scope : Scope} {pos : Pos} {k : Nat} {fb : DL.Env → RE} {E : Value → Shared → Prop} {Q : Value → Shared → Prop} (Mk : Maker X) (B : LamB X k fb params body scope) (I : Inv X pins σ H s) (hT : LamX.Tabs (TbK X.K) H)
    (h : ∀ (f : Addr) (o : Obj) (H1 : Hp) (s' : Shared), Inv X ((f, o) :: pins) σ H1 s' → Gr X.K H H1 → f ∉ frs X.stack → LamV X k fb H1 o → Q (.ref f) s') :
    wpAny (model X.prog X.w) X.A (eval (.Lambda params body scope pos) X.env) Q E s := by
  obtain ⟨c, Pt, TB, hc, hm, hu⟩ := Mk.ex
  refine lam_make3 I TB hc hm hu hT B.hdef (B.L.has I.ok) fun f c' pm ctv H1 s' I1 g hf hfn hfr hfs hfl hco => ?_
  refine h f _ H1 s' (I1.pins_of fun p hp => ?_) g hfr ⟨params, body, scope, pm, ctv, c', rfl, B, hco⟩
  rcases List.mem_cons.mp hp with e | e
  · rw [e]
    exact ⟨hf, hfn, hfl, hfs, fun v z => nomatch z⟩
  · exact I1.pin p (List.mem_append_right _ e)
theorem can_of {τ : Nat → Addr} {A0 P : List Addr} {ρ : DL.Env} {f : Addr} {o : Obj} {k : Nat} {fb : DL.Env → RE} {r : FO} (Mk : Maker X) (I : Inv X pins σ H s) (S : SRep X.K τ A0 H σ ρ P) (hm : (f, o) ∈ pins) (hfr : f ∉ frs X.stack) (hv : LamV X k fb H o) (ho : foOf (fb (pubE ρ)) = some r) :
    Can X.prog X.w X.K X.mg (DL.ground s H (frs X.stack)) (k + 1) H (P ++ A0) f r := by
  obtain ⟨params, body, scope, pm, ctv, c', rfl, B, hco⟩ := hv
  obtain ⟨h1, h2, _⟩ := I.pin _ (List.mem_append_right _ hm)
  exact lam_can (I.pins_of (pins' := []) fun p hp => absurd hp (by simp)) Mk.fn S B.L h1 h2 hfr hco (B.hbind _ _ _ _) B.hbody ho
end
section
variable {X : Cx} {ca : Str → Addr} {E : XK}
open Classical in
/-- _law_refuses(lambda: .., wd, x) -/
noncomputable def fRefd (K : PySem.W.Frag) (ca : Str → Addr) (n wd : Str) (fb : DL.Env → RE) (i : Nat) : DL.Env → RE := fun ρ => match ρ[i]? with
  | some (some (.pub m d)) => if fb (pubE ρ) = .err (ca n) d ∧ RefOk K ca n wd d then .ok (.pu (.bool true)) ρ else .st
  | _ => .st
theorem de_refLam {n wd : Str} {k i : Nat} {fb : DL.Env → RE} {params : Arguments} {body : Expr} {scope : Scope} {y : Str} {kd : Nat} {p p1 p2 p3 pos : Pos} (Mk : Maker X) (c : Cn X E (k + 4)) (R : RefKit X.prog X.w X.K X.mg X.base ca) (B : LamB X k fb params body scope) (hv : PE X (.Name y p3) (tVar i)) (hg : Gl X "_law_refuses" := by rfl)
    (he : starEach [.Lambda params body scope p1, .Constant (.str wd) kd p2, .Name y p3] X.env = (false, eval (.Lambda params body scope p1) X.env) :: starEach [.Constant (.str wd) kd p2, .Name y p3] X.env := by rfl) (he2 : starEach [.Constant (.str wd) kd p2, .Name y p3] X.env = (false, eval (.Constant (.str wd) kd p2) X.env) :: starEach [.Name y p3] X.env := by rfl)
    (he3 : starEach [.Name y p3] X.env = (false, eval (.Name y p3) X.env) :: starEach [] X.env := by rfl) (hpl : (backTo pos (starEach [.Constant (.str wd) kd p2, .Name y p3] X.env)).any (·.1) = false := by rfl) :
    DE X E (.Call (.Name "_law_refuses" p) [.Lambda params body scope p1, .Constant (.str wd) kd p2, .Name y p3] [] pos) (fRefd X.K ca n wd fb i) := by
  obtain ⟨fc, fdc, Fc, hmc⟩ := R.caught
  obtain ⟨fr, fdr, Fr, hmr⟩ := R.refuses
  refine ⟨⟨fun pins s σ H Q I ⟨τ, A0, P, ρ, S, cc⟩ => ?_⟩⟩
  unfold fRefd at cc
  split at cc
  next m d q =>
    split at cc
    next hh =>
      obtain ⟨hfb, ok⟩ := hh
      obtain ⟨v, hσ, rv⟩ := S.puD q
      refine wpAny_Call_Name_kw (ld_glob I hg hmr ?_ (by decide))
      refine PySem.W.callWith_K (h₀ := X.base) I.ok.mod.kin Fr.kp ?_ he hpl
      rw [he]
      show wpAny _ _ (spliced ((false, eval (.Lambda params body scope p1) X.env) :: backTo pos (starEach [.Constant (.str wd) kd p2, .Name y p3] X.env))) _ _ s
      refine Calls.spliced_cons (lam_push Mk B I S.tb fun f o H1 s1 I1 g hfr lv => ?_)
      refine thn ((pa_cons pe_str (pa_cons hv pa_nil he3) he2).run pos ((f, o) :: pins) s1 σ H1 (fun vs H2 => vs = [.str wd, v] ∧ H2 = H1) I1 ⟨v, hσ, rfl, rfl⟩) fun us s2 ⟨vs, H2, I2, r, e1, e2⟩ => ⟨I2.kIn, ?_⟩
      subst e1
      rw [e2] at I2
      have S1 := S.grow g
      have C := can_of Mk I2 S1 List.mem_cons_self hfr lv (r := .err (ca n) d) (by rw [hfb]; rfl)
      have I3 : Inv X pins σ H1 s2 := I2.pins_of fun p hp => I2.pin p (List.mem_append_right _ (List.mem_cons_of_mem _ hp))
      have R2 := R.ground I2
      cases r with
      | cons r2 r =>
        cases r with
        | cons r3 r =>
          cases r
          obtain ⟨t, rfl⟩ := r2
          refine wpAny_call (codeAny_mono (refuses_run (Q := Q) (E := L2.E0) R2.B R2.X Fc hmc Fr c.gd c.rm (env0_ground I2) C ok S1.tr S1.tb (rv.ext g.hid) r3 fun H' g2 => cc (.bl true) H' P (Stp.gr (g.trans g2)) (S.grow (g.trans g2)) (.bl true)) fun r s' hq => ?_)
          cases r with
          | error e => exact (passL (X := X) pins σ H1 s2 e s' I3 hq)
          | ok fl =>
            cases fl with
            | ret u => exact I3.after hq
            | next => exact False.elim hq
            | brk => exact False.elim hq
            | cont => exact False.elim hq
    next => exact cc.elim
  next => exact cc.elim
theorem read_let (K : PySem.W.Frag) (d : D) : g_l_readT K ca [none, some (.pu (foD (.lets d))), some (.pu (foT (.lets d))), none] = .ret (.pu (.tuple [.str "let", d])) [none, some (.pu (foD (.lets d))), some (.pu (foT (.lets d))), none] := rfl
theorem val_at {c : Addr} {d : D} {cs : List Addr} (h : c ∈ cs) : gVal cs (excD c d) = some (.pu d) := by
  show (if c ∈ cs then some (W.pu d) else none) = _
  rw [if_pos h]
theorem read_err (K : PySem.W.Frag) (d : D) : g_l_readT K ca [none, some (.pu (foD (.err (ca "InvalidText") d))), some (.pu (foT (.err (ca "InvalidText") d))), none] = .ret (.pu (.tuple [.str "text", d])) [none, some (.pu (foD (.err (ca "InvalidText") d))), some (.pu (foT (.err (ca "InvalidText") d))), none] := by
  have e : ca "InvalidText" ∈ exNames.map ca := List.mem_map.mpr ⟨_, by decide, rfl⟩
  have h := val_at (d := d) e
  let ρ : DL.Env := [none, some (.pu (foD (.err (ca "InvalidText") d))), some (.pu (foT (.err (ca "InvalidText") d))), none]
  have h1 : Ev (fOp1 (gVal (exNames.map ca)) (fVar 1)) ρ d := Ev.op1 (w := .pu d) (.var rfl) h
  have h2 : EvL (fCons (fC (.str "text")) (fCons (fOp1 (gVal (exNames.map ca)) (fVar 1)) fNil)) ρ [.str "text", d] := .cons .k (.cons h1 .nil)
  have h3 : bndA (fCons (fC (.str "text")) (fCons (fOp1 (gVal (exNames.map ca)) (fVar 1)) fNil)) gMkT ρ = .ok (.pu (.tuple [.str "text", d])) ρ := by
    unfold bndA
    rw [show _ = _ from h2]
    rfl
  show sRet (fIf (fOp2 gIsN (fVar 1) (fC .none)) _ _) ρ = _
  unfold sRet sE
  have h4 : fIf (fOp2 gIsN (fVar 1) (fC .none)) (bndA (fCons (fC (.str "let")) (fCons (fVar 2) (fNil))) gMkT) (bndA (fCons (fC (.str "text")) (fCons (fOp1 (gVal (exNames.map ca)) (fVar 1)) (fNil))) gMkT) ρ = bndA (fCons (fC (.str "text")) (fCons (fOp1 (gVal (exNames.map ca)) (fVar 1)) fNil)) gMkT ρ := rfl
  rw [h4, h3]
/-- _law_read(lambda: ..) -/
def fRead (ca : Str → Addr) (fb : DL.Env → RE) : DL.Env → RE := fun ρ => match fb (pubE ρ) with
  | .ok w _ => .ok (.pu (.tuple [.str "let", w.d])) ρ
  | .err c d => if c = ca "InvalidText" then .ok (.pu (.tuple [.str "text", d])) ρ else .st
  | .st => .st
theorem de_readLam {k : Nat} {fb : DL.Env → RE} {params : Arguments} {body : Expr} {scope : Scope} {p p1 pos : Pos} (Mk : Maker X) (c : Cn X E (k + 2)) (R : RefKit X.prog X.w X.K X.mg X.base ca) (B : LamB X k fb params body scope) (hg : Gl X "_law_read" := by rfl)
    (he : starEach [.Lambda params body scope p1] X.env = (false, eval (.Lambda params body scope p1) X.env) :: starEach [] X.env := by rfl) (hpl : (backTo pos (starEach [] X.env)).any (·.1) = false := by rfl) :
    DE X E (.Call (.Name "_law_read" p) [.Lambda params body scope p1] [] pos) (fRead ca fb) := by
  obtain ⟨fr, fdr, Fr, hmr⟩ := R.read
  refine ⟨⟨fun pins s σ H Q I ⟨τ, A0, P, ρ, S, cc⟩ => ?_⟩⟩
  have key : ∃ o dres, foOf (fb (pubE ρ)) = some o ∧ (∀ c d, o = .err c d → c = ca "InvalidText") ∧ (∃ ρ', g_l_readT X.K ca [none, some (.pu (foD o)), some (.pu (foT o)), none] = .ret (.pu dres) ρ') ∧ CDE X.K E τ A0 H P σ (.ok (.pu dres) ρ) Q := by
    unfold fRead at cc
    cases q : fb (pubE ρ) with
    | ok w ρ' =>
      rw [q] at cc
      exact ⟨.lets w.d, .tuple [.str "let", w.d], rfl, fun _ _ z => (nomatch z), ⟨_, read_let X.K w.d⟩, cc⟩
    | err c d =>
      rw [q] at cc
      dsimp only at cc
      by_cases h : c = ca "InvalidText"
      · rw [if_pos h] at cc
        subst h
        exact ⟨.err (ca "InvalidText") d, .tuple [.str "text", d], rfl, fun _ _ z => (by injection z with z _; exact z.symm), ⟨_, read_err X.K d⟩, cc⟩
      · rw [if_neg h] at cc
        exact cc.elim
    | st => rw [q] at cc; exact cc.elim
  obtain ⟨o, dres, ho, hex, ⟨ρ', hres⟩, cc⟩ := key
  refine wpAny_Call_Name_kw (ld_glob I hg hmr ?_ (by decide))
  refine PySem.W.callWith_K (h₀ := X.base) I.ok.mod.kin Fr.kp ?_ he hpl
  rw [he]
  show wpAny _ _ (spliced ((false, eval (.Lambda params body scope p1) X.env) :: backTo pos (starEach [] X.env))) _ _ s
  refine Calls.spliced_cons (lam_push Mk B I S.tb fun f o' H1 s1 I1 g hfr lv => ?_)
  refine Calls.spliced_nil ⟨I1.kIn, ?_⟩
  have S1 := S.grow g
  have C := can_of Mk I1 S1 List.mem_cons_self hfr lv ho
  have I3 : Inv X pins σ H1 s1 := I1.pins_of fun p hp => I1.pin p (List.mem_append_right _ (List.mem_cons_of_mem _ hp))
  have R2 := R.ground I1
  refine wpAny_call (codeAny_mono (read_run (Q := Q) (E := L2.E0) R2.B R2.X Fr c.gd c.rm (env0_ground I1) C S1.tr S1.tb hex hres fun v H' g2 r2 => cc v H' P (Stp.gr (g.trans g2)) (S.grow (g.trans g2)) r2) fun r s' hq => ?_)
  cases r with
  | error e => exact (passL (X := X) pins σ H1 s1 e s' I3 hq)
  | ok fl =>
    cases fl with
    | ret u => exact I3.after hq
    | next => exact False.elim hq
    | brk => exact False.elim hq
    | cont => exact False.elim hq
end
end K65
/-! E6: _law_marked: a tree of lists that are all its own. -/
namespace K65
open PySem L2 PyProof.Rows DL
def lastOk (ds : List D) : Bool := match ds.getLast? with
  | some (.str x) => decide (x ≠ "marked")
  | _ => true
def okL (ds : List D) : Bool := SeqAt.shaped (.list ds) && (decide (ds.length < 1000) && lastOk ds)
theorem lay_mem : ∀ {ds : List D} {z : D}, PyData.canLayAll0 ds = true → z ∈ ds → z.canLay0 = true ∧ z.depth ≤ PyData.depthAll ds
  | [], _, _, h => absurd h (by simp)
  | d :: ds, z, h, hm => by
    simp only [PyData.canLayAll0, Bool.and_eq_true] at h
    simp only [PyData.depthAll]
    rcases List.mem_cons.mp hm with rfl | hm
    · exact ⟨h.1, by omega⟩
    · obtain ⟨a, b⟩ := lay_mem h.2 hm
      exact ⟨a, by omega⟩
theorem shaped_mem {ds : List D} {z : D} (h : SeqAt.shaped (.list ds) = true) (hm : z ∈ ds) : SeqAt.shaped z = true := by
  unfold SeqAt.shaped at h ⊢
  simp only [Bool.and_eq_true, decide_eq_true_eq] at h ⊢
  obtain ⟨a, b⟩ := lay_mem (by simpa [PyData.canLay0] using h.1) hm
  have : z.depth ≤ (PyData.list ds).depth := by
    simp only [PyData.depth]
    omega
  exact ⟨a, Nat.le_trans this h.2⟩
mutual
/-- v is data at H; N: its lists, each once -/
inductive Tr (H : Hp) : Nat → V → D → List Addr → Prop
  | int {n : Nat} {i : Int} : Tr H (n + 1) (.int i) (.int i) []
  | str {n : Nat} {x : Str} : Tr H (n + 1) (.str x) (.str x) []
  | lst {n : Nat} {a : Addr} {xs : List V} {ds : List D} {N : List Addr} : H a = some (.lst xs) → Trs H n xs ds N → okL ds = true → Tr H (n + 1) (.ref a) (.list ds) (a :: N)
  | tup {n : Nat} {a : Addr} {xs : List V} {ds : List D} {N : List Addr} : H a = some (.tup xs) → Trs H n xs ds N → ds.length < 1000 → Tr H (n + 1) (.ref a) (.tuple ds) N
inductive Trs (H : Hp) : Nat → List V → List D → List Addr → Prop
  | nil {n : Nat} : Trs H n [] [] []
  | cons {n : Nat} {x : V} {xs : List V} {d : D} {ds : List D} {N M : List Addr} : Tr H n x d N → Trs H n xs ds M → Trs H n (x :: xs) (d :: ds) (N ++ M)
end
section
variable {K : PySem.W.Frag} {H H' : Hp}
/-- what is written is lists, none of the tree's -/
def Kp (M : List Addr) (H H' : Hp) : Prop := (∀ a ∈ M, ∃ xs, H a = some (.lst xs)) ∧ ∀ a o, a ∉ M → H a = some o → NT o → H' a = some o
mutual
theorem Tr.keep {M : List Addr} (k : Kp M H H') : ∀ {n : Nat} {v : V} {d : D} {N : List Addr}, Tr H n v d N → (∀ a ∈ N, a ∉ M) → Tr H' n v d N
  | _, _, _, _, .int, _ => .int
  | _, _, _, _, .str, _ => .str
  | _, _, _, _, .lst h r ok, hN => .lst (k.2 _ _ (hN _ List.mem_cons_self) h (fun _ z => nomatch z)) (Trs.keep k r fun a z => hN a (List.mem_cons_of_mem _ z)) ok
  | _, _, _, _, .tup h r ok, hN => .tup (k.2 _ _ (fun z => by obtain ⟨xs, e⟩ := k.1 _ z; rw [h] at e; cases e) h (fun _ z => nomatch z)) (Trs.keep k r hN) ok
theorem Trs.keep {M : List Addr} (k : Kp M H H') : ∀ {n : Nat} {v : List V} {d : List D} {N : List Addr}, Trs H n v d N → (∀ a ∈ N, a ∉ M) → Trs H' n v d N
  | _, _, _, _, .nil, _ => .nil
  | _, _, _, _, .cons h r, hN => .cons (Tr.keep k h fun a z => hN a (List.mem_append_left _ z)) (Trs.keep k r fun a z => hN a (List.mem_append_right _ z))
end
mutual
theorem Tr.rp : ∀ {n : Nat} {v : V} {d : D} {N : List Addr}, Tr H n v d N → Rp K (hid [] H) v d
  | _, _, _, _, .int => .int _
  | _, _, _, _, .str => .str _
  | _, _, _, _, .lst h r _ => .lst (hid_in (by simp) h) (Trs.rp r)
  | _, _, _, _, .tup h r _ => .tup (hid_in (by simp) h) (Trs.rp r)
theorem Trs.rp : ∀ {n : Nat} {v : List V} {d : List D} {N : List Addr}, Trs H n v d N → Rps K (hid [] H) v d
  | _, _, _, _, .nil => .nil
  | _, _, _, _, .cons h r => .cons (Tr.rp h) (Trs.rp r)
end
mutual
theorem Tr.at_ : ∀ {n : Nat} {v : V} {d : D} {N : List Addr}, Tr H n v d N → ∀ a ∈ N, ∃ xs, H a = some (.lst xs)
  | _, _, _, _, .int, a, h => absurd h (by simp)
  | _, _, _, _, .str, a, h => absurd h (by simp)
  | _, _, _, _, .lst (a := b) h r _, a, z => by
    rcases List.mem_cons.mp z with e | z
    · rw [e]; exact ⟨_, h⟩
    · exact Trs.at_ r a z
  | _, _, _, _, .tup h r _, a, z => Trs.at_ r a z
theorem Trs.at_ : ∀ {n : Nat} {v : List V} {d : List D} {N : List Addr}, Trs H n v d N → ∀ a ∈ N, ∃ xs, H a = some (.lst xs)
  | _, _, _, _, .nil, a, h => absurd h (by simp)
  | _, _, _, _, .cons h r, a, z => by
    rcases List.mem_append.mp z with z | z
    · exact Tr.at_ h a z
    · exact Trs.at_ r a z
end
theorem Trs.length : ∀ {n : Nat} {v : List V} {d : List D} {N : List Addr}, Trs H n v d N → v.length = d.length
  | _, _, _, _, .nil => rfl
  | _, _, _, _, .cons _ r => by simp [Trs.length r]
theorem srep_pub1 {d : D} {v : V} {σ : L2.St} (tb : LamX.Tabs (TbK K) H) (hl : σ.length = 3) (h0 : σ[0]? = some (some v)) (r : Rp K (hid [] H) v d) : SRep K (fun _ => 0) [] H σ [some (.pu d), none, none] [] := by
  refine srep_of (fun a z => absurd z (by simp)) tb hl fun i sl q => ?_
  match i with
  | 0 => exact ⟨d, v, (by simpa using q.symm), h0, r⟩
  | 1 => simp at q
  | 2 => simp at q
  | n + 3 => simp at q
theorem test2 {ds : List D} (ok : okL ds = true) : ∃ ρ, fAnd (fOp2 gNe (fVar 0) (bndA (fNil) gMkL)) (fOp2 gEq (fOp2 gIx (fVar 0) (fOp1 gNeg (fC (.int 1)))) (fC (.str "marked"))) [some (.pu (.list ds)), none, none] = .ok (.pu (.bool false)) ρ := by
  unfold okL at ok
  simp only [Bool.and_eq_true, decide_eq_true_eq] at ok
  obtain ⟨h1, h2, h3⟩ := ok
  have e1 : fOp2 gNe (fVar 0) (bndA (fNil) gMkL) [some (.pu (.list ds)), none, none] = .ok (.pu (.bool (!PyData.eqv (.list ds) (.list [])))) [some (.pu (.list ds)), none, none] := by
    have q : gNe (.list ds) (.list []) = some (.pu (.bool (!PyData.eqv (.list ds) (.list [])))) := by
      show (if (SeqAt.shaped (.list ds) && SeqAt.shaped (.list [])) = true then some (W.pu (.bool (!PyData.eqv (.list ds) (.list [])))) else none) = _
      rw [h1]; rfl
    show resW (gNe (.list ds) (.list [])) _ = _
    rw [q]
    rfl
  cases hd : ds with
  | nil =>
    subst hd
    exact ⟨_, rfl⟩
  | cons d0 r =>
    have e2 : PyData.eqv (.list ds) (.list []) = false := by
      rw [hd]
      simp [PyData.eqv, PyData.eqvAll]
    rw [← hd]
    rw [e2] at e1
    have hlast : ∃ z, atI ds (-1) = some z ∧ ds.getLast? = some z := by
      have hn : 0 < ds.length := by rw [hd]; simp
      have e : ixN ds.length (-1) = some (ds.length - 1) := by
        unfold ixN
        rw [if_neg (by decide), if_pos (by omega)]
        congr 1
        omega
      unfold atI
      rw [e, List.getLast?_eq_getElem?]
      exact ⟨ds[ds.length - 1], by simp [show ds.length - 1 < ds.length by omega], by simp [show ds.length - 1 < ds.length by omega]⟩
    obtain ⟨z, a1, a2⟩ := hlast
    have hz : gEq z (.str "marked") = some (.pu (.bool false)) := by
      unfold lastOk at h3
      rw [a2] at h3
      have hzs : SeqAt.shaped z = true := by
        exact shaped_mem h1 (List.mem_of_getLast? a2)
      cases z with
      | str x =>
        have h3 : x ≠ "marked" := by simpa using h3
        show some (W.pu (.bool (decide (x = "marked")))) = _
        rw [decide_eq_false h3]
      | dict kvs => simp [SeqAt.shaped, PyData.canLay0] at hzs
      | _ =>
        show (if (SeqAt.shaped _ && SeqAt.shaped (.str "marked")) = true then some (W.pu (.bool (PyData.eqv _ (.str "marked")))) else none) = _
        rw [hzs, show SeqAt.shaped (.str "marked") = true from by decide +kernel]
        simp [PyData.eqv]
    refine ⟨[some (.pu (.list ds)), none, none], ?_⟩
    unfold fAnd fBoth bndE
    rw [e1]
    show fOp2 gEq (fOp2 gIx (fVar 0) (fOp1 gNeg (fC (.int 1)))) (fC (.str "marked")) _ = _
    have e3 : fOp2 gIx (fVar 0) (fOp1 gNeg (fC (.int 1))) [some (.pu (.list ds)), none, none] = .ok (.pu z) [some (.pu (.list ds)), none, none] := by
      show resW ((atI ds (-1)).map .pu) _ = _
      rw [a1]
      rfl
    unfold fOp2 at e3 ⊢
    unfold bndE at e3 ⊢
    rw [e3]
    show resW (gEq z (.str "marked")) _ = _
    rw [hz]
    rfl
end
abbrev s_l_marked : Stmt := top 32
abbrev N_l_marked : List Str := ["told", "kept", "item"]
theorem sc_l_marked : FnScope N_l_marked ["told"] (defScope s_l_marked) := ⟨rfl, rfl, rfl, by decide +kernel, rfl, by decide +kernel, by decide +kernel⟩
def boolsD (n : Nat) : List D := List.replicate n (.bool true)
theorem lay_bools (n : Nat) : PyData.canLayAll0 (boolsD n) = true := by
  induction n with
  | zero => rfl
  | succ n ih => show PyData.canLayAll0 (.bool true :: boolsD n) = true; simp only [PyData.canLayAll0, PyData.canLay0, ih, Bool.and_self]
theorem shaped_bools (n : Nat) : SeqAt.shaped (.list (boolsD n)) = true := by
  have h2 : ∀ n, PyData.depthAll (boolsD n) ≤ 1 := fun n => by
    induction n with
    | zero => simp [boolsD, PyData.depthAll]
    | succ n ih => show PyData.depthAll (.bool true :: boolsD n) ≤ 1; simp only [PyData.depthAll, PyData.depth]; omega
  unfold SeqAt.shaped
  rw [Bool.and_eq_true, decide_eq_true_eq]
  refine ⟨by simpa [PyData.canLay0] using lay_bools n, ?_⟩
  have := h2 n
  simp only [PyData.depth]
  omega
theorem any_bools (n : Nat) : ((boolsD n).any fun z => PyData.eqv z (.bool false)) = false := by
  induction n with
  | zero => rfl
  | succ n ih => show ((PyData.bool true :: boolsD n).any fun z => PyData.eqv z (.bool false)) = false; rw [List.any_cons, ih]; simp [PyData.eqv]
theorem notin_bools (n : Nat) : gNotInD (.bool false) (.list (boolsD n)) = some (.pu (.bool true)) := by
  unfold gNotInD
  dsimp only
  rw [shaped_bools, any_bools, show SeqAt.shaped (.bool false) = true from by decide +kernel]
  rfl
theorem rps_bools {K : PySem.W.Frag} {H : Hp} : ∀ n, Rps K H (List.replicate n (.bl true)) (boolsD n)
  | 0 => .nil
  | n + 1 => .cons (.bl true) (rps_bools n)
section
variable {P : Program} {w : World} {K : PySem.W.Frag} {mg : Str → Option Value} {base : Heap}
/-- what the call of an item is asked -/
def tMk (K : PySem.W.Frag) (n : Nat) : TE := fun σ H Q => ∃ v d N, σ[2]? = some (some v) ∧ Tr H n v d N ∧ N.Nodup ∧ LamX.Tabs (TbK K) H ∧ ∀ H', Stp K H N H' [] → Q (.bl true) H'
def MkS (P : Program) (w : World) (K : PySem.W.Frag) (mg : Str → Option Value) (base : Heap) (fm : Addr) (n : Nat) : Prop := ∀ (A : Around) (outer : List PySem.Env) (s : Shared) (H : Hp) (v : V) (u : Value) (d : D) (N : List Addr) (Q : VK) (E : XK), A.guards = some [] → Room n A → Env0 P w K mg base A outer s H → Tr H n v d N → N.Nodup → LamX.Tabs (TbK K) H → RelV v u → (∀ H', Stp K H N H' [] → Q (.bl true) H') →
  codeAny (model P w) A (.call (.ref fm) ⟨[u], []⟩) (CR (L2.CX P w) outer P w H s Q E) s
theorem pe_mark {Y : Cx} {EE : XK} {fm : Addr} {fdm : FuncData} {n : Nat} (c : Cn Y EE n) (F : FunD Y.K "_law_marked" "_law_marked" (defArgs s_l_marked) (defBody s_l_marked) (defScope s_l_marked) [] [] fm fdm) (hm : Y.mg "_law_marked" = some (.ref fm)) (ih : MkS Y.prog Y.w Y.K Y.mg Y.base fm n) {a : Str} {p p1 pos : Pos} (ha : PE Y (.Name a p1) (tVar 2))
    (hg : Gl Y "_law_marked" := by rfl) (he : starEach [.Name a p1] Y.env = (false, eval (.Name a p1) Y.env) :: starEach [] Y.env := by rfl) (hpl : (backTo pos (starEach [] Y.env)).any (·.1) = false := by rfl) :
    PE Y (.Call (.Name "_law_marked" p) [.Name a p1] [] pos) (tMk Y.K n) := by
  refine ⟨fun pins s σ H Q I ⟨v, d, N, hσ, tr, nd, tb, q⟩ => ?_⟩
  refine wpAny_Call_Name_kw (ld_glob I hg hm ?_ (by decide))
  refine PySem.W.callWith_K (h₀ := Y.base) I.ok.mod.kin F.kp (thn ((pa_cons ha pa_nil he).run pos pins s σ H (fun vs H1 => vs = [v] ∧ H1 = H) I ⟨v, hσ, rfl, rfl⟩) fun us s1 ⟨vs, H1, I1, r, e1, e2⟩ => ⟨I1.kIn, ?_⟩) he hpl
  subst e1
  rw [e2] at I1
  obtain ⟨u, rfl, ru⟩ := Vals.one r
  refine wpAny_call (codeAny_mono (ih _ _ _ _ _ _ _ _ Q L2.E0 c.gd c.rm I1.env0 tr nd tb ru q) fun r s' hq => ?_)
  cases r with
  | error e => exact (passL (X := Y) pins σ H s1 e s' I1 hq)
  | ok fl =>
    cases fl with
    | ret u => exact I1.after hq
    | next => exact False.elim hq
    | brk => exact False.elim hq
    | cont => exact False.elim hq
theorem stp_seq {H H1 H2 : Hp} {M N : List Addr} (a : Stp K H M H1 []) (b : Stp K H1 N H2 []) : Stp K H (M ++ N) H2 [] :=
  ⟨fun c o n h t => b.kp c o (fun z => n (List.mem_append_right _ z)) (a.kp c o (fun z => n (List.mem_append_left _ z)) h t) t, fun p hp => absurd hp (by simp), fun c h => a.al c (b.al c h), fun t => b.tb (a.tb t)⟩
theorem stp_none {H : Hp} {N : List Addr} : Stp K H N H [] := ⟨fun _ _ _ h _ => h, fun p hp => absurd hp (by simp), fun _ h => h, fun t => t⟩
theorem trs_ne {H H1 : Hp} {n : Nat} {xs : List V} {ds : List DL.D} {N : List Addr} {c : Addr} (h : Trs H n xs ds N) (hc : H c = none) : c ∉ N := fun z => by
  obtain ⟨ys, e⟩ := h.at_ c z
  rw [hc] at e; cases e
/-- the items, one by one -/
theorem lc_marks {J : It} {n : Nat} {D : Addr} {xs : List V} {ds : List DL.D} {N : List Addr} {H1 : Hp} {σ : L2.St} {Q : Hp → Prop} (hσ : σ.length = 3) (hx : Trs H1 n xs ds N) (nd : N.Nodup) (tb : LamX.Tabs (TbK K) H1) (hD : H1 D = none) (hlen : ds.length < 1000)
    (hJ : ∀ N1 H', (∀ b ∈ N1, b ∈ N) → Stp K H1 N1 H' [] → ∀ i, (∀ x, xs[i]? = some x → J.go i H' ∧ ∀ y H'', J.yld i H' y H'' → H'' = H' ∧ y = x) ∧ (xs.length ≤ i → J.stop i H'))
    (hq : ∀ H', Stp K H1 N H' [] → H' D = some (.lst (List.replicate xs.length (.bl true))) → Q H') :
    ∃ W : Nat → Nat → Hp → Prop, (∃ m, W 0 m (upd H1 D (.lst []))) ∧ ∀ i m H, W i m H →
      (J.stop i H ∧ Q H) ∨ (J.go i H ∧ ∃ Nx : Hp → Prop, (∀ H', Nx H' → ∃ m', m' < m ∧ W (i + 1) m' H') ∧ ∀ x H', J.yld i H x H' → gName 2 x (wipe σ [2]) H' fun σ2 H2 => wipe σ2 [2] = wipe σ [2] ∧ tYes σ2 H2 fun b H3 =>
        if b = true then tMk K n σ2 H3 fun y H4 => ∃ acc, H4 D = some (.lst acc) ∧ acc.length < sizeLine ∧ Nx (upd H4 D (.lst (acc ++ [y]))) else Nx H3) := by
  have hl := hx.length
  have st0 : Stp K H1 [] (upd H1 D (.lst [])) [] := stp_upd (Stp.rfl H1 []) hD (.inl hD)
  refine ⟨fun i m H => m = xs.length - i ∧ i ≤ xs.length ∧ ∃ N1 N2, N = N1 ++ N2 ∧ Trs H n (xs.drop i) (ds.drop i) N2 ∧ Stp K H1 N1 H [] ∧ H D = some (.lst (List.replicate i (.bl true))),
    ⟨xs.length, rfl, Nat.zero_le _, [], N, rfl, ?_, st0, upd_same⟩, ?_⟩
  · exact hx.keep (M := []) ⟨fun a h => absurd h (by simp), fun a o _ h nt => st0.kp a o (by simp) h nt⟩ fun a _ => by simp
  · rintro i m H ⟨rfl, hi, N1, N2, eN, tr, st, hd⟩
    obtain ⟨j1, j2⟩ := hJ N1 H (fun b hb => by rw [eN]; exact List.mem_append_left _ hb) st i
    by_cases hlt : i < xs.length
    · refine .inr ?_
      have hx0 : xs[i]? = some xs[i] := List.getElem?_eq_getElem hlt
      obtain ⟨go, yl⟩ := j1 _ hx0
      have hlt2 : i < ds.length := by omega
      have e1 : xs.drop i = xs[i] :: xs.drop (i + 1) := List.drop_eq_getElem_cons hlt
      have e2 : ds.drop i = ds[i] :: ds.drop (i + 1) := List.drop_eq_getElem_cons hlt2
      rw [e1, e2] at tr
      generalize hxx : xs[i] = x at *
      generalize hdd : ds[i] = dd at *
      cases tr with
      | cons t1 t2 =>
        rename_i Nx M
        refine ⟨go, fun H4 => i + 1 ≤ xs.length ∧ ∃ N1 N2, N = N1 ++ N2 ∧ Trs H4 n (xs.drop (i + 1)) (ds.drop (i + 1)) N2 ∧ Stp K H1 N1 H4 [] ∧ H4 D = some (.lst (List.replicate (i + 1) (.bl true))), fun H4 h4 => ⟨xs.length - (i + 1), by omega, rfl, h4⟩, fun y H' hy => ?_⟩
        obtain ⟨rfl, rfl⟩ := yl y H' hy
        have ndx : (N1 ++ (Nx ++ M)).Nodup := by rw [← eN]; exact nd
        have nd2 := (List.nodup_append.mp ndx).2.1
        have s2 : ((wipe σ [2]).set 2 (some y))[2]? = some (some y) := List.getElem?_set_self (by rw [wipe_length, hσ]; decide)
        refine ⟨?_, ?_⟩
        · show ((wipe σ [2]).set 2 (some y)).set 2 none = (σ.set 2 none)
          rw [List.set_set]
          show (σ.set 2 none).set 2 none = σ.set 2 none
          rw [List.set_set]
        · unfold tYes
          dsimp only
          rw [if_pos rfl]
          have dN : ∀ b ∈ N, b ≠ D := fun b hb z => by
            obtain ⟨ys, e⟩ := hx.at_ b hb
            rw [z, hD] at e; cases e
          have inN : ∀ b, b ∈ N1 ++ (Nx ++ M) → b ∈ N := fun b hb => by rw [eN]; exact hb
          refine ⟨y, dd, Nx, s2, t1, (List.nodup_append.mp nd2).1, st.tb tb, fun H4 st4 => ?_⟩
          have h4D : H4 D = some (.lst (List.replicate i (.bl true))) := st4.kp D _ (fun z => dN D (inN D (by simp [z])) rfl) hd (fun _ z => nomatch z)
          refine ⟨_, h4D, by rw [List.length_replicate]; exact Nat.lt_trans (show i < 1000 by omega) (by decide), hlt, N1 ++ Nx, M, by rw [eN, List.append_assoc], ?_, ?_, ?_⟩
          · have t3 : Trs H4 n (xs.drop (i + 1)) (ds.drop (i + 1)) M := t2.keep (M := Nx) ⟨t1.at_, fun a o ha h nt => st4.kp a o ha h nt⟩ fun a ha z => (List.nodup_append.mp nd2).2.2 a z a ha rfl
            refine t3.keep (M := [D]) ⟨fun a ha => ?_, fun a o ha h nt => ?_⟩ fun a ha z => dN a (inN a (by simp [ha])) (List.mem_singleton.mp z)
            · rw [List.mem_singleton.mp ha]; exact ⟨_, h4D⟩
            · rw [upd_ne (fun z => ha (by rw [z]; exact List.mem_singleton.mpr rfl))]
              exact h
          · exact stp_upd (stp_seq st st4) hD (.inr ⟨_, h4D⟩)
          · rw [upd_same]
            congr 2
            exact (List.replicate_succ' ).symm
    · refine .inl ⟨j2 (by omega), hq H ?_ ?_⟩
      · have hn : xs.drop i = [] := List.drop_eq_nil_of_le (by omega)
        rw [hn] at tr
        have hN2 : N2 = [] := by
          generalize ds.drop i = dd at tr
          cases tr; rfl
        rw [hN2, List.append_nil] at eN
        rw [eN]
        exact st
      · have : i = xs.length := by omega
        rw [← this]
        exact hd
theorem isi_list {d : DL.D} (h : dOk d = true) {ρ : DL.Env} (n : String) (h0 : ρ[0]? = some (some (.pu d))) : fOp1 (gIsi n) (fVar 0) ρ = .ok (.pu (.bool (isA n d))) ρ := by
  have e : fVar 0 ρ = .ok (.pu d) ρ := by
    unfold fVar
    rw [h0]
  unfold fOp1 bndE
  rw [e]
  show resW (gIsi n d) ρ = _
  unfold gIsi
  rw [if_pos h]
  rfl
theorem tr_dOk {H : Hp} {n : Nat} {v : V} {d : DL.D} {N : List Addr} (h : Tr H n v d N) : dOk d = true := by
  cases h <;> rfl
/-- a test at the head of the body -/
theorem test_tr {E : XK} {H : Hp} {n : Nat} {v : V} {d : DL.D} {N : List Addr} {σ : L2.St} {b : Bool} {f : DL.Env → RE} {ρ' : DL.Env} {Q : Bool → Hp → Prop} (t : Tr H n v d N) (tb : LamX.Tabs (TbK K) H) (hl : σ.length = 3) (h0 : σ[0]? = some (some v)) (hf : f [some (.pu d), none, none] = .ok (.pu (.bool b)) ρ') (hq : ∀ H', Gr K H H' → Tr H' n v d N → LamX.Tabs (TbK K) H' → Q b H') : tTest (tDE K E f) σ H Q := by
  refine ⟨fun _ => 0, [], [], _, srep_pub1 tb hl h0 t.rp, ?_⟩
  rw [hf]
  intro v' H' P' st S r
  have g : Gr K H H' := ⟨fun a o h nt => st.kp a o (by simp) h nt, st.al, st.tb⟩
  exact ⟨b, rp_bool r, hq H' g (t.keep (M := []) ⟨fun a h => absurd h (by simp), fun a o _ h nt => g.kp a o h nt⟩ fun a _ => by simp) (g.tb tb)⟩
theorem marks (B : Bl mg) {fm : Addr} {fdm : FuncData} (F : FunD K "_law_marked" "_law_marked" (defArgs s_l_marked) (defBody s_l_marked) (defScope s_l_marked) [] [] fm fdm) (hm : mg "_law_marked" = some (.ref fm)) : ∀ n, MkS P w K mg base fm n
  | 0 => by
    intro A outer s H v u d N Q E hgd hr e0 t nd tb ru hq
    cases t
  | n + 1 => by
    intro A outer s H v u d N Q E hgd hr e0 t nd tb ru hq
    have ih : MkS P w K mg base fm n := marks B F hm n
    obtain ⟨oc, od, kV, doc, pm, an, cdv, ct, osl, rfl, lk, hcd⟩ := (Fun.ofD F).ex
    refine LamX.run_ofS (N := N_l_marked) (ps := ["told"]) (us := [u]) (vs := [v]) lk hcd sc_l_marked hr e0 (.of_eq (by first | rfl | with_unfolding_all rfl)) (.cons ru .nil) rfl fun hr2 => ?_
    have nd' := sc_l_marked.nd
    have cn : Cn (fx P w K mg base N_l_marked "_law_marked" s_l_marked fm cdv A outer s H E) E n := ⟨hgd, hr2, passes_call (W := fun cls d _ H => E cls d H) (takes_of rfl rfl rfl rfl) (fun _ _ _ _ h => h), takes_of rfl rfl rfl rfl, rfl⟩
    have hu : (fx P w K mg base N_l_marked "_law_marked" s_l_marked fm cdv A outer s H E).A.units + 65 < cLine := by
      have := cn.rm.un
      omega
    refine ⟨_, pss_cons (ps_if (dt_val (d_isi B "list" "list" rfl B.list bt_list (de_var (E := E) (pv 0)))).pt
        (pss_cons (ps_if (dt_w (dw_and (t_ne cn (de_var (E := E) (pv 0)) (de_mkL (da_nil))) (dw_and1 (t_eq cn (d_ix (de_var (pv 0)) (d_neg (de_int))) (de_str))))).pt (pss_one (ps_ret pe_bl)) pss_nil)
        (pss_cons (ps_setLc (te := tMk K n) (own := [("item", 2)]) cn.cm nd' (i := 1) rfl rfl (sw_true rfl rfl rfl (by decide)) (pi_list (pv 0)) (blkOk_by (by rfl)) (fun _ _ _ _ _ => pg_name nd' (i := 2) rfl (by first | exact .inl rfl | exact .inr rfl)) (fun _ _ _ _ _ => pts_nil)
            (fun _ _ _ _ _ => pe_mark cn.blk F hm ih (pv 2)))
        (pss_cons (ps_expr (pe_bm PySem.F.plainAttrs_list PySem.F.slot_list_append PySem.F.type_list_append mt_append (pv 0) (pa_cons pe_str pa_nil)))
        (pss_one (ps_ret (d_notInD (E := E) cn (de_bl) (de_var (pv 1))).pe))))) pss_nil)
      (pss_cons (ps_if (dt_val (d_isi B "tuple" "tuple" rfl B.tuple bt_tuple (de_var (E := E) (pv 0)))).pt
        (pss_one (ps_ret (pe_cmpR (op_notInD hu) pe_bl (pe_lc (te := tMk K n) (own := [("item", 2)]) cn.cm nd' (pi_tup (pv 0)) (blkOk_by (by rfl)) (fun _ _ _ _ _ => pg_name nd' (i := 2) rfl (by first | exact .inl rfl | exact .inr rfl)) (fun _ _ _ _ _ => pts_nil)
            (fun _ _ _ _ _ => pe_mark cn.blk F hm ih (pv 2))) (by rfl)))) pss_nil)
      (pss_one (ps_ret pe_bl))), ?_⟩
    have gs : ∀ {H2 : Hp}, Gr K H H2 → Stp K H N H2 [] := fun g => ⟨fun a o _ h nt => g.kp a o h nt, fun p hp => absurd hp (by simp), g.al, g.tb⟩
    refine test_tr t tb rfl rfl (isi_list (tr_dOk t) "list" rfl) fun H2 g t2 tb2 => ?_
    cases t2 with
    | int =>
      refine test_tr (n := n + 1) (N := []) .int tb2 rfl rfl (isi_list rfl "tuple" rfl) fun H3 g3 t3 tb3 => ?_
      exact hq H3 (gs (g.trans g3))
    | str =>
      refine test_tr (n := n + 1) (N := []) .str tb2 rfl rfl (isi_list rfl "tuple" rfl) fun H3 g3 t3 tb3 => ?_
      exact hq H3 (gs (g.trans g3))
    | tup ha r hl =>
      rename_i a xs ds
      refine test_tr (n := n + 1) (N := N) (.tup ha r hl) tb2 rfl rfl (isi_list rfl "tuple" rfl) fun H3 g3 t3 tb3 => ?_
      cases t3 with
      | tup ha r hl =>
        rename_i ys
        refine ⟨.ref a, rfl, a, rfl, ⟨ys, .inl (.inl ha)⟩, fun DD hD => ?_⟩
        refine lc_marks (ds := ds) (N := N) rfl r nd tb3 hD hl (fun N1 H' hN st i => ?_) fun H4 st4 h4 => ?_
        · have ha' : H' a = some (.tup ys) := st.kp a _ (fun z => by obtain ⟨zs, e⟩ := r.at_ a (hN a z); rw [ha] at e; cases e) ha (fun _ z => nomatch z)
          refine ⟨fun x hx => ⟨⟨ys, x, .inl (.inl ha'), hx⟩, fun y H'' hy => ?_⟩, fun h => ⟨ys, .inl (.inl ha'), h⟩⟩
          obtain ⟨e, hy⟩ := hy
          have e2 := hy ys (.inl (.inl ha'))
          rw [hx] at e2
          exact ⟨e, (Option.some.inj e2).symm⟩
        · refine ⟨.bool false, boolsD ys.length, .bl false, .lst (.inl (.inl h4)) (Rps.dp (rps_bools _) (lay_bools _)), by decide +kernel, shaped_bools _, ?_⟩
          rw [any_bools]
          refine hq H4 ⟨fun c o hc h nt => ?_, fun p hp => absurd hp (by simp), fun c h => ?_, fun h => ?_⟩
          · exact st4.kp c o hc ((g.trans g3).kp c o h nt) nt
          · exact (g.trans g3).al c (st4.al c h)
          · exact st4.tb ((g.trans g3).tb h)
    | lst ha r ok =>
      rename_i a xs ds N
      obtain ⟨ρt, ht⟩ := test2 ok
      refine test_tr (n := n + 1) (N := a :: N) (.lst ha r ok) tb2 rfl rfl ht fun H3 g3 t3 tb3 => ?_
      cases t3 with
      | lst ha r ok =>
        rename_i ys
        have hl : ds.length < 1000 := by
          unfold okL at ok
          simp only [Bool.and_eq_true, decide_eq_true_eq] at ok
          exact ok.2.1
        have nda := List.nodup_cons.mp nd
        rw [if_neg Bool.false_ne_true]
        refine ⟨.ref a, rfl, a, rfl, ⟨ys, .inl (.inl ha)⟩, fun DD hD => ?_⟩
        refine lc_marks (ds := ds) (N := N) rfl r nda.2 tb3 hD hl (fun N1 H' hN st i => ?_) fun H4 st4 h4 => ?_
        · have ha' : H' a = some (.lst ys) := st.kp a _ (fun z => nda.1 (hN a z)) ha (fun _ z => nomatch z)
          refine ⟨fun x hx => ⟨⟨ys, x, .inl (.inl ha'), hx⟩, fun y H'' hy => ?_⟩, fun h => ⟨ys, .inl (.inl ha'), h⟩⟩
          obtain ⟨e, hy⟩ := hy
          have e2 := hy ys (.inl (.inl ha'))
          rw [hx] at e2
          exact ⟨e, (Option.some.inj e2).symm⟩
        · have ha4 : H4 a = some (.lst ys) := st4.kp a _ nda.1 ha (fun _ z => nomatch z)
          have hyl := r.length
          have neD : DD ≠ a := fun z => by rw [z, ha] at hD; cases hD
          refine ⟨.ref a, rfl, .inl ⟨rfl, ys, .inl (.inl ha4)⟩, a, ys, .str "marked", rfl, rfl, ha4, Nat.lt_trans (show ys.length < 1000 by omega) (by decide), ?_⟩
          have tb5 : LamX.Tabs (TbK K) (L2.upd H4 a (.lst (ys ++ [.str "marked"]))) := fun b hb => tab_lst ha4 (st4.tb tb3 b hb)
          refine ⟨fun _ => 0, [], [], [none, some (.pu (.list (boolsD ys.length))), none], srep_of (fun a z => absurd z (by simp)) tb5 rfl fun i sl q => ?_, ?_⟩
          · match i with
            | 0 => simp at q
            | 1 => exact ⟨_, .ref DD, (by simpa using q.symm), rfl, .lst (hid_in (by simp) (by rw [upd_ne neD]; exact h4)) (rps_bools _)⟩
            | 2 => simp at q
            | n + 3 => simp at q
          · have e5 : fOp2 gNotInD (fC (.bool false)) (fVar 1) [none, some (.pu (.list (boolsD ys.length))), none] = .ok (.pu (.bool true)) [none, some (.pu (.list (boolsD ys.length))), none] := by
              show resW (gNotInD (.bool false) (.list (boolsD ys.length))) _ = _
              rw [notin_bools]
              rfl
            rw [e5]
            intro v' H' P' st' S' r'
            rw [rp_bool r']
            refine hq H' ⟨fun c o hc h nt => ?_, fun p hp => absurd hp (by simp), fun c h => ?_, fun h => ?_⟩
            · have hc' : c ≠ a ∧ c ∉ N := by simpa using hc
              refine st'.kp c o (by simp) ?_ nt
              rw [upd_ne hc'.1]
              exact st4.kp c o hc'.2 ((g.trans g3).kp c o h nt) nt
            · have h5 := st'.al c h
              by_cases hca : c = a
              · rw [hca, upd_same] at h5; cases h5
              · rw [upd_ne hca] at h5
                exact (g.trans g3).al c (st4.al c h5)
            · exact st'.tb tb5
end
end K65
/-! E7: grid_of_text, its lists all new. -/
namespace K65
open PySem L2 PyProof.Rows DL
abbrev gt_a : DL.Env → RE := fCall 1 F_ended_lines (fCons (fVar 0) (fNil))
abbrev gt_b : DL.Env → RE := fIf (fOp2 gIsN (fVar 1) (fC .none)) (bndA (fNil) gMkL) (fLc (srcE (fVar 1) itemsL) (bName 3) (fC (.bool true)) (fCall 1 F_parts_in (fCons (fVar 3) (fNil))) [3])
abbrev gt_c : DL.Env → RE := fOr (fOp2 gLt (bndA (fCons (fVar 2) (fNil)) gLen) (fC (.int 3))) (fOr (fOp2 gInD (fC .none) (fVar 2)) (fOp2 gNe (fLc (srcE (fVar 2) itemsL) (bName 4) (fOp2 gNe (bndA (fCons (fVar 4) (fNil)) gLen) (bndA (fCons (fOp2 gIx (fVar 2) (fC (.int 0))) (fNil)) gLen)) (fVar 4) [4]) (bndA (fNil) gMkL)))
abbrev gt_n1 : DL.Env → RE := fLc (srcE (fOp1 (gCut (some 1) (some (-1))) (fVar 2)) itemsL) (bName 4) (fC (.bool true)) (fOp2 gIx (fVar 4) (fC (.int 0))) [4]
abbrev gt_n2 : DL.Env → RE := fOp1 (gCut (some 1) (some (-1))) (fOp2 gIx (fVar 2) (fC (.int 0)))
abbrev gt_fe : DL.Env → RE := fLc (srcE (fOp1 (gCut (some 1) (some (-1))) (fVar 4)) itemsL) (bName 7) (fC (.bool true)) (fCall 1 F_read_whole (fCons (fVar 7) (fNil))) [7]
abbrev gt_t6 : DL.Env → RE := fOr (fNot (fCall 1 F_is_grid (fCons (fVar 6) (fNil)))) (fOr (fNot (fCall 2 F_are_names_of (fCons (fOp2 gIx (fVar 5) (fC (.int 0))) (fCons (bndA (fCons (fVar 6) (fNil)) gLen) (fNil))))) (fNot (fCall 2 F_are_names_of (fCons (fOp2 gIx (fVar 5) (fC (.int 1))) (fCons (bndA (fCons (fOp2 gIx (fVar 6) (fC (.int 0))) (fNil)) gLen) (fNil))))))
abbrev gt_t7 : DL.Env → RE := fOp2 gNe (fCall 1 F_drawn_rows (fCons (fCall 2 F_words_of (fCons (fVar 6) (fCons (fVar 5) (fNil)))) (fNil))) (fVar 0)
abbrev gt_src : DL.Env → RI := srcE (fOp1 (gCut (some 1) (some (-1))) (fVar 2)) itemsL
/-- slots of shared data, nothing more -/
def PubAt (K : PySem.W.Frag) (H : Hp) (σ : L2.St) (ρ : DL.Env) : Prop := ∀ (i : Nat) (d : D), ρ[i]? = some (some (.pu d)) → ∃ v, σ[i]? = some (some v) ∧ Rp K (hid [] H) v d
def AllPub (ρ : DL.Env) : Prop := ∀ (i : Nat) (s : Sl), ρ[i]? = some (some s) → ∃ d, s = .pu d
section
variable {K : PySem.W.Frag} {E : XK} {H H' : Hp} {σ : L2.St} {ρ : DL.Env}
theorem PubAt.gr (h : PubAt K H σ ρ) (g : Gr K H H') : PubAt K H' σ ρ := fun i d q => by
  obtain ⟨v, h1, h2⟩ := h i d q
  exact ⟨v, h1, h2.ext g.hid⟩
theorem PubAt.srep (h : PubAt K H σ ρ) (ap : AllPub ρ) (tb : LamX.Tabs (TbK K) H) (hl : σ.length = ρ.length) : SRep K (fun _ => 0) [] H σ ρ [] :=
  srep_of (fun a z => absurd z (by simp)) tb hl fun i s q => by
    obtain ⟨d, rfl⟩ := ap i s q
    obtain ⟨v, h1, h2⟩ := h i d q
    exact ⟨d, v, rfl, h1, h2⟩
theorem pub_of {τ : Nat → Addr} {A0 P : List Addr} (S : SRep K τ A0 H σ ρ P) : PubAt K H σ ρ := fun i d q => by
  obtain ⟨v, h1, h2⟩ := S.puD q
  exact ⟨v, h1, h2.ext (hid_less fun a z => absurd z (by simp))⟩
theorem PubAt.put {v : V} {d : D} {i : Nat} (h : PubAt K H σ ρ) (hl : i < σ.length) (r : Rp K (hid [] H) v d) : PubAt K H (σ.set i (some v)) (ρ.set i (some (.pu d))) := fun j e q => by
  by_cases hj : i = j
  · subst hj
    by_cases hi : i < ρ.length
    · rw [List.getElem?_set_self hi] at q
      cases q
      exact ⟨v, List.getElem?_set_self hl, r⟩
    · rw [List.getElem?_eq_none (by simpa using hi)] at q; cases q
  · rw [List.getElem?_set_ne hj] at q
    rw [List.getElem?_set_ne hj]
    exact h j e q
theorem AllPub.put {d : D} {i : Nat} (h : AllPub ρ) : AllPub (ρ.set i (some (.pu d))) := fun j s q => by
  by_cases hj : i = j
  · subst hj
    by_cases hi : i < ρ.length
    · rw [List.getElem?_set_self hi] at q
      cases q
      exact ⟨d, rfl⟩
    · rw [List.getElem?_eq_none (by simpa using hi)] at q; cases q
  · rw [List.getElem?_set_ne hj] at q
    exact h j s q
theorem gr_stp {P' : List Addr} (st : Stp K H [] H' P') : Gr K H H' := st.toGr
/-- an expression that leaves the slots -/
theorem ev_pub {f : DL.Env → RE} {d : D} {Q : VK} (e : Ev f ρ d) (h : PubAt K H σ ρ) (ap : AllPub ρ) (tb : LamX.Tabs (TbK K) H) (hl : σ.length = ρ.length) (hq : ∀ v H', Gr K H H' → Rp K (hid [] H') v d → Q v H') : tDE K E f σ H Q := by
  obtain ⟨w, e1, rfl⟩ := e
  exact cde_any (h.srep ap tb hl) e1 fun v H' P' st S r => hq v H' st.toGr (r.ext (hid_less fun a z => absurd z (by simp)))
theorem evl_pub {f : DL.Env → RE} {ds : List D} {Q : VK} (e : Evl f ρ ds) (h : PubAt K H σ ρ) (ap : AllPub ρ) (tb : LamX.Tabs (TbK K) H) (hl : σ.length = ρ.length) (hq : ∀ p xs H', Gr K H H' → H p = none → H' p = some (.lst xs) → Rps K (hid [] H') xs ds → Q (.ref p) H') : tDE K E f σ H Q := by
  refine ⟨fun _ => 0, [], [], ρ, h.srep ap tb hl, ?_⟩
  rw [show f ρ = _ from e]
  exact fun p xs H' P' st hn _ _ S hl hr => hq p xs H' st.toGr hn hl (hr.ext (hid_less fun a z => absurd z (by simp)))
theorem test_pub {f : DL.Env → RE} {b : Bool} {Q : Bool → Hp → Prop} (e : Ev f ρ (.bool b)) (h : PubAt K H σ ρ) (ap : AllPub ρ) (tb : LamX.Tabs (TbK K) H) (hl : σ.length = ρ.length) (hq : ∀ H', Gr K H H' → Q b H') : tTest (tDE K E f) σ H Q :=
  ev_pub e h ap tb hl fun v H' g r => ⟨b, rp_bool r, hq H' g⟩
theorem rps_intV : ∀ {r : List Int} {xs : List V}, Rps K H xs (r.map .int) → xs = r.map V.int
  | [], _, h => by cases h; rfl
  | i :: r, _, h => by
    cases h with
    | cons a b => rw [rp_int a, rps_intV b]; rfl
theorem rps_strV : ∀ {r : List Str} {xs : List V}, Rps K H xs (r.map .str) → xs = r.map V.str
  | [], _, h => by cases h; rfl
  | i :: r, _, h => by
    cases h with
    | cons a b => rw [rp_str a, rps_strV b]; rfl
/-- a list of new lists of ints -/
structure Rows (H1 H' : Hp) (D : Addr) (qs : List Addr) (tab : List (List Int)) : Prop where
  len : qs.length = tab.length
  nd : (D :: qs).Nodup
  new : ∀ q ∈ qs, H1 q = none
  at_ : ∀ (j : Nat) (q : Addr) (r : List Int), qs[j]? = some q → tab[j]? = some r → H' q = some (.lst (r.map V.int))
theorem lc_fresh {J : It} {fe : DL.Env → RE} {items : List D} {tab : List (List Int)} {H1 : Hp} {DD : Addr} {Q : Hp → Prop} {A0 P0 : List Addr} (hl : σ.length = ρ.length) (h4 : 4 < σ.length) (pa : PubAt K H1 σ ρ) (ap : AllPub ρ) (n4 : ρ[4]? = some none) (tb : LamX.Tabs (TbK K) H1) (wk : Walks K A0 J items H1 P0) (hD : H1 DD = none)
    (hlen : items.length = tab.length) (hz : tab.length < 1000) (hrow : ∀ (i : Nat) (d : D) (r : List Int), items[i]? = some d → tab[i]? = some r → Evl fe (ρ.set 4 (some (.pu d))) (r.map .int))
    (hq : ∀ H' qs, Gr K H1 H' → H' DD = some (.lst (qs.map .ref)) → Rows H1 H' DD qs tab → Q H') :
    ∃ W : Nat → Nat → Hp → Prop, (∃ m, W 0 m (upd H1 DD (.lst []))) ∧ ∀ i m H, W i m H →
      (J.stop i H ∧ Q H) ∨ (J.go i H ∧ ∃ Nx : Hp → Prop, (∀ H', Nx H' → ∃ m', m' < m ∧ W (i + 1) m' H') ∧ ∀ x H', J.yld i H x H' → gName 4 x (wipe σ [4]) H' fun σ2 H2 => wipe σ2 [4] = wipe σ [4] ∧ tYes σ2 H2 fun b H3 =>
        if b = true then tDE K DL.E0 fe σ2 H3 fun y H4 => ∃ acc, H4 DD = some (.lst acc) ∧ acc.length < sizeLine ∧ Nx (upd H4 DD (.lst (acc ++ [y]))) else Nx H3) := by
  let I : Nat → Hp → Prop := fun i H => i ≤ items.length ∧ Gr K H1 H ∧ ∃ qs : List Addr, qs.length = i ∧ H DD = some (.lst (qs.map .ref)) ∧ (DD :: qs).Nodup ∧ (∀ q ∈ qs, H1 q = none) ∧ ∀ (j : Nat) (q : Addr) (r : List Int), qs[j]? = some q → tab[j]? = some r → H q = some (.lst (r.map V.int))
  refine ⟨fun i m H => m = items.length - i ∧ I i H, ⟨items.length, rfl, Nat.zero_le _, Ext.gr (Evl.Ex.new hD), [], rfl, upd_same, by simp, fun q h => absurd h (by simp), fun j q r h => by simp at h⟩, ?_⟩
  rintro i m H ⟨rfl, hi, g, qs, e1, e2, e3, e4, e5⟩
  have st : Stp K H1 P0 H [] := ⟨fun a o _ h nt => g.kp a o h nt, fun p hp => absurd hp (by simp), g.al, g.tb⟩
  obtain ⟨w1, w2⟩ := wk [] i H [] (fun a h => absurd h (by simp)) st
  cases q2 : items[i]? with
  | none =>
    have hle : items.length ≤ i := List.getElem?_eq_none_iff.mp q2
    have : i = items.length := by omega
    exact .inl ⟨w2 hle, hq H qs g e2 ⟨by omega, e3, e4, e5⟩⟩
  | some d =>
    have hlt : i < items.length := (List.getElem?_eq_some_iff.mp q2).1
    obtain ⟨go, yl⟩ := w1 d q2
    have hr : tab[i]? = some (tab[i]'(by omega)) := List.getElem?_eq_getElem (by omega)
    generalize tab[i]'(by omega) = r at hr
    refine .inr ⟨go, I (i + 1), fun H' h' => ⟨items.length - (i + 1), by omega, rfl, h'⟩, fun x H3 y => ?_⟩
    obtain ⟨ex, rx⟩ := yl x H3 y
    have rx : Rp K (hid [] H3) x d := rx (fun a h => absurd h (by simp))
    have g3 : Gr K H1 H3 := g.trans ex.gr
    refine ⟨?_, ?_⟩
    · show ((σ.set 4 none).set 4 (some x)).set 4 none = σ.set 4 none
      rw [List.set_set, List.set_set]
    · unfold tYes
      dsimp only
      rw [if_pos rfl]
      have hs : (wipe σ [4]).set 4 (some x) = σ.set 4 (some x) := by
        show (σ.set 4 none).set 4 (some x) = _
        rw [List.set_set]
      rw [hs]
      refine evl_pub (hrow i d r q2 hr) ((pa.gr g3).put h4 rx) ap.put (g3.tb tb) (by simpa using hl) fun p xs H4 g4 hn hl4 hr4 => ?_
      have exs := rps_intV hr4
      subst exs
      have hDD : H4 DD = some (.lst (qs.map .ref)) := g4.kp _ _ (ex _ _ e2) (fun _ z => nomatch z)
      have hpD : p ≠ DD := fun z => by rw [z, ex _ _ e2] at hn; cases hn
      have g34 := g3.trans g4
      have hp1 : H1 p = none := g3.al p hn
      have hpq : p ∉ qs := fun z => by
        obtain ⟨j, hj, ej⟩ := List.mem_iff_getElem.mp z
        have : tab[j]? = some (tab[j]'(by omega)) := List.getElem?_eq_getElem (by omega)
        have q3 := e5 j p _ (by rw [List.getElem?_eq_getElem hj, ej]) this
        rw [ex _ _ q3] at hn
        cases hn
      refine ⟨_, hDD, by rw [List.length_map]; exact Nat.lt_trans (show qs.length < 1000 by omega) (by decide), hlt, ?_, qs ++ [p], by simp [e1], by rw [upd_same]; simp, ?_, fun q hq => ?_, fun j q r' hj hr' => ?_⟩
      · refine ⟨fun a o h nt => ?_, fun a h => ?_, fun t b hb => tab_lst hDD (g34.tb t b hb)⟩
        · rw [upd_ne (ne_of_none h hD)]
          exact g34.kp a o h nt
        · by_cases ha : a = DD
          · rw [ha]; exact hD
          · rw [upd_ne ha] at h
            exact g34.al a h
      · have e3' := List.nodup_cons.mp e3
        refine List.nodup_cons.mpr ⟨fun z => ?_, List.nodup_append.mpr ⟨e3'.2, by simp, fun a ha b hb => ?_⟩⟩
        · rcases List.mem_append.mp z with z | z
          · exact e3'.1 z
          · exact hpD (List.mem_singleton.mp z).symm
        · rw [List.mem_singleton.mp hb]
          exact fun z => hpq (by rw [← z]; exact ha)
      · rcases List.mem_append.mp hq with z | z
        · exact e4 q z
        · rw [List.mem_singleton.mp z]; exact hp1
      · by_cases hji : j < qs.length
        · rw [List.getElem?_append_left hji] at hj
          have q3 := e5 j q r' hj hr'
          have hqD : q ≠ DD := fun z => (List.nodup_cons.mp e3).1 (by rw [← z]; exact List.mem_of_getElem? hj)
          rw [upd_ne hqD]
          exact g4.kp _ _ (ex _ _ q3) (fun _ z => nomatch z)
        · rw [List.getElem?_append_right (by omega)] at hj
          have hj0 : j = qs.length := by
            have := (List.getElem?_eq_some_iff.mp hj).1
            simp at this
            omega
          subst hj0
          simp at hj
          subst hj
          rw [e1] at hr'
          rw [hr] at hr'
          cases hr'
          rw [upd_ne hpD]
          exact hl4
end
abbrev rhoT (x : Str) (L R : D) : DL.Env := [some (.pu (.str x)), some (.pu L), some (.pu R), none, none, none, none, none]
abbrev rhoN (x : Str) (L R n : D) : DL.Env := [some (.pu (.str x)), some (.pu L), some (.pu R), none, none, some (.pu n), none, none]
abbrev rhoB (x : Str) (L R n t : D) : DL.Env := [some (.pu (.str x)), some (.pu L), some (.pu R), none, none, some (.pu n), some (.pu t), none]
abbrev sDs (l : List Str) : List D := l.map .str
abbrev namesD (rn cn : List Str) : D := .tuple [.list (sDs rn), .list (sDs cn)]
abbrev tabD (tab : List (List Int)) : D := .list (tab.map fun r => .list (r.map .int))
/-- what a drawing's reading goes through -/
structure GtOk (x : Str) (tab : List (List Int)) (rn cn : List Str) : Prop where
  ex : ∃ (L R : D) (items : List D), Ev gt_a [some (.pu (.str x)), none, none, none, none, none, none, none] L ∧ Ev gt_b [some (.pu (.str x)), some (.pu L), none, none, none, none, none, none] R ∧ Ev gt_c (rhoT x L R) (.bool false) ∧
    Evl gt_n1 (rhoT x L R) (sDs rn) ∧ Evl gt_n2 (rhoT x L R) (sDs cn) ∧ gt_src (rhoN x L R (namesD rn cn)) = .ok items (rhoN x L R (namesD rn cn)) ∧ items.length = tab.length ∧
    (∀ (i : Nat) (d : D) (r : List Int), items[i]? = some d → tab[i]? = some r → Evl gt_fe ((rhoN x L R (namesD rn cn)).set 4 (some (.pu d))) (r.map .int)) ∧
    Ev gt_t6 (rhoB x L R (namesD rn cn) (tabD tab)) (.bool false) ∧ Ev gt_t7 (rhoB x L R (namesD rn cn) (tabD tab)) (.bool false)
  len : tab.length < 1000
  okT : okL (tab.map fun r => .list (r.map .int)) = true
  okR : ∀ r ∈ tab, okL (r.map .int) = true
  okN : okL (sDs rn) = true
  okC : okL (sDs cn) = true
theorem allPub_of (ρ : DL.Env) (h : ρ.all (fun o => match o with
  | some (.pub 0 _) => true
  | none => true
  | _ => false) = true) : AllPub ρ := fun i s q => by
  have z := List.all_eq_true.mp h _ (List.mem_of_getElem? q)
  cases s with
  | pub m d =>
    cases m with
    | zero => exact ⟨d, rfl⟩
    | succ m => simp at z
  | own t ds => simp at z
  | nst g => simp at z
section
variable {H : Hp}
theorem trs_ints (n : Nat) : ∀ r : List Int, Trs H (n + 1) (r.map V.int) (r.map .int) []
  | [] => .nil
  | _ :: r => Trs.cons (N := []) (M := []) .int (trs_ints n r)
theorem trs_strs (n : Nat) : ∀ r : List Str, Trs H (n + 1) (r.map V.str) (r.map .str) []
  | [] => .nil
  | _ :: r => Trs.cons (N := []) (M := []) .str (trs_strs n r)
theorem trs_rows (n : Nat) : ∀ (qs : List Addr) (tab : List (List Int)), qs.length = tab.length → (∀ (j : Nat) (q : Addr) (r : List Int), qs[j]? = some q → tab[j]? = some r → H q = some (.lst (r.map V.int))) → (∀ r ∈ tab, okL (r.map .int) = true) → Trs H (n + 2) (qs.map .ref) (tab.map fun r => .list (r.map .int)) qs
  | [], [], _, _, _ => .nil
  | q :: qs, r :: tab, hl, h, ok => by
    have t1 : Tr H (n + 2) (.ref q) (.list (r.map .int)) [q] := .lst (h 0 q r rfl rfl) (trs_ints n r) (ok r List.mem_cons_self)
    have t2 := trs_rows n qs tab (by simpa using hl) (fun j q r a b => h (j + 1) q r (by simpa using a) (by simpa using b)) fun r hr => ok r (List.mem_cons_of_mem _ hr)
    exact Trs.cons (N := [q]) t1 t2
  | [], _ :: _, hl, _, _ => by simp at hl
  | _ :: _, [], hl, _, _ => by simp at hl
end
section
variable {P : Program} {w : World} {K : PySem.W.Frag} {mg : Str → Option Value} {base : Heap} {ca : Str → Addr}
theorem grid_run (B : Bl mg) (d_ended_lines : Df P w K mg base "ended_lines" s_ended_lines 1 ["text"] F_ended_lines) (d_parts_in : Df P w K mg base "parts_in" s_parts_in 1 ["line"] F_parts_in) (d_read_whole : Df P w K mg base "read_whole" s_read_whole 2 ["word"] F_read_whole) (d_is_grid : Df P w K mg base "is_grid" s_is_grid 2 ["value"] F_is_grid) (d_are_names_of : Df P w K mg base "are_names_of" s_are_names_of 2 ["value", "many"] F_are_names_of) (d_drawn_rows : Df P w K mg base "drawn_rows" s_drawn_rows 1 ["rows"] F_drawn_rows) (d_words_of : Df P w K mg base "words_of" s_words_of 1 ["table", "names"] F_words_of) (x_InvalidText : DLX.ExT P K mg "InvalidText" (ca "InvalidText"))
    {fg : Addr} {fdg : FuncData} (F : FunD K "grid_of_text" "grid_of_text" (defArgs s_grid_of_text) (defBody s_grid_of_text) (defScope s_grid_of_text) [] [] fg fdg) {A : Around} {outer : List PySem.Env} {s : Shared} {H : Hp} {x : Str} {tk : Tok} {tab : List (List Int)} {rn cns : List Str} {k : Nat} {Q : VK} {E : XK}
    (hgd : A.guards = some []) (hr : Room 3 A) (e0 : Env0 P w K mg base A outer s H) (G : GtOk x tab rn cns) (tb : LamX.Tabs (TbK K) H)
    (hq : ∀ v H' N, Gr K H H' → Tr H' 4 v (.tuple [tabD tab, namesD rn cns]) N → N.Nodup → (∀ a ∈ N, H a = none) → Q v H') :
    codeAny (model P w) A (.call (.ref fg) ⟨[.str x tk], []⟩) (CR (L2.CX P w) outer P w H s Q E) s := by
  obtain ⟨oc, od, kV, doc, pm, an, cdv, ct, osl, rfl, lk, hcd⟩ := (Fun.ofD F).ex
  refine LamX.run_ofS (N := N_grid_of_text) (ps := ["text"]) (us := [.str x tk]) (vs := [.str x]) lk hcd sc_grid_of_text hr e0 (.of_eq (by first | rfl | with_unfolding_all rfl)) (.cons ⟨tk, rfl⟩ .nil) rfl fun hr2 => ?_
  have nd := sc_grid_of_text.nd
  have cn : Cn (fx P w K mg base N_grid_of_text "grid_of_text" s_grid_of_text fg cdv A outer s H E) E 2 := ⟨hgd, hr2, passes_call (W := fun cls d _ H => E cls d H) (takes_of rfl rfl rfl rfl) (fun _ _ _ _ h => h), takes_of rfl rfl rfl rfl, rfl⟩
  obtain ⟨L, R, items, ha, hb, hc, hn1, hn2, hs, hlen, hrow, h6, h7⟩ := G.ex
  refine ⟨_, pss_cons (ps_set nd (i := 1) rfl (by first | exact .inl rfl | exact .inr rfl) (DE.pe (E := E) (f := gt_a) (de_call d_ended_lines cn (da_cons (de_var (pv 0)) (da_nil)))))
    (pss_cons (ps_set nd (i := 2) rfl (by first | exact .inl rfl | exact .inr rfl) (DE.pe (E := E) (f := gt_b) (de_if (t_is (de_var (pv 1)) (de_non)) (de_mkL (da_nil)) (de_lc (own := [("line", 3)]) cn.cm nd (di_list (de_var (pv 1))) (blkOk_by (by rfl)) (gt_name) (by decide) (fun _ _ _ _ _ => pg_name nd (i := 3) rfl (by first | exact .inl rfl | exact .inr rfl)) (fun _ _ _ _ _ => dts_nil) (fun _ _ _ _ _ => de_call d_parts_in cn.blk (da_cons (de_var (pv 3)) (da_nil)))))))
    (pss_cons (ps_if (DT.pt (E := E) (f := gt_c) (dt_w (dw_or (t_lt (d_len B (da_cons (de_var (pv 2)) (da_nil))) (de_int)) (dw_or (t_inD cn (de_non) (de_var (pv 2))) (dw_or1 (t_ne cn (de_lc (own := [("row", 4)]) cn.cm nd (di_list (de_var (pv 2))) (blkOk_by (by rfl)) (gt_name) (by decide) (fun _ _ _ _ _ => pg_name nd (i := 4) rfl (by first | exact .inl rfl | exact .inr rfl)) (fun _ _ _ _ _ => dts_one (t_ne cn.blk (d_len B (da_cons (de_var (pv 4)) (da_nil))) (d_len B (da_cons (d_ix (de_var (pv 2)) (de_int)) (da_nil))))) (fun _ _ _ _ _ => de_var (pv 4))) (de_mkL (da_nil)))))))) (DSs.pss (E := E) (f := sRaise (ca "InvalidText") (fCons (fVar 0) fNil)) (dss_one (ds_raise x_InvalidText cn (da_cons (de_var (pv 0)) (da_nil))))) pss_nil)
    (pss_cons (ps_set nd (i := 5) rfl (by first | exact .inl rfl | exact .inr rfl) (pe_tup (pa_cons (DE.pe (E := E) (f := gt_n1) (de_lc (own := [("row", 4)]) cn.cm nd (di_list (de_cut po_c po_m (de_var (pv 2)))) (blkOk_by (by rfl)) (gt_name) (by decide) (fun _ _ _ _ _ => pg_name nd (i := 4) rfl (by first | exact .inl rfl | exact .inr rfl)) (fun _ _ _ _ _ => dts_nil) (fun _ _ _ _ _ => d_ix (de_var (pv 4)) (de_int)))) (pa_cons (DE.pe (E := E) (f := gt_n2) (de_cut po_c po_m (d_ix (de_var (pv 2)) (de_int)))) pa_nil))))
    (pss_cons (ps_setLc (te := tDE K DL.E0 gt_fe) (own := [("row", 4)]) cn.cm nd (i := 6) rfl rfl (sw_true rfl rfl rfl (by decide)) (DI.pi (E := E) (f := gt_src) (di_list (de_cut po_c po_m (de_var (pv 2))))) (blkOk_by (by rfl)) (fun _ _ _ _ _ => pg_name nd (i := 4) rfl (by first | exact .inl rfl | exact .inr rfl)) (fun _ _ _ _ _ => pts_nil) (fun _ _ _ _ _ => (DE.pe (E := DL.E0) (f := gt_fe) (de_lc (own := [("word", 7)]) cn.blk.cm nd (di_list (de_cut po_c po_m (de_var (pv 4)))) (blkOk_by (by rfl)) (gt_name) (by decide) (fun _ _ _ _ _ => pg_name nd (i := 7) rfl (by first | exact .inl rfl | exact .inr rfl)) (fun _ _ _ _ _ => dts_nil) (fun _ _ _ _ _ => de_call d_read_whole cn.blk.blk (da_cons (de_var (pv 7)) (da_nil)))))))
    (pss_cons (ps_if (DT.pt (E := E) (f := gt_t6) (dt_w (dw_or (dt_not (dt_val (de_call d_is_grid cn (da_cons (de_var (pv 6)) (da_nil))))) (dw_or (dt_not (dt_val (de_call d_are_names_of cn (da_cons (d_ix (de_var (pv 5)) (de_int)) (da_cons (d_len B (da_cons (de_var (pv 6)) (da_nil))) (da_nil)))))) (dw_or1 (dt_not (dt_val (de_call d_are_names_of cn (da_cons (d_ix (de_var (pv 5)) (de_int)) (da_cons (d_len B (da_cons (d_ix (de_var (pv 6)) (de_int)) (da_nil))) (da_nil))))))))))) (DSs.pss (E := E) (f := sRaise (ca "InvalidText") (fCons (fVar 0) fNil)) (dss_one (ds_raise x_InvalidText cn (da_cons (de_var (pv 0)) (da_nil))))) pss_nil)
    (pss_cons (ps_if (DT.pt (E := E) (f := gt_t7) (t_ne cn (de_call d_drawn_rows cn (da_cons (de_call d_words_of cn (da_cons (de_var (pv 6)) (da_cons (de_var (pv 5)) (da_nil)))) (da_nil))) (de_var (pv 0)))) (DSs.pss (E := E) (f := sRaise (ca "InvalidText") (fCons (fVar 0) fNil)) (dss_one (ds_raise x_InvalidText cn (da_cons (de_var (pv 0)) (da_nil))))) pss_nil)
    (pss_one (ps_ret (pe_tup (pa_cons (pv 6) (pa_cons (pv 5) pa_nil))))))))))), ?_⟩
  have pa0 : PubAt K H [some (.str x), none, none, none, none, none, none, none] [some (.pu (.str x)), none, none, none, none, none, none, none] := fun i d q => by
    match i with
    | 0 => exact ⟨.str x, rfl, by have e : PyData.str x = d := by simpa using q
                                  rw [← e]; exact .str x⟩
    | 1 => simp at q
    | 2 => simp at q
    | 3 => simp at q
    | 4 => simp at q
    | 5 => simp at q
    | 6 => simp at q
    | 7 => simp at q
    | n + 8 => simp at q
  refine ev_pub ha pa0 (allPub_of _ rfl) tb rfl fun v1 H1 g1 r1 => ?_
  have pa1 := (pa0.gr g1).put (i := 1) (by show 1 < 8; decide) r1
  refine ev_pub hb pa1 (allPub_of _ rfl) (g1.tb tb) rfl fun v2 H2 g2 r2 => ?_
  have pa2 := (pa1.gr g2).put (i := 2) (by show 2 < 8; decide) r2
  refine test_pub hc pa2 (allPub_of _ rfl) (g2.tb (g1.tb tb)) rfl fun H3 g3 => ?_
  rw [if_neg Bool.false_ne_true]
  have g03 := (g1.trans g2).trans g3
  have pa3 := pa2.gr g3
  refine evl_pub hn1 pa3 (allPub_of _ rfl) (g03.tb tb) rfl fun p1 xs1 H4 g4 np1 l1 rr1 => ?_
  have g04 := g03.trans g4
  refine evl_pub hn2 (pa3.gr g4) (allPub_of _ rfl) (g04.tb tb) rfl fun p2 xs2 H5 g5 np2 l2 rr2 => ?_
  have g05 := g04.trans g5
  refine ⟨show 2 ≤ sizeLine by decide, fun t ht => ?_⟩
  have ex6 : Ext H5 (L2.upd H5 t (.tup [.ref p1, .ref p2])) := Evl.Ex.new ht
  have g6 : Gr K H5 (L2.upd H5 t (.tup [.ref p1, .ref p2])) := ex6.gr
  have g06 := g05.trans g6
  have e1 := rps_strV rr1
  have e2 := rps_strV rr2
  have l15 : H5 p1 = some (.lst xs1) := g5.kp _ _ l1 (fun _ z => nomatch z)
  have rn6 : Rp K (hid [] (L2.upd H5 t (.tup [.ref p1, .ref p2]))) (.ref t) (namesD rn cns) :=
    .tup (hid_in (by simp) upd_same) (.cons (.lst (hid_in (by simp) (ex6 _ _ l15)) (rr1.ext (g5.trans g6).hid)) (.cons (.lst (hid_in (by simp) (ex6 _ _ l2)) (rr2.ext g6.hid)) .nil))
  have pa6 := ((pa3.gr g4).gr (g5.trans g6)).put (i := 5) (by show 5 < 8; decide) rn6
  refine ⟨fun _ => 0, [], [], rhoN x L R (namesD rn cns), pa6.srep (allPub_of _ rfl) (g06.tb tb) rfl, ?_⟩
  rw [hs]
  intro J H7 P7 st7 S7 wk DD hD
  have g7 : Gr K _ H7 := st7.toGr
  have g07 := g06.trans g7
  have pa7 := pub_of S7
  refine lc_fresh (ρ := rhoN x L R (namesD rn cns)) rfl (by show 4 < 8; decide) pa7 (allPub_of _ rfl) rfl (g07.tb tb) wk hD hlen G.len hrow fun H8 qs g8 hDD rw8 => ?_
  have g08 := g07.trans g8
  have rT : Rp K (hid [] H8) (.ref DD) (tabD tab) := (Tr.lst (n := 2) hDD (trs_rows 0 qs tab rw8.len rw8.at_ G.okR) G.okT).rp
  have pa8 := (pa7.gr g8).put (i := 6) (by show 6 < 8; decide) rT
  refine test_pub h6 pa8 (allPub_of _ rfl) (g08.tb tb) rfl fun H9 g9 => ?_
  rw [if_neg Bool.false_ne_true]
  refine test_pub h7 (pa8.gr g9) (allPub_of _ rfl) (g9.tb (g08.tb tb)) rfl fun H10 g10 => ?_
  rw [if_neg Bool.false_ne_true]
  refine ⟨.ref DD, rfl, .ref t, rfl, show 2 ≤ sizeLine by decide, fun t2 ht2 => ?_⟩
  have ex11 : Ext H10 (L2.upd H10 t2 (.tup [.ref DD, .ref t])) := Evl.Ex.new ht2
  have g11 : Gr K H10 (L2.upd H10 t2 (.tup [.ref DD, .ref t])) := ex11.gr
  have g811 := (g9.trans g10).trans g11
  have g611 := (g7.trans g8).trans g811
  have hDD' := g811.kp _ _ hDD (fun _ z => nomatch z)
  have l1' := g611.kp _ _ (ex6 _ _ l15) (fun _ z => nomatch z)
  have l2' := g611.kp _ _ (ex6 _ _ l2) (fun _ z => nomatch z)
  have lt' := g611.kp _ _ (show (L2.upd H5 t (.tup [.ref p1, .ref p2])) t = _ from upd_same) (fun _ z => nomatch z)
  have at11 : ∀ (j : Nat) (q : Addr) (r : List Int), qs[j]? = some q → tab[j]? = some r → (L2.upd H10 t2 (.tup [.ref DD, .ref t])) q = some (.lst (r.map V.int)) := fun j q r a b => g811.kp _ _ (rw8.at_ j q r a b) (fun _ z => nomatch z)
  rw [e1] at l1'
  rw [e2] at l2'
  have tT : Tr (L2.upd H10 t2 (.tup [.ref DD, .ref t])) 3 (.ref DD) (tabD tab) (DD :: qs) := .lst hDD' (trs_rows 0 qs tab rw8.len at11 G.okR) G.okT
  have t1 : Tr (L2.upd H10 t2 (.tup [.ref DD, .ref t])) 2 (.ref p1) (.list (sDs rn)) [p1] := .lst l1' (trs_strs 0 rn) G.okN
  have t2' : Tr (L2.upd H10 t2 (.tup [.ref DD, .ref t])) 2 (.ref p2) (.list (sDs cns)) [p2] := .lst l2' (trs_strs 0 cns) G.okC
  have tN : Tr (L2.upd H10 t2 (.tup [.ref DD, .ref t])) 3 (.ref t) (namesD rn cns) ([p1] ++ ([p2] ++ [])) := .tup lt' (.cons t1 (.cons t2' .nil)) (by show 2 < 1000; decide)
  refine hq (.ref t2) _ _ (((g06.trans g7).trans g8).trans g811) (.tup upd_same (.cons tT (.cons tN .nil)) (by show 2 < 1000; decide)) ?_ fun a hm => ?_
  · have h17 : H7 p1 ≠ none := by rw [g7.kp _ _ (ex6 _ _ l15) (fun _ z => nomatch z)]; exact fun z => nomatch z
    have h27 : H7 p2 ≠ none := by rw [g7.kp _ _ (ex6 _ _ l2) (fun _ z => nomatch z)]; exact fun z => nomatch z
    have n12 : p1 ≠ p2 := fun z => by rw [← z, l1] at np2; cases np2
    have nD : ∀ b ∈ DD :: qs, H7 b = none := fun b hb => by
      rcases List.mem_cons.mp hb with e | hb
      · rw [e]; exact hD
      · exact rw8.new b hb
    refine List.nodup_append.mpr ⟨rw8.nd, ?_, fun a ha b hb z => ?_⟩
    · simpa using n12
    · have hb' : b = p1 ∨ b = p2 := by simpa using hb
      rw [z] at ha
      rcases hb' with e | e
      · exact h17 (by rw [← e]; exact nD b ha)
      · exact h27 (by rw [← e]; exact nD b ha)
  · have hm' : a ∈ DD :: qs ∨ a = p1 ∨ a = p2 := by
      rcases List.mem_append.mp hm with z | z
      · exact .inl z
      · exact .inr (by simpa using z)
    rcases hm' with z | z | z
    · rcases List.mem_cons.mp z with z | z
      · rw [z]; exact g07.al _ hD
      · exact g07.al _ (rw8.new a z)
    · rw [z]; exact g03.al _ np1
    · rw [z]; exact g04.al _ np2
end
end K65
/-! E7b: _law_marked(grid_of_text(e)). -/
namespace K65
open PySem L2 PyProof.Rows DL
structure MarkKit (P : Program) (w : World) (K : PySem.W.Frag) (mg : Str → Option Value) (base : Heap) (ca : Str → Addr) : Prop where
  B : Bl mg
  d1 : Df P w K mg base "ended_lines" s_ended_lines 1 ["text"] F_ended_lines
  d2 : Df P w K mg base "parts_in" s_parts_in 1 ["line"] F_parts_in
  d3 : Df P w K mg base "read_whole" s_read_whole 2 ["word"] F_read_whole
  d4 : Df P w K mg base "is_grid" s_is_grid 2 ["value"] F_is_grid
  d5 : Df P w K mg base "are_names_of" s_are_names_of 2 ["value", "many"] F_are_names_of
  d6 : Df P w K mg base "drawn_rows" s_drawn_rows 1 ["rows"] F_drawn_rows
  d7 : Df P w K mg base "words_of" s_words_of 1 ["table", "names"] F_words_of
  xt : DLX.ExT P K mg "InvalidText" (ca "InvalidText")
  g : ∃ fg fdg, FunD K "grid_of_text" "grid_of_text" (defArgs s_grid_of_text) (defBody s_grid_of_text) (defScope s_grid_of_text) [] [] fg fdg ∧ mg "grid_of_text" = some (.ref fg)
  m : ∃ fm fdm, FunD K "_law_marked" "_law_marked" (defArgs s_l_marked) (defBody s_l_marked) (defScope s_l_marked) [] [] fm fdm ∧ mg "_law_marked" = some (.ref fm)
open Classical in
noncomputable def fMark (fa : DL.Env → RE) : DL.Env → RE := fun ρ => match fa ρ with
  | .ok w ρ1 => (match w.d with
    | .str x => if ∃ tab rn cn, GtOk x tab rn cn then .ok (.pu (.bool true)) ρ1 else .st
    | _ => .st)
  | .err c d => .err c d
  | .st => .st
section
variable {X : Cx} {E : XK} {e : Expr} {fa : DL.Env → RE} {ca : Str → Addr} {p p1 p2 pos pos2 : Pos}
def tGrid (K : PySem.W.Frag) (te : TE) : TE := fun σ H Q => tCons te tNil σ H fun vs H1 => ∃ x tab rn cn, vs = [.str x] ∧ GtOk x tab rn cn ∧ LamX.Tabs (TbK K) H1 ∧ ∀ v' H' N, Gr K H1 H' → Tr H' 4 v' (.tuple [tabD tab, namesD rn cn]) N → N.Nodup → (∀ a ∈ N, H1 a = none) → Q v' H'
theorem pe_gridt {te : TE} (c : Cn X E 4) (M : MarkKit X.prog X.w X.K X.mg X.base ca) (ha : PE X e te) (hg : Gl X "grid_of_text" := by rfl) (he : starEach [e] X.env = (false, eval e X.env) :: starEach [] X.env := by rfl) (hpl : (backTo pos (starEach [] X.env)).any (·.1) = false := by rfl) :
    PE X (.Call (.Name "grid_of_text" p) [e] [] pos) (tGrid X.K te) := by
  obtain ⟨fg, fdg, F, hm⟩ := M.g
  refine ⟨fun pins s σ H Q I h => ?_⟩
  refine wpAny_Call_Name_kw (ld_glob I hg hm ?_ (by decide))
  refine PySem.W.callWith_K (h₀ := X.base) I.ok.mod.kin F.kp (thn ((pa_cons ha pa_nil he).run pos pins s σ H _ I h) fun us s1 ⟨vs, H1, I1, r, x, tab, rn, cn, e1, G, tb, q⟩ => ⟨I1.kIn, ?_⟩) he hpl
  · subst e1
    obtain ⟨u, rfl, ru⟩ := Vals.one r
    obtain ⟨t, rfl⟩ := ru
    refine wpAny_call (codeAny_mono (grid_run (k := 0) (Q := Q) (E := L2.E0) M.B M.d1 M.d2 M.d3 M.d4 M.d5 M.d6 M.d7 M.xt F c.gd (c.rm.mono (by decide)) I1.env0 G tb q) fun r s' hq => ?_)
    cases r with
    | error e => exact (passL (X := X) pins σ H1 s1 e s' I1 hq)
    | ok fl =>
      cases fl with
      | ret u => exact I1.after hq
      | next => exact False.elim hq
      | brk => exact False.elim hq
      | cont => exact False.elim hq
theorem tgrid_mono {K : PySem.W.Frag} {σ : L2.St} {H : Hp} {Q R : VK} (h : tGrid K (tDE K E fa) σ H Q) (k : ∀ v H', Q v H' → R v H') : tGrid K (tDE K E fa) σ H R :=
  tde_mono (K := K) h fun v H1 ⟨x, tab, rn, cn, a, b, c, d⟩ => ⟨x, tab, rn, cn, a, b, c, fun v' H' N g t n w => k _ _ (d v' H' N g t n w)⟩
theorem de_mark (c : Cn X E 4) (M : MarkKit X.prog X.w X.K X.mg X.base ca) (ha : DE X E e fa) (hg : Gl X "grid_of_text" := by rfl) (he : starEach [e] X.env = (false, eval e X.env) :: starEach [] X.env := by rfl) (hpl : (backTo pos (starEach [] X.env)).any (·.1) = false := by rfl)
    (hg2 : Gl X "_law_marked" := by rfl) (he2 : starEach [.Call (.Name "grid_of_text" p) [e] [] pos] X.env = (false, eval (.Call (.Name "grid_of_text" p) [e] [] pos) X.env) :: starEach [] X.env := by rfl) (hpl2 : (backTo pos2 (starEach [] X.env)).any (·.1) = false := by rfl) :
    DE X E (.Call (.Name "_law_marked" p2) [.Call (.Name "grid_of_text" p) [e] [] pos] [] pos2) (fMark fa) := by
  obtain ⟨fm, fdm, F, hm⟩ := M.m
  refine ⟨⟨fun pins s σ H Q I ⟨τ, A0, P, ρ, S, cc⟩ => ?_⟩⟩
  refine wpAny_Call_Name_kw (ld_glob I hg2 hm ?_ (by decide))
  have key : tGrid X.K (tDE X.K E fa) σ H fun v H2 => ∃ d N, Tr H2 4 v d N ∧ N.Nodup ∧ LamX.Tabs (TbK X.K) H2 ∧ ∀ H3, Stp X.K H2 N H3 [] → Q (.bl true) H3 := by
    refine ⟨τ, A0, P, ρ, S, CDE.toD ?_⟩
    unfold fMark at cc
    cases q : fa ρ with
    | err c d => rw [q] at cc; exact cc
    | st => rw [q] at cc; exact cc
    | ok w ρ1 =>
      rw [q] at cc
      dsimp only at cc
      intro v H1 P1 st1 S1 r1
      split at cc
      · rename_i x hx
        split at cc
        · rename_i hG
          obtain ⟨tab, rn, cn, G⟩ := hG
          rw [hx] at r1
          refine ⟨x, tab, rn, cn, by rw [rp_str r1], G, S1.tb, fun v' H2 N g2 tr nd new => ⟨_, N, tr, nd, g2.tb S1.tb, fun H3 st3 => ?_⟩⟩
          have g13 : Gr X.K H1 H3 := ⟨fun a o h nt => st3.kp a o (fun z => by rw [new a z] at h; cases h) (g2.kp a o h nt) nt, fun a h => g2.al a (st3.al a h), fun t => st3.tb (g2.tb t)⟩
          exact cc (.bl true) H3 P1 (st1.trans (Stp.gr g13)) (S1.grow g13) (.bl true)
        · exact cc.elim
      · exact cc.elim
  refine PySem.W.callWith_K (h₀ := X.base) I.ok.mod.kin F.kp (thn ((pa_cons (pe_gridt c M ha.pe hg he hpl) pa_nil he2).run pos2 pins s σ H (fun vs H2 => ∃ v d N, vs = [v] ∧ Tr H2 4 v d N ∧ N.Nodup ∧ LamX.Tabs (TbK X.K) H2 ∧ ∀ H3, Stp X.K H2 N H3 [] → Q (.bl true) H3) I ?_) fun us s1 ⟨vs, H2, I2, r, v, d, N, e1, tr, nd, tb, q⟩ => ⟨I2.kIn, ?_⟩) he2 hpl2
  · refine tgrid_mono key fun v H2 ⟨d, N, h⟩ => ⟨v, d, N, rfl, h⟩
  · subst e1
    obtain ⟨u, rfl, ru⟩ := Vals.one r
    refine wpAny_call (codeAny_mono (marks M.B F hm 4 _ _ _ _ _ _ _ _ Q L2.E0 c.gd c.rm I2.env0 tr nd tb ru q) fun r s' hq => ?_)
    cases r with
    | error e => exact (passL (X := X) pins σ H2 s1 e s' I2 hq)
    | ok fl =>
      cases fl with
      | ret u => exact I2.after hq
      | next => exact False.elim hq
      | brk => exact False.elim hq
      | cont => exact False.elim hq
end
end K65
/-! E8: _law_grid_right, _law_refused_right. -/
namespace K65
open PySem L2 PyProof.Rows DL
abbrev s_l_grid_right : Stmt := top 38
abbrev N_l_grid_right : List Str := ["generator", "table", "names", "text", "kept", "turn", "bent", "told"]
theorem sc_l_grid_right : FnScope N_l_grid_right ["generator", "table", "names"] (defScope s_l_grid_right) := ⟨rfl, rfl, rfl, by decide +kernel, rfl, by decide +kernel, by decide +kernel⟩
noncomputable def g_l_grid_right (K : PySem.W.Frag) (ca : Str → Addr) : DL.Env → RS := sSeq (sBind (bTup [bName 3, bName 4]) (bndA (fCons (fCall 2 F_l_drawing (fCons (fVar 1) (fCons (fVar 2) (fNil)))) (fCons (bndA (fCons (bndA (fCons (fVar 1) (fCons (fVar 2) (fNil))) gMkL) (fNil)) gRepr) (fNil))) gMkT)) (sSeq (sIf (fOr (fOp2 gNe (bndA (fCons (fCall 2 (F_text_of_grid ca) (fCons (fVar 1) (fCons (fVar 2) (fNil)))) (fNil)) gRepr) (bndA (fCons (fVar 3) (fNil)) gRepr)) (fOp2 gNe (bndA (fCons (fRead ca (fCall 1 (F_grid_of_text ca) (fCons (fVar 3) (fNil)))) (fNil)) gRepr) (bndA (fCons (bndA (fCons (fC (.str "let")) (fCons (bndA (fCons (fVar 1) (fCons (fVar 2) (fNil))) gMkT) (fNil))) gMkT) (fNil)) gRepr))) (sRet (fC (.bool false))) (.nx)) (sSeq (sFor (srcA (fCons (fC (.int 8)) (fNil)) kRng1) (bName 5) (sSeq (sPut 6 (fLend 3 0 F_l_bent (fCons (fVar 3) (fCons (fC (.str "01-| \nabl")) (fNil))))) (sSeq (sPut 7 (fRead ca (fCall 1 (F_grid_of_text ca) (fCons (fVar 6) (fNil))))) (sSeq (sIf (fAnd (fOp2 gEq (fOp2 gIx (fVar 7) (fC (.int 0))) (fC (.str "text"))) (fOr (fOp2 gNe (bndA (fCons (fOp2 gIx (fVar 7) (fC (.int 1))) (fNil)) gRepr) (bndA (fCons (fVar 6) (fNil)) gRepr)) (fOp2 gEq (fVar 6) (fVar 3)))) (sRet (fC (.bool false))) (.nx)) (sIf (fAnd (fOp2 gEq (fOp2 gIx (fVar 7) (fC (.int 0))) (fC (.str "let"))) (fOp2 gNe (fCall 2 F_l_drawing (fCons (fOp2 gIx (fOp2 gIx (fVar 7) (fC (.int 1))) (fC (.int 0))) (fCons (fOp2 gIx (fOp2 gIx (fVar 7) (fC (.int 1))) (fC (.int 1))) (fNil)))) (fVar 6))) (sRet (fC (.bool false))) (.nx)))))) (sRet (fAnd (fMark (fVar 3)) (fOp2 gEq (bndA (fCons (bndA (fCons (fVar 1) (fCons (fVar 2) (fNil))) gMkL) (fNil)) gRepr) (fVar 4))))))
noncomputable def F_l_grid_right (K : PySem.W.Frag) (ca : Str → Addr) : List Sl → RF := fnF 8 (g_l_grid_right K ca)
theorem b_l_grid_right {P : Program} {w : World} {K : PySem.W.Frag} {mg : Str → Option Value} {base : Heap} {ca : Str → Addr} (B : Bl mg) (d_l_drawing : Df P w K mg base "_law_drawing" s_l_drawing 1 ["table", "names"] F_l_drawing) (d_text_of_grid : Df P w K mg base "text_of_grid" s_text_of_grid 4 ["table", "names"] (F_text_of_grid ca)) (d_grid_of_text : Df P w K mg base "grid_of_text" s_grid_of_text 3 ["text"] (F_grid_of_text ca)) (d_l_bent : Df P w K mg base "_law_bent" s_l_bent 3 ["generator", "text", "signs"] F_l_bent) (R : RefKit P w K mg base ca) (M : MarkKit P w K mg base ca) {f : Addr} {cdv : Value} {A : Around} {outer : List PySem.Env} {s : Shared} {H : Hp} {E : XK} (Mk : Maker (fx P w K mg base N_l_grid_right "_law_grid_right" s_l_grid_right f cdv A outer s H E)) (c : Cn (fx P w K mg base N_l_grid_right "_law_grid_right" s_l_grid_right f cdv A outer s H E) E 11) :
    DSs (fx P w K mg base N_l_grid_right "_law_grid_right" s_l_grid_right f cdv A outer s H E) E (defBody s_l_grid_right) (g_l_grid_right K ca) := by
  have nd := sc_l_grid_right.nd
  exact dss_cons (ds_asg (gt_tup (gts_cons (gt_name) (gts_cons (gt_name) (gts_nil)))) (pg_tup c.cm (pgs_cons (pg_name nd (i := 3) rfl (by first | exact .inl rfl | exact .inr rfl)) (pgs_cons (pg_name nd (i := 4) rfl (by first | exact .inl rfl | exact .inr rfl)) (pgs_nil)))) (de_mkT (da_cons (de_call d_l_drawing c (da_cons (de_var (pv 1)) (da_cons (de_var (pv 2)) (da_nil)))) (da_cons (d_repr c (da_cons (de_mkL (da_cons (de_var (pv 1)) (da_cons (de_var (pv 2)) (da_nil)))) (da_nil)) B.repr) (da_nil)))))
    (dss_cons (ds_if (dt_w (dw_or (t_ne c (d_repr c (da_cons (de_call d_text_of_grid c (da_cons (de_var (pv 1)) (da_cons (de_var (pv 2)) (da_nil)))) (da_nil)) B.repr) (d_repr c (da_cons (de_var (pv 3)) (da_nil)) B.repr)) (dw_or1 (t_ne c (d_repr c (da_cons (de_readLam (k := 6) Mk (c.mono (by decide)) R (LamB.mk (LamX.lamS_by (by rfl)) rfl (fun _ _ _ _ => rfl) (fun _ _ _ _ _ _ _ cl => de_call d_grid_of_text cl (da_cons (de_var (pv 3)) (da_nil))))) (da_nil)) B.repr) (d_repr c (da_cons (de_mkT (da_cons (de_str) (da_cons (de_mkT (da_cons (de_var (pv 1)) (da_cons (de_var (pv 2)) (da_nil)))) (da_nil)))) (da_nil)) B.repr))))) (dss_one (ds_ret (de_bl))) (dss_nil))
    (dss_cons (ds_for (passes_of rfl) c.cm (di_rng1 rfl B.range (da_cons (de_int) (da_nil))) (gt_name) (pg_name nd (i := 5) rfl (by first | exact .inl rfl | exact .inr rfl)) (dss_cons (ds_put (i := 6) nd rfl (by first | exact .inl rfl | exact .inr rfl) (de_lend d_l_bent c (pv 0) (da_cons (de_var (pv 3)) (da_cons (de_str) (da_nil)))))
    (dss_cons (ds_put (i := 7) nd rfl (by first | exact .inl rfl | exact .inr rfl) (de_readLam (k := 6) Mk (c.mono (by decide)) R (LamB.mk (LamX.lamS_by (by rfl)) rfl (fun _ _ _ _ => rfl) (fun _ _ _ _ _ _ _ cl => de_call d_grid_of_text cl (da_cons (de_var (pv 6)) (da_nil))))))
    (dss_cons (ds_if (dt_w (dw_and (t_eq c (d_ix (de_var (pv 7)) (de_int)) (de_str)) (dw_and1 (dt_w (dw_or (t_ne c (d_repr c (da_cons (d_ix (de_var (pv 7)) (de_int)) (da_nil)) B.repr) (d_repr c (da_cons (de_var (pv 6)) (da_nil)) B.repr)) (dw_or1 (t_eq c (de_var (pv 6)) (de_var (pv 3))))))))) (dss_one (ds_ret (de_bl))) (dss_nil))
    (dss_one (ds_if (dt_w (dw_and (t_eq c (d_ix (de_var (pv 7)) (de_int)) (de_str)) (dw_and1 (t_ne c (de_call d_l_drawing c (da_cons (d_ix (d_ix (de_var (pv 7)) (de_int)) (de_int)) (da_cons (d_ix (d_ix (de_var (pv 7)) (de_int)) (de_int)) (da_nil)))) (de_var (pv 6)))))) (dss_one (ds_ret (de_bl))) (dss_nil)))))))
    (dss_one (ds_ret (de_and (de_mark (c.mono (by decide)) M (de_var (pv 3))) (de_one (d_eq c.rm.units (d_repr c (da_cons (de_mkL (da_cons (de_var (pv 1)) (da_cons (de_var (pv 2)) (da_nil)))) (da_nil)) B.repr) (de_var (pv 4)))))))))
theorem df_l_grid_right {P : Program} {w : World} {K : PySem.W.Frag} {mg : Str → Option Value} {base : Heap} {ca : Str → Addr} (B : Bl mg) (d_l_drawing : Df P w K mg base "_law_drawing" s_l_drawing 1 ["table", "names"] F_l_drawing) (d_text_of_grid : Df P w K mg base "text_of_grid" s_text_of_grid 4 ["table", "names"] (F_text_of_grid ca)) (d_grid_of_text : Df P w K mg base "grid_of_text" s_grid_of_text 3 ["text"] (F_grid_of_text ca)) (d_l_bent : Df P w K mg base "_law_bent" s_l_bent 3 ["generator", "text", "signs"] F_l_bent) (R : RefKit P w K mg base ca) (M : MarkKit P w K mg base ca) {f : Addr} {fd : FuncData} (F : FunD K "_law_grid_right" "_law_grid_right" (defArgs s_l_grid_right) (defBody s_l_grid_right) (defScope s_l_grid_right) [] [] f fd) (hm : mg "_law_grid_right" = some (.ref f)) (Mt : MakT K mg base "_law_grid_right") (hcd : fd.code = .ref (He.cT K ("_law_grid_right", none)).1) : Df P w K mg base "_law_grid_right" s_l_grid_right 12 ["generator", "table", "names"] (F_l_grid_right K ca) :=
  Df_mkC F hm sc_l_grid_right rfl (fun _ _ _ _ _ _ us hl => match us, hl with | [_, _, _], _ => rfl) hcd fun A outer s H E c => b_l_grid_right B d_l_drawing d_text_of_grid d_grid_of_text d_l_bent R M (mk_of Mt (mem_TbK (by first | exact .head _ | exact .tail _ (.head _) | exact .tail _ (.tail _ (.head _)) | exact .tail _ (.tail _ (.tail _ (.head _)))) (by first | rfl | decide))) c

abbrev s_l_refused_right : Stmt := top 39
abbrev N_l_refused_right : List Str := ["wrong", "grid", "good", "texts", "right"]
theorem sc_l_refused_right : FnScope N_l_refused_right [] (defScope s_l_refused_right) := ⟨rfl, rfl, rfl, by decide +kernel, rfl, by decide +kernel, by decide +kernel⟩
noncomputable def g_l_refused_right (K : PySem.W.Frag) (ca : Str → Addr) : DL.Env → RS := sSeq (sFor (srcE (bndA (fCons (fC .none) (fCons (fC (.int 7)) (fCons (bndA (fNil) gMkT) (fCons (bndA (fNil) gMkL) (fCons (bndA (fCons (bndA (fNil) gMkL) (fNil)) gMkL) (fCons (bndA (fCons (bndA (fCons (fC (.int 1)) (fNil)) gMkL) (fCons (bndA (fNil) gMkL) (fNil))) gMkL) (fCons (bndA (fCons (bndA (fCons (fC (.int 1)) (fNil)) gMkL) (fCons (bndA (fCons (fC (.int 1)) (fCons (fC (.int 2)) (fNil))) gMkL) (fNil))) gMkL) (fCons (bndA (fCons (bndA (fCons (fC (.int 1)) (fNil)) gMkL) (fNil)) gMkT) (fCons (bndA (fCons (bndA (fCons (fC (.int 1)) (fNil)) gMkT) (fNil)) gMkL) (fCons (bndA (fCons (bndA (fCons (fC (.int 1)) (fNil)) gMkL) (fCons (fC .none) (fNil))) gMkL) (fCons (bndA (fCons (bndA (fCons (fC .none) (fNil)) gMkL) (fNil)) gMkL) (fCons (bndA (fCons (bndA (fCons (fC (.bool true)) (fNil)) gMkL) (fNil)) gMkL) (fCons (bndA (fCons (bndA (fCons (fC (.str "1")) (fNil)) gMkL) (fNil)) gMkL) (fCons (bndA (fCons (bndA (fCons (bndA (fCons (fC (.int 1)) (fCons (fC (.int 1)) (fNil))) gMkT) (fNil)) gMkL) (fNil)) gMkL) (fCons (bndA (fCons (fOp2 gMul (bndA (fCons (fC (.int 1)) (fNil)) gMkL) (fC (.int 61))) (fNil)) gMkL) (fCons (fOp2 gMul (bndA (fCons (bndA (fCons (fC (.int 1)) (fNil)) gMkL) (fNil)) gMkL) (fC (.int 61))) (fCons (fDict0) (fNil)))))))))))))))))) gMkL) itemsL) (bName 0) (sIf (fNot (fRefd K ca "InvalidTable" "table" (fCall 2 (F_text_of_grid ca) (fCons (fVar 0) (fCons (fC .none) (fNil)))) 0)) (sRet (fC (.bool false))) (.nx))) (sSeq (sPut 1 (bndA (fCons (bndA (fCons (fC (.int 1)) (fCons (fC (.int 2)) (fNil))) gMkL) (fCons (bndA (fCons (fC (.int 3)) (fCons (fC (.int 4)) (fNil))) gMkL) (fNil))) gMkL)) (sSeq (sFor (srcE (bndA (fCons (fC .none) (fCons (fC (.int 7)) (fCons (bndA (fNil) gMkL) (fCons (bndA (fNil) gMkT) (fCons (bndA (fCons (bndA (fCons (fC (.str "a")) (fCons (fC (.str "b")) (fNil))) gMkL) (fNil)) gMkT) (fCons (bndA (fCons (bndA (fCons (fC (.str "a")) (fCons (fC (.str "b")) (fNil))) gMkL) (fCons (bndA (fCons (fC (.str "c")) (fCons (fC (.str "d")) (fNil))) gMkL) (fNil))) gMkL) (fCons (bndA (fCons (bndA (fCons (fC (.str "a")) (fCons (fC (.str "b")) (fNil))) gMkL) (fCons (bndA (fCons (fC (.str "c")) (fCons (fC (.str "d")) (fNil))) gMkL) (fCons (bndA (fNil) gMkL) (fNil)))) gMkT) (fCons (bndA (fCons (bndA (fCons (fC (.str "a")) (fNil)) gMkL) (fCons (bndA (fCons (fC (.str "c")) (fCons (fC (.str "d")) (fNil))) gMkL) (fNil))) gMkT) (fCons (bndA (fCons (bndA (fCons (fC (.str "a")) (fCons (fC (.str "b")) (fNil))) gMkL) (fCons (bndA (fCons (fC (.str "c")) (fNil)) gMkL) (fNil))) gMkT) (fCons (bndA (fCons (bndA (fCons (fC (.str "a")) (fCons (fC (.str "a")) (fNil))) gMkL) (fCons (bndA (fCons (fC (.str "c")) (fCons (fC (.str "d")) (fNil))) gMkL) (fNil))) gMkT) (fCons (bndA (fCons (bndA (fCons (fC (.str "a")) (fCons (fC (.str "b")) (fNil))) gMkL) (fCons (bndA (fCons (fC (.str "c")) (fCons (fC (.str "all")) (fNil))) gMkL) (fNil))) gMkT) (fCons (bndA (fCons (bndA (fCons (fC (.str "A")) (fCons (fC (.str "b")) (fNil))) gMkL) (fCons (bndA (fCons (fC (.str "c")) (fCons (fC (.str "d")) (fNil))) gMkL) (fNil))) gMkT) (fCons (bndA (fCons (bndA (fCons (fC (.str "")) (fCons (fC (.str "b")) (fNil))) gMkL) (fCons (bndA (fCons (fC (.str "c")) (fCons (fC (.str "d")) (fNil))) gMkL) (fNil))) gMkT) (fCons (bndA (fCons (bndA (fCons (fC (.str "a b")) (fCons (fC (.str "b")) (fNil))) gMkL) (fCons (bndA (fCons (fC (.str "c")) (fCons (fC (.str "d")) (fNil))) gMkL) (fNil))) gMkT) (fCons (bndA (fCons (bndA (fCons (fC (.str "a")) (fCons (fC .none) (fNil))) gMkL) (fCons (bndA (fCons (fC (.str "c")) (fCons (fC (.str "d")) (fNil))) gMkL) (fNil))) gMkT) (fCons (bndA (fCons (bndA (fCons (fC (.str "a")) (fCons (fC (.str "b")) (fNil))) gMkL) (fCons (bndA (fCons (fC (.str "c")) (fCons (fC (.str "d")) (fNil))) gMkT) (fNil))) gMkT) (fCons (bndA (fCons (bndA (fCons (fOp2 gMulS (fC (.str "a")) (fC (.int 13))) (fCons (fC (.str "b")) (fNil))) gMkL) (fCons (bndA (fCons (fC (.str "c")) (fCons (fC (.str "d")) (fNil))) gMkL) (fNil))) gMkT) (fCons (bndA (fCons (bndA (fCons (fC (.str "a1")) (fCons (fC (.str "b")) (fNil))) gMkL) (fCons (bndA (fCons (fC (.str "c")) (fCons (fC (.str "d")) (fNil))) gMkL) (fNil))) gMkT) (fNil))))))))))))))))))) gMkL) itemsL) (bName 0) (sIf (fNot (fRefd K ca "InvalidNames" "names" (fCall 2 (F_text_of_grid ca) (fCons (fVar 1) (fCons (fVar 0) (fNil)))) 0)) (sRet (fC (.bool false))) (.nx))) (sSeq (sPut 2 (fC (.str "    | x  y | all\n  a | 1  2 |   3\n  b | 3  4 |   7\nall | 4  6 |  10\n"))) (sSeq (sPut 3 (bndA (fCons (fC (.str "")) (fCons (fC (.str "\n")) (fCons (fVar 2) (fCons (fOp2 gCutSH (fVar 2) (fOp1 gNeg (fC (.int 1)))) (fCons (fOp2 gAdd (fVar 2) (fC (.str "\n"))) (fCons (fOp1 (gRepl "  3\n" "  4\n") (fVar 2)) (fCons (fOp1 (gRepl "  y" " y") (fVar 2)) (fCons (fOp1 (gRepl " | " "|") (fVar 2)) (fCons (fOp1 (gRepl "all |" "sum |") (fVar 2)) (fNil)))))))))) gMkL)) (sSeq (sFor (srcE (fOp2 gAdd (fVar 3) (bndA (fCons (fC .none) (fCons (fC (.int 7)) (fCons (fC (.bool true)) (fCons (bndA (fNil) gMkL) (fCons (fDict0) (fCons (bndA (fCons (fVar 2) (fNil)) gMkT) (fNil))))))) gMkL)) itemsL) (bName 0) (sIf (fNot (fRefd K ca "InvalidText" "text" (fCall 1 (F_grid_of_text ca) (fCons (fVar 0) (fNil))) 0)) (sRet (fC (.bool false))) (.nx))) (sSeq (sPut 4 (fC (.str "    | x y | all\n  a | 1 2 |   3\n  b | 3 4 |   7\nall | 4 6 |  10\n"))) (sSeq (sFor (srcE (bndA (fCons (fOp1 (gRepl "  3\n" "  4\n") (fVar 4)) (fCons (fOp1 (gRepl "| 4 6 |" "| 4 7 |") (fVar 4)) (fCons (fOp1 (gRepl " 10\n" " 11\n") (fVar 4)) (fCons (fOp2 gCutSH (fVar 4) (fOp1 gNeg (fC (.int 1)))) (fCons (fOp1 (gRepl "x y" "x x") (fVar 4)) (fCons (fOp1 (gRepl "  b" "  a") (fVar 4)) (fCons (fOp1 (gRepl "x" "X") (fVar 4)) (fCons (fOp1 (gRepl "all\n" "sum\n") (fVar 4)) (fCons (fOp2 gAdd (fC (.str " ")) (fVar 4)) (fCons (fOp1 (gRepl "1 2" "1 +2") (fVar 4)) (fCons (fOp1 (gRepl "1 2" "01 2") (fVar 4)) (fNil)))))))))))) gMkL) itemsL) (bName 0) (sIf (fNot (fRefd K ca "InvalidText" "text" (fCall 1 (F_grid_of_text ca) (fCons (fVar 0) (fNil))) 0)) (sRet (fC (.bool false))) (.nx))) (sRet (fOp2 gEq (fCall 1 (F_grid_of_text ca) (fCons (fVar 4) (fNil))) (bndA (fCons (fVar 1) (fCons (bndA (fCons (bndA (fCons (fC (.str "a")) (fCons (fC (.str "b")) (fNil))) gMkL) (fCons (bndA (fCons (fC (.str "x")) (fCons (fC (.str "y")) (fNil))) gMkL) (fNil))) gMkT) (fNil))) gMkT))))))))))
noncomputable def F_l_refused_right (K : PySem.W.Frag) (ca : Str → Addr) : List Sl → RF := fnF 5 (g_l_refused_right K ca)
theorem b_l_refused_right {P : Program} {w : World} {K : PySem.W.Frag} {mg : Str → Option Value} {base : Heap} {ca : Str → Addr} (B : Bl mg) (d_text_of_grid : Df P w K mg base "text_of_grid" s_text_of_grid 4 ["table", "names"] (F_text_of_grid ca)) (d_grid_of_text : Df P w K mg base "grid_of_text" s_grid_of_text 3 ["text"] (F_grid_of_text ca)) (R : RefKit P w K mg base ca) {f : Addr} {cdv : Value} {A : Around} {outer : List PySem.Env} {s : Shared} {H : Hp} {E : XK} (Mk : Maker (fx P w K mg base N_l_refused_right "_law_refused_right" s_l_refused_right f cdv A outer s H E)) (c : Cn (fx P w K mg base N_l_refused_right "_law_refused_right" s_l_refused_right f cdv A outer s H E) E 11) :
    DSs (fx P w K mg base N_l_refused_right "_law_refused_right" s_l_refused_right f cdv A outer s H E) E (defBody s_l_refused_right) (g_l_refused_right K ca) := by
  have nd := sc_l_refused_right.nd
  exact dss_cons (ds_for (passes_of rfl) c.cm (di_list (de_mkL (da_cons (de_non) (da_cons (de_int) (da_cons (de_mkT (da_nil)) (da_cons (de_mkL (da_nil)) (da_cons (de_mkL (da_cons (de_mkL (da_nil)) (da_nil))) (da_cons (de_mkL (da_cons (de_mkL (da_cons (de_int) (da_nil))) (da_cons (de_mkL (da_nil)) (da_nil)))) (da_cons (de_mkL (da_cons (de_mkL (da_cons (de_int) (da_nil))) (da_cons (de_mkL (da_cons (de_int) (da_cons (de_int) (da_nil)))) (da_nil)))) (da_cons (de_mkT (da_cons (de_mkL (da_cons (de_int) (da_nil))) (da_nil))) (da_cons (de_mkL (da_cons (de_mkT (da_cons (de_int) (da_nil))) (da_nil))) (da_cons (de_mkL (da_cons (de_mkL (da_cons (de_int) (da_nil))) (da_cons (de_non) (da_nil)))) (da_cons (de_mkL (da_cons (de_mkL (da_cons (de_non) (da_nil))) (da_nil))) (da_cons (de_mkL (da_cons (de_mkL (da_cons (de_bl) (da_nil))) (da_nil))) (da_cons (de_mkL (da_cons (de_mkL (da_cons (de_str) (da_nil))) (da_nil))) (da_cons (de_mkL (da_cons (de_mkL (da_cons (de_mkT (da_cons (de_int) (da_cons (de_int) (da_nil)))) (da_nil))) (da_nil))) (da_cons (de_mkL (da_cons (d_mul (de_mkL (da_cons (de_int) (da_nil))) (de_int)) (da_nil))) (da_cons (d_mul (de_mkL (da_cons (de_mkL (da_cons (de_int) (da_nil))) (da_nil))) (de_int)) (da_cons (de_dict0) (da_nil)))))))))))))))))))) (gt_name) (pg_name nd (i := 0) rfl (by first | exact .inl rfl | exact .inr rfl)) (dss_one (ds_if (dt_not (dt_val (de_refLam (n := "InvalidTable") (k := 6) Mk (c.mono (by decide)) R (LamB.mk (LamX.lamS_by (by rfl)) rfl (fun _ _ _ _ => rfl) (fun _ _ _ _ _ _ _ cl => de_call d_text_of_grid cl (da_cons (de_var (pv 0)) (da_cons (de_non) (da_nil))))) (pv 0)))) (dss_one (ds_ret (de_bl))) (dss_nil))))
    (dss_cons (ds_put (i := 1) nd rfl (by first | exact .inl rfl | exact .inr rfl) (de_mkL (da_cons (de_mkL (da_cons (de_int) (da_cons (de_int) (da_nil)))) (da_cons (de_mkL (da_cons (de_int) (da_cons (de_int) (da_nil)))) (da_nil)))))
    (dss_cons (ds_for (passes_of rfl) c.cm (di_list (de_mkL (da_cons (de_non) (da_cons (de_int) (da_cons (de_mkL (da_nil)) (da_cons (de_mkT (da_nil)) (da_cons (de_mkT (da_cons (de_mkL (da_cons (de_str) (da_cons (de_str) (da_nil)))) (da_nil))) (da_cons (de_mkL (da_cons (de_mkL (da_cons (de_str) (da_cons (de_str) (da_nil)))) (da_cons (de_mkL (da_cons (de_str) (da_cons (de_str) (da_nil)))) (da_nil)))) (da_cons (de_mkT (da_cons (de_mkL (da_cons (de_str) (da_cons (de_str) (da_nil)))) (da_cons (de_mkL (da_cons (de_str) (da_cons (de_str) (da_nil)))) (da_cons (de_mkL (da_nil)) (da_nil))))) (da_cons (de_mkT (da_cons (de_mkL (da_cons (de_str) (da_nil))) (da_cons (de_mkL (da_cons (de_str) (da_cons (de_str) (da_nil)))) (da_nil)))) (da_cons (de_mkT (da_cons (de_mkL (da_cons (de_str) (da_cons (de_str) (da_nil)))) (da_cons (de_mkL (da_cons (de_str) (da_nil))) (da_nil)))) (da_cons (de_mkT (da_cons (de_mkL (da_cons (de_str) (da_cons (de_str) (da_nil)))) (da_cons (de_mkL (da_cons (de_str) (da_cons (de_str) (da_nil)))) (da_nil)))) (da_cons (de_mkT (da_cons (de_mkL (da_cons (de_str) (da_cons (de_str) (da_nil)))) (da_cons (de_mkL (da_cons (de_str) (da_cons (de_str) (da_nil)))) (da_nil)))) (da_cons (de_mkT (da_cons (de_mkL (da_cons (de_str) (da_cons (de_str) (da_nil)))) (da_cons (de_mkL (da_cons (de_str) (da_cons (de_str) (da_nil)))) (da_nil)))) (da_cons (de_mkT (da_cons (de_mkL (da_cons (de_str) (da_cons (de_str) (da_nil)))) (da_cons (de_mkL (da_cons (de_str) (da_cons (de_str) (da_nil)))) (da_nil)))) (da_cons (de_mkT (da_cons (de_mkL (da_cons (de_str) (da_cons (de_str) (da_nil)))) (da_cons (de_mkL (da_cons (de_str) (da_cons (de_str) (da_nil)))) (da_nil)))) (da_cons (de_mkT (da_cons (de_mkL (da_cons (de_str) (da_cons (de_non) (da_nil)))) (da_cons (de_mkL (da_cons (de_str) (da_cons (de_str) (da_nil)))) (da_nil)))) (da_cons (de_mkT (da_cons (de_mkL (da_cons (de_str) (da_cons (de_str) (da_nil)))) (da_cons (de_mkT (da_cons (de_str) (da_cons (de_str) (da_nil)))) (da_nil)))) (da_cons (de_mkT (da_cons (de_mkL (da_cons (d_mulS (de_str) (de_int)) (da_cons (de_str) (da_nil)))) (da_cons (de_mkL (da_cons (de_str) (da_cons (de_str) (da_nil)))) (da_nil)))) (da_cons (de_mkT (da_cons (de_mkL (da_cons (de_str) (da_cons (de_str) (da_nil)))) (da_cons (de_mkL (da_cons (de_str) (da_cons (de_str) (da_nil)))) (da_nil)))) (da_nil))))))))))))))))))))) (gt_name) (pg_name nd (i := 0) rfl (by first | exact .inl rfl | exact .inr rfl)) (dss_one (ds_if (dt_not (dt_val (de_refLam (n := "InvalidNames") (k := 6) Mk (c.mono (by decide)) R (LamB.mk (LamX.lamS_by (by rfl)) rfl (fun _ _ _ _ => rfl) (fun _ _ _ _ _ _ _ cl => de_call d_text_of_grid cl (da_cons (de_var (pv 1)) (da_cons (de_var (pv 0)) (da_nil))))) (pv 0)))) (dss_one (ds_ret (de_bl))) (dss_nil))))
    (dss_strT (i := 2) nd rfl (by first | exact .inl rfl | exact .inr rfl)
    (dsst_cons (dst_put (i := 3) nd rfl (by first | exact .inl rfl | exact .inr rfl) (det_mkL (dat_cons (DET.of (de_str)) (dat_cons (DET.of (de_str)) (dat_cons (DET.of (de_var (pv 2))) (dat_cons (DET.of (de_cutSH (de_var (pv 2)) (d_neg (de_int)))) (dat_cons (DET.of (d_add (de_var (pv 2)) (de_str))) (dat_cons (det_repl (y := "  3\n") (z := "  4\n") (de_var (pv 2))) (dat_cons (det_repl (y := "  y") (z := " y") (de_var (pv 2))) (dat_cons (det_repl (y := " | ") (z := "|") (de_var (pv 2))) (dat_cons (det_repl (y := "all |") (z := "sum |") (de_var (pv 2))) (dat_nil))))))))))))
    (dsst_cons (DST.of (ds_for (passes_of rfl) c.cm (di_list (d_add (de_var (pv 3)) (de_mkL (da_cons (de_non) (da_cons (de_int) (da_cons (de_bl) (da_cons (de_mkL (da_nil)) (da_cons (de_dict0) (da_cons (de_mkT (da_cons (de_var (pv 2)) (da_nil))) (da_nil)))))))))) (gt_name) (pg_name nd (i := 0) rfl (by first | exact .inl rfl | exact .inr rfl)) (dss_one (ds_if (dt_not (dt_val (de_refLam (n := "InvalidText") (k := 6) Mk (c.mono (by decide)) R (LamB.mk (LamX.lamS_by (by rfl)) rfl (fun _ _ _ _ => rfl) (fun _ _ _ _ _ _ _ cl => de_call d_grid_of_text cl (da_cons (de_var (pv 0)) (da_nil)))) (pv 0)))) (dss_one (ds_ret (de_bl))) (dss_nil)))))
    (dsst_cons (DST.of (ds_put (i := 4) nd rfl (by first | exact .inl rfl | exact .inr rfl) (de_str)))
    (dsst_cons (dst_for (passes_of rfl) c.cm (det_mkL (dat_cons (det_repl (y := "  3\n") (z := "  4\n") (de_var (pv 4))) (dat_cons (det_repl (y := "| 4 6 |") (z := "| 4 7 |") (de_var (pv 4))) (dat_cons (det_repl (y := " 10\n") (z := " 11\n") (de_var (pv 4))) (dat_cons (DET.of (de_cutSH (de_var (pv 4)) (d_neg (de_int)))) (dat_cons (det_repl (y := "x y") (z := "x x") (de_var (pv 4))) (dat_cons (det_repl (y := "  b") (z := "  a") (de_var (pv 4))) (dat_cons (det_repl (y := "x") (z := "X") (de_var (pv 4))) (dat_cons (det_repl (y := "all\n") (z := "sum\n") (de_var (pv 4))) (dat_cons (DET.of (d_add (de_str) (de_var (pv 4)))) (dat_cons (det_repl (y := "1 2") (z := "1 +2") (de_var (pv 4))) (dat_cons (det_repl (y := "1 2") (z := "01 2") (de_var (pv 4))) (dat_nil))))))))))))) (gt_name) (pg_name nd (i := 0) rfl (by first | exact .inl rfl | exact .inr rfl)) (dss_one (ds_if (dt_not (dt_val (de_refLam (n := "InvalidText") (k := 6) Mk (c.mono (by decide)) R (LamB.mk (LamX.lamS_by (by rfl)) rfl (fun _ _ _ _ => rfl) (fun _ _ _ _ _ _ _ cl => de_call d_grid_of_text cl (da_cons (de_var (pv 0)) (da_nil)))) (pv 0)))) (dss_one (ds_ret (de_bl))) (dss_nil))))
    (dsst_one (DST.of (ds_ret (d_eq c.rm.units (de_call d_grid_of_text c (da_cons (de_var (pv 4)) (da_nil))) (de_mkT (da_cons (de_var (pv 1)) (da_cons (de_mkT (da_cons (de_mkL (da_cons (de_str) (da_cons (de_str) (da_nil)))) (da_cons (de_mkL (da_cons (de_str) (da_cons (de_str) (da_nil)))) (da_nil)))) (da_nil)))))))))))))))
theorem df_l_refused_right {P : Program} {w : World} {K : PySem.W.Frag} {mg : Str → Option Value} {base : Heap} {ca : Str → Addr} (B : Bl mg) (d_text_of_grid : Df P w K mg base "text_of_grid" s_text_of_grid 4 ["table", "names"] (F_text_of_grid ca)) (d_grid_of_text : Df P w K mg base "grid_of_text" s_grid_of_text 3 ["text"] (F_grid_of_text ca)) (R : RefKit P w K mg base ca) {f : Addr} {fd : FuncData} (F : FunD K "_law_refused_right" "_law_refused_right" (defArgs s_l_refused_right) (defBody s_l_refused_right) (defScope s_l_refused_right) [] [] f fd) (hm : mg "_law_refused_right" = some (.ref f)) (Mt : MakT K mg base "_law_refused_right") (hcd : fd.code = .ref (He.cT K ("_law_refused_right", none)).1) : Df P w K mg base "_law_refused_right" s_l_refused_right 12 [] (F_l_refused_right K ca) :=
  Df_mkC F hm sc_l_refused_right rfl (fun _ _ _ _ _ _ us hl => match us, hl with | [], _ => rfl) hcd fun A outer s H E c => b_l_refused_right B d_text_of_grid d_grid_of_text R (mk_of Mt (mem_TbK (by first | exact .head _ | exact .tail _ (.head _) | exact .tail _ (.tail _ (.head _)) | exact .tail _ (.tail _ (.tail _ (.head _)))) (by first | rfl | decide))) c

end K65
/-! E11: the script is read. -/
namespace K65
open PySem L2 PyProof.Rows DL
abbrev s_l_cell : Stmt := top 28
abbrev N_l_cell : List Str := ["script", "index"]
theorem sc_l_cell : FnScope N_l_cell ["script", "index"] (defScope s_l_cell) := ⟨rfl, rfl, rfl, by decide +kernel, rfl, by decide +kernel, by decide +kernel⟩
abbrev s_l_generator : Stmt := top 29
abbrev N_l_generator : List Str := ["script", "index", "seed"]
theorem sc_l_generator : FnScope N_l_generator ["script", "index"] (defScope s_l_generator) := ⟨rfl, rfl, rfl, by decide +kernel, rfl, by decide +kernel, by decide +kernel⟩
/-- the i-th cell; where it is wanting, one made of the first -/
def cellI (i : Nat) (ns : List Int) : Int := match ns[i]? with
  | some n => n
  | none => (ns.take 1).sum % 1000003
theorem cut1 : ∀ ns : List Int, cutV (ns.map V.int) none (some 1) = (ns.take 1).map V.int
  | [] => rfl
  | n :: r => by
    have h : HT.sIx ((n :: r).map V.int).length ((n :: r).map V.int).length (some ((1 : Nat) : Int)) = 1 := by
      rw [HT.sIx_nat, List.length_map, List.length_cons]
      omega
    unfold cutV
    rw [show ((1 : Int)) = ((1 : Nat) : Int) from rfl, h, HT.sIx_none]
    rfl
section
variable {P : Program} {w : World} {K : PySem.W.Frag} {mg : Str → Option Value} {base : Heap}
theorem cell_run (B : Bl mg) {fc : Addr} {fdc : FuncData} (F : FunD K "_law_cell" "_law_cell" (defArgs s_l_cell) (defBody s_l_cell) (defScope s_l_cell) [] [] fc fdc) {A : Around} {outer : List PySem.Env} {s : Shared} {H : Hp} {l : Addr} {ns : List Int} {t : Tok} {k j : Nat} {Q : VK} {E : XK}
    (hgd : A.guards = some []) (hr : Room (k + 1) A) (e0 : Env0 P w K mg base A outer s H) (hS : SqL K H l (ns.map V.int)) (hq : ∀ H', Gr K H H' → Q (.int (cellI j ns)) H') :
    codeAny (model P w) A (.call (.ref fc) ⟨[.ref l, .int (j : Nat) t], []⟩) (CR (L2.CX P w) outer P w H s Q E) s := by
  obtain ⟨oc, od, kV, doc, pm, an, cdv, ct, osl, rfl, lk, hcd⟩ := (Fun.ofD F).ex
  refine LamX.run_ofS (N := N_l_cell) (ps := ["script", "index"]) (us := [.ref l, .int (j : Nat) t]) (vs := [.ref l, .int (j : Nat)]) lk hcd sc_l_cell hr e0 (.of_eq (by first | rfl | with_unfolding_all rfl)) (.cons rfl (.cons ⟨t, rfl⟩ .nil)) rfl fun hr2 => ?_
  have nd := sc_l_cell.nd
  have cn : Cn (fx P w K mg base N_l_cell "_law_cell" s_l_cell fc cdv A outer s H E) E k := ⟨hgd, hr2, passes_call (W := fun cls d _ H => E cls d H) (takes_of rfl rfl rfl rfl) (fun _ _ _ _ h => h), takes_of rfl rfl rfl rfl, rfl⟩
  refine ⟨_, pss_cons (ps_if (pt_cmp (pc_lt (pv 1) (pe_callB call_len rfl B.len bt_len (pa_cons (pv 0) pa_nil)))) (pss_one (ps_ret (pe_ix ix_seq (pv 0) (pv 1) fun _ _ => rfl))) pss_nil)
    (pss_one (ps_ret (pe_op op_mod (pe_callB (cr_sum cn.cm) rfl B.sum bt_sum (pa_cons (pe_slice sl_list (pv 0) po_n po_c) pa_nil)) pe_int))), ?_⟩
  refine ⟨.int (j : Nat), rfl, .ref l, rfl, .ref l, _, rfl, .inl ⟨_, hS, rfl⟩, (j : Nat), _, rfl, rfl, _, rfl, ?_⟩
  by_cases hj : j < ns.length
  · have hd : decide (((j : Nat) : Int) < ((ns.map V.int).length : Nat)) = true := decide_eq_true (by rw [List.length_map]; omega)
    show if decide (((j : Nat) : Int) < ((ns.map V.int).length : Nat)) = true then _ else _
    rw [if_pos hd]
    have hc : cellI j ns = L2.cellOf ns j := by
      unfold cellI L2.cellOf
      rw [List.getElem?_eq_getElem hj]
      simp [hj]
    rw [hc] at hq
    exact ⟨.ref l, rfl, .int (j : Nat), rfl, .inl ⟨l, _, (j : Nat), .int (L2.cellOf ns j), rfl, rfl, hS, atI_cell hj, hq H (Ext.gr (Ext.rfl H))⟩⟩
  · have hd : ¬ decide (((j : Nat) : Int) < ((ns.map V.int).length : Nat)) = true := fun z => hj (by
      have := of_decide_eq_true z
      rw [List.length_map] at this
      omega)
    show if decide (((j : Nat) : Int) < ((ns.map V.int).length : Nat)) = true then _ else _
    rw [if_neg hd]
    refine ⟨.ref l, rfl, l, _, rfl, hS, fun p hp => ⟨p, ns.take 1, rfl, .inl (.inl (by rw [cut1]; exact upd_same)), _, 1000003, rfl, rfl, show (0 : Int) < 1000003 by decide, ?_⟩⟩
    have hc : cellI j ns = (ns.take 1).sum % 1000003 := by
      unfold cellI
      rw [List.getElem?_eq_none (by omega)]
    rw [hc] at hq
    exact hq _ (Ext.gr (Evl.Ex.new hp))
end
end K65
/-! E12: the generator. -/
namespace K65
open PySem L2 PyProof.Rows DL
def g_l_generatorT : DL.Env → RS := sRet (bndA (fCons (fOp2 gMod (bndA (fCons (bndA (fCons (fOp2 gSub (fVar 2) (fOp2 gPow (fC (.int 10)) (fC (.int 18)))) (fCons (fC (.int 0)) (fNil))) gMax2) (fNil)) gInt1) (fOp2 gPow (fOp2 gPow (fC (.int 10)) (fC (.int 60))) (fC (.int 10)))) (fCons (fOp2 gMod (bndA (fCons (fVar 2) (fNil)) gInt1) (fC (.int 2147483647))) (fCons (fOp2 gMul (fC (.int 1000)) (fVar 1)) (fNil)))) gMkL)
theorem b_l_generatorT {P : Program} {w : World} {K : PySem.W.Frag} {mg : Str → Option Value} {base : Heap} {ca : Str → Addr} (B : Bl mg) {f : Addr} {cdv : Value} {A : Around} {outer : List PySem.Env} {s : Shared} {H : Hp} {E : XK} {k : Nat} (c : Cn (fx P w K mg base N_l_generator "_law_generator" s_l_generator f cdv A outer s H E) E k) :
    DSs (fx P w K mg base N_l_generator "_law_generator" s_l_generator f cdv A outer s H E) E ((defBody s_l_generator).drop 1) (g_l_generatorT) := by
  have nd := sc_l_generator.nd
  exact dss_one (ds_ret (de_mkL (da_cons (d_mod (d_int B (da_cons (d_max2 c B (da_cons (d_sub (de_var (pv 2)) (d_pow (de_int) (de_int))) (da_cons (de_int) (da_nil)))) (da_nil))) (d_pow (d_pow (de_int) (de_int)) (de_int))) (da_cons (d_mod (d_int B (da_cons (de_var (pv 2)) (da_nil))) (de_int)) (da_cons (d_mul (de_int) (de_var (pv 1))) (da_nil))))))

section
variable {Y : Cx}
theorem pe_cellI (B : Bl Y.mg) {fc : Addr} {fdc : FuncData} (F : FunD Y.K "_law_cell" "_law_cell" (defArgs s_l_cell) (defBody s_l_cell) (defScope s_l_cell) [] [] fc fdc) (hm : Y.mg "_law_cell" = some (.ref fc)) {k i j n : Nat} {a b : Str} {p p1 p2 pos : Pos} (hgd : Y.A.guards = some []) (hr : Room (k + 1) Y.A) (ha : PE Y (.Name a p1) (tVar i)) (hb : PE Y (.Name b p2) (tVar j))
    (hg : Gl Y "_law_cell" := by rfl) (he : starEach [.Name a p1, .Name b p2] Y.env = (false, eval (.Name a p1) Y.env) :: starEach [.Name b p2] Y.env := by rfl) (he2 : starEach [.Name b p2] Y.env = (false, eval (.Name b p2) Y.env) :: starEach [] Y.env := by rfl) (hpl : (backTo pos (starEach [.Name b p2] Y.env)).any (·.1) = false := by rfl) :
    PE Y (.Call (.Name "_law_cell" p) [.Name a p1, .Name b p2] [] pos) (fun σ H Q => ∃ l ns, σ[i]? = some (some (.ref l)) ∧ σ[j]? = some (some (.int (n : Nat))) ∧ SqL Y.K H l (ns.map V.int) ∧ ∀ H', Gr Y.K H H' → Q (.int (cellI n ns)) H') := by
  refine ⟨fun pins s σ H Q I ⟨l, ns, h1, h2, hS, q⟩ => ?_⟩
  refine wpAny_Call_Name_kw (ld_glob I hg hm ?_ (by decide))
  refine PySem.W.callWith_K (h₀ := Y.base) I.ok.mod.kin F.kp (thn ((pa_cons ha (pa_cons hb pa_nil he2) he).run pos pins s σ H (fun vs H1 => vs = [.ref l, .int (n : Nat)] ∧ H1 = H) I ⟨.ref l, h1, .int (n : Nat), h2, rfl, rfl⟩) fun us s1 ⟨vs, H1, I1, r, e1, e2⟩ => ⟨I1.kIn, ?_⟩) he hpl
  subst e1
  rw [e2] at I1
  cases r with
  | cons r1 r =>
    cases r with
    | cons r2 r =>
      cases r
      obtain rfl := r1
      obtain ⟨t, rfl⟩ := r2
      refine wpAny_call (codeAny_mono (cell_run (Q := Q) (E := L2.E0) B F hgd hr I1.env0 hS q) fun r s' hq => ?_)
      cases r with
      | error e => exact (passL (X := Y) pins σ H s1 e s' I1 hq)
      | ok fl =>
        cases fl with
        | ret u => exact I1.after hq
        | next => exact False.elim hq
        | brk => exact False.elim hq
        | cont => exact False.elim hq
end
section
variable {P : Program} {w : World} {K : PySem.W.Frag} {mg : Str → Option Value} {base : Heap}
theorem generator_run (B : Bl mg) {fc fg : Addr} {fdc fdg : FuncData} (F : FunD K "_law_cell" "_law_cell" (defArgs s_l_cell) (defBody s_l_cell) (defScope s_l_cell) [] [] fc fdc) (hm : mg "_law_cell" = some (.ref fc)) (Fg : FunD K "_law_generator" "_law_generator" (defArgs s_l_generator) (defBody s_l_generator) (defScope s_l_generator) [] [] fg fdg)
    {A : Around} {outer : List PySem.Env} {s : Shared} {H : Hp} {l : Addr} {ns : List Int} {t : Tok} {k n : Nat} {Q : VK} {E : XK} {ds : List D} {ρ' : DL.Env} (hgd : A.guards = some []) (hr : Room (k + 2) A) (e0 : Env0 P w K mg base A outer s H) (hS : SqL K H l (ns.map V.int)) (tb : LamX.Tabs (TbK K) H)
    (hres : g_l_generatorT [none, some (.pu (.int (n : Nat))), some (.pu (.int (cellI n ns)))] = .ret (.frs ds) ρ') (hq : ∀ p xs H', Gr K H H' → H p = none → H' p = some (.lst xs) → Rps K (hid [p] H') xs ds → Q (.ref p) H') :
    codeAny (model P w) A (.call (.ref fg) ⟨[.ref l, .int (n : Nat) t], []⟩) (CR (L2.CX P w) outer P w H s Q E) s := by
  obtain ⟨oc, od, kV, doc, pm, an, cdv, ct, osl, rfl, lk, hcd⟩ := (Fun.ofD Fg).ex
  refine LamX.run_ofS (N := N_l_generator) (ps := ["script", "index"]) (us := [.ref l, .int (n : Nat) t]) (vs := [.ref l, .int (n : Nat)]) lk hcd sc_l_generator (hr.mono (j := k + 1 + 1) (Nat.le_refl _)) e0 (.of_eq (by first | rfl | with_unfolding_all rfl)) (.cons rfl (.cons ⟨t, rfl⟩ .nil)) rfl fun hr2 => ?_
  have nd := sc_l_generator.nd
  have cn : Cn (fx P w K mg base N_l_generator "_law_generator" s_l_generator fg cdv A outer s H E) E (k + 1) := ⟨hgd, hr2, passes_call (W := fun cls d _ H => E cls d H) (takes_of rfl rfl rfl rfl) (fun _ _ _ _ h => h), takes_of rfl rfl rfl rfl, rfl⟩
  refine ⟨_, pss_cons (ps_set nd (i := 2) rfl (.inl rfl) (pe_cellI (n := n) (Y := fx P w K mg base N_l_generator "_law_generator" s_l_generator fg cdv A outer s H E) B F hm hgd hr2 (pv 0) (pv 1))) (b_l_generatorT (ca := fun _ => 0) B cn).pss, ?_⟩
  refine ⟨l, ns, rfl, rfl, hS, fun H2 g => ?_⟩
  refine ⟨fun _ => 0, [], [], [none, some (.pu (.int (n : Nat))), some (.pu (.int (cellI n ns)))], srep_of (fun a z => absurd z (by simp)) (g.tb tb) rfl fun i sl q => ?_, ?_⟩
  · match i with
    | 0 => simp at q
    | 1 => exact ⟨_, .int (n : Nat), (by simpa using q.symm), rfl, .int _⟩
    | 2 => exact ⟨_, .int (cellI n ns), (by simpa using q.symm), rfl, .int _⟩
    | _ + 3 => simp at q
  · rw [hres]
    intro p xs σ3 H3 P3 t3 hp n1 n2 S3 hl r3
    exact hq p xs H3 (g.trans t3.toGr) (hp.elim (fun z => absurd z (by simp)) (g.al p)) hl (r3.ext (hid_less fun a z => List.mem_append_right _ z))
end

end K65
/-! E13: a generator of the script, within law. -/
namespace K65
open PySem L2 PyProof.Rows DL
/-- what is locked in H is locked in H' -/
def Frz (H H' : Hp) : Prop := ∀ b o u, H b = some (.frz o u) → H' b = some (.frz o u)
theorem rps_flat {K : PySem.W.Frag} {H H' : Hp} : ∀ {xs : List V} {ds : List D}, (intsOf ds).isSome = true → Rps K H xs ds → Rps K H' xs ds
  | _, [], _, h => by cases h; exact .nil
  | _, .int i :: r, e, h => by
    cases h with
    | cons a b =>
      rw [rp_int a]
      refine .cons (.int i) (rps_flat ?_ b)
      cases q : intsOf r with
      | none => simp [intsOf, q] at e
      | some zs => rfl
  | _, .none :: _, e, _ | _, .bool _ :: _, e, _ | _, .str _ :: _, e, _ | _, .list _ :: _, e, _ | _, .tuple _ :: _, e, _ | _, .dict _ :: _, e, _ => by cases e
open Classical in
noncomputable def fGen (l : Addr) (ns : List Int) (fb : DL.Env → RE) : DL.Env → RE := fun ρ => match (ρ[0]? : Option (Option Sl)) with
  | some (some (.pub _ d0)) => if d0 = fnD l then (match fb ρ with
    | .ok w ρ1 => (match w.d with
      | .int (.ofNat n) => (match g_l_generatorT [none, some (.pu (.int (n : Nat))), some (.pu (.int (cellI n ns)))] with
        | .ret (.frs ds) _ => if (intsOf ds).isSome then .ok (.frs ds) ρ1 else .st
        | _ => .st)
      | _ => .st)
    | .err c d => .err c d
    | .st => .st) else .st
  | _ => .st
section
variable {Y : Cx}
theorem rp_fn {K : PySem.W.Frag} {H : Hp} {v : V} {a : Addr} (h : Rp K H v (fnD a)) : v = .ref a := by
  generalize e : fnD a = dd at h
  unfold fnD at e
  cases h with
  | fn =>
    injection e with e
    injection e with e _
    injection e with e1 e2
    injection e2 with e2
    rw [Int.ofNat_inj.mp e2]
  | exc h1 h2 h3 =>
    injection e with e
    injection e with e _
    injection e with e1 e2
    cases e1
  | emp h => cases e
  | _ => cases e
theorem de_gen {E : XK} {k0 : Nat} (c : Cn Y E k0) {l : Addr} {ns : List Int} (hs : ∀ pins σ H s, L2.Inv Y pins σ H s → SqL Y.K H l (ns.map V.int)) (B : Bl Y.mg) {fc fg : Addr} {fdc fdg : FuncData} (F : FunD Y.K "_law_cell" "_law_cell" (defArgs s_l_cell) (defBody s_l_cell) (defScope s_l_cell) [] [] fc fdc) (hm : Y.mg "_law_cell" = some (.ref fc)) (Fg : FunD Y.K "_law_generator" "_law_generator" (defArgs s_l_generator) (defBody s_l_generator) (defScope s_l_generator) [] [] fg fdg) (hmg : Y.mg "_law_generator" = some (.ref fg))
    {a b : Str} {p p1 p2 pos : Pos} {fb : DL.Env → RE} (ha : PE Y (.Name a p1) (tVar 0)) (hb : DE Y E (.Name b p2) fb) (hk : 2 ≤ k0 := by decide)
    (hg : Gl Y "_law_generator" := by rfl) (he : starEach [.Name a p1, .Name b p2] Y.env = (false, eval (.Name a p1) Y.env) :: starEach [.Name b p2] Y.env := by rfl) (he2 : starEach [.Name b p2] Y.env = (false, eval (.Name b p2) Y.env) :: starEach [] Y.env := by rfl) (hpl : (backTo pos (starEach [.Name b p2] Y.env)).any (·.1) = false := by rfl) :
    DE Y E (.Call (.Name "_law_generator" p) [.Name a p1, .Name b p2] [] pos) (fGen l ns fb) := by
  refine ⟨⟨fun pins s σ H Q I ⟨τ, A0, P, ρ, S, cc⟩ => ?_⟩⟩
  unfold fGen at cc
  split at cc
  next m d0 q =>
    split at cc
    next hd0 =>
      obtain ⟨v0, hσ, rv⟩ := S.puD q
      rw [hd0] at rv
      obtain rfl := rp_fn rv
      refine wpAny_Call_Name_kw (ld_glob I hg hmg ?_ (by decide))
      have key : tCons (tVar 0) (tCons (tDE Y.K E fb) tNil) σ H fun vs H1 => ∃ (n : Nat) (ds : List D) (ρ' : DL.Env), vs = [.ref l, .int (n : Nat)] ∧ LamX.Tabs (TbK Y.K) H1 ∧ g_l_generatorT [none, some (.pu (.int (n : Nat))), some (.pu (.int (cellI n ns)))] = .ret (.frs ds) ρ' ∧ ∀ p xs H2, Gr Y.K H1 H2 → H1 p = none → H2 p = some (.lst xs) → Rps Y.K (hid [p] H2) xs ds → Q (.ref p) H2 := by
        refine ⟨.ref l, hσ, τ, A0, P, ρ, S, CDE.toD ?_⟩
        cases q1 : fb ρ with
        | err c d => rw [q1] at cc; exact cc
        | st => rw [q1] at cc; exact cc
        | ok w ρ1 =>
          rw [q1] at cc
          dsimp only at cc
          intro v H1 P1 st1 S1 r1
          split at cc
          next n hn =>
            rw [hn] at r1
            split at cc
            next ds ρ' hgen =>
              by_cases hi : (intsOf ds).isSome = true
              rotate_left
              · rw [if_neg hi] at cc; exact cc.elim
              rw [if_pos hi] at cc
              refine ⟨n, ds, ρ', by rw [rp_int r1]; rfl, S1.tb, hgen, fun p xs H2 g2 hp hl r2 => ?_⟩
              obtain ⟨n1, n2⟩ := S1.fresh hp
              refine cc p xs H2 P1 (st1.trans (Stp.gr g2)) (st1.al p hp) n1 n2 (S1.addHid hp g2 (by rw [hl]; exact fun z => nomatch z)) hl (rps_flat hi r2)
            next => exact cc.elim
          next => exact cc.elim
      refine PySem.W.callWith_K (h₀ := Y.base) I.ok.mod.kin Fg.kp (thn ((pa_cons ha (pa_cons hb.pe pa_nil he2) he).run pos pins s σ H _ I key) fun us s1 ⟨vs, H1, I1, r, n, ds, ρ', e1, tb, hgen, q2⟩ => ⟨I1.kIn, ?_⟩) he hpl
      subst e1
      cases r with
      | cons r1 r =>
        cases r with
        | cons r2 r =>
          cases r
          obtain rfl := r1
          obtain ⟨t, rfl⟩ := r2
          refine wpAny_call (codeAny_mono (generator_run (k := 0) (Q := Q) (E := L2.E0) B F hm Fg c.gd (c.rm.mono hk) I1.env0 (hs _ _ _ _ I1) tb hgen q2) fun r s' hq => ?_)
          cases r with
          | error e => exact (passL (X := Y) pins σ H1 s1 e s' I1 hq)
          | ok fl =>
            cases fl with
            | ret u => exact I1.after hq
            | next => exact False.elim hq
            | brk => exact False.elim hq
            | cont => exact False.elim hq
    next => exact cc.elim
  next => exact cc.elim
end
end K65
/-! E10: law. -/
namespace K65
open PySem L2 PyProof.Rows DL
abbrev s_law : Stmt := top 40
abbrev N_law : List Str := ["script", "pool", "index", "generator", "rows", "columns", "far", "table", "column", "row", "names", "due"]
theorem sc_law : FnScope N_law ["script"] (defScope s_law) := ⟨rfl, rfl, rfl, by decide +kernel, rfl, by decide +kernel, by decide +kernel⟩
noncomputable def g_law (K : PySem.W.Frag) (ca : Str → Addr) (l : Addr) (ns : List Int) : DL.Env → RS := sSeq (sPut 1 (bndA (fCons (fC (.str "a")) (fCons (fC (.str "b")) (fCons (fC (.str "north")) (fCons (fC (.str "south")) (fCons (fC (.str "east")) (fCons (fC (.str "west")) (fCons (fC (.str "men")) (fCons (fC (.str "women")) (fCons (fC (.str "rest")) (fCons (fC (.str "x")) (fCons (fC (.str "y")) (fCons (fC (.str "abcdefghijkl")) (fNil))))))))))))) gMkL)) (sSeq (sFor (srcA (fCons (fC (.int 3)) (fNil)) kRng1) (bName 2) (sSeq (sOwn 3 (fGen l ns (fVar 2))) (sSeq (sBind (bTup [bName 4, bName 5, bName 6]) (bndA (fCons (fOp2 gAdd (fC (.int 1)) (fLend 2 3 F_l_random (fCons (fC (.int 6)) (fNil)))) (fCons (fOp2 gAdd (fC (.int 1)) (fLend 2 3 F_l_random (fCons (fC (.int 6)) (fNil)))) (fCons (fLend 2 3 F_l_pick (fCons (bndA (fCons (fC (.int 1)) (fCons (fC (.int 7)) (fCons (fOp2 gPow (fC (.int 10)) (fC (.int 9))) (fNil)))) gMkL) (fNil))) (fNil)))) gMkT)) (sSeq (sPut 7 (fLc (srcA (fCons (fVar 4) (fNil)) kRng1) (bName 9) (fC (.bool true)) (fLc (srcA (fCons (fVar 5) (fNil)) kRng1) (bName 8) (fC (.bool true)) (fOp2 gAdd (fOp2 gMul (fVar 6) (fOp2 gSub (fLend 2 3 F_l_random (fCons (fC (.int 9)) (fNil))) (fC (.int 4)))) (fLend 2 3 F_l_random (fCons (fC (.int 3)) (fNil)))) [8]) [9])) (sSeq (sPut 10 (bndA (fCons (fOp2 gCutH (fLend 2 3 F_l_drawn_order (fCons (fVar 1) (fNil))) (fVar 4)) (fCons (fOp2 gCutH (fLend 2 3 F_l_drawn_order (fCons (fVar 1) (fNil))) (fVar 5)) (fNil))) gMkT)) (sIf (fOr (fNot (fLend 3 3 (F_l_grid_right K ca) (fCons (fVar 7) (fCons (fVar 10) (fNil))))) (fAnd (fOp2 gEq (fVar 2) (fC (.int 1))) (fNot (fCall 0 (F_l_refused_right K ca) fNil)))) (sRet (fC (.bool false))) (.nx))))))) (sSeq (sPut 11 (fC (.str "      | men women | all\nnorth |   1    20 |  21\nsouth |  -3     4 |   1\n  all |  -2    24 |  22\n"))) (sRet (fAnd (fOp2 gEq (fCallG 2 (pick .none [0, 1]) (F_text_of_grid ca) (fCons (bndA (fCons (bndA (fCons (fC (.int 1)) (fCons (fC (.int 20)) (fNil))) gMkL) (fCons (bndA (fCons (fOp1 gNeg (fC (.int 3))) (fCons (fC (.int 4)) (fNil))) gMkL) (fNil))) gMkL) (fCons (bndA (fCons (bndA (fCons (fC (.str "north")) (fCons (fC (.str "south")) (fNil))) gMkL) (fCons (bndA (fCons (fC (.str "men")) (fCons (fC (.str "women")) (fNil))) gMkL) (fNil))) gMkT) (fNil)))) (fVar 11)) (fOp2 gEq (fCallG 1 (pick .none [0]) (F_grid_of_text ca) (fCons (fVar 11) (fNil))) (bndA (fCons (bndA (fCons (bndA (fCons (fC (.int 1)) (fCons (fC (.int 20)) (fNil))) gMkL) (fCons (bndA (fCons (fOp1 gNeg (fC (.int 3))) (fCons (fC (.int 4)) (fNil))) gMkL) (fNil))) gMkL) (fCons (bndA (fCons (bndA (fCons (fC (.str "north")) (fCons (fC (.str "south")) (fNil))) gMkL) (fCons (bndA (fCons (fC (.str "men")) (fCons (fC (.str "women")) (fNil))) gMkL) (fNil))) gMkT) (fNil))) gMkT))))))
theorem b_law {P : Program} {w : World} {K : PySem.W.Frag} {mg : Str → Option Value} {base : Heap} {ca : Str → Addr} {l : Addr} {ns : List Int} (B : Bl mg) (d_l_pick : Df P w K mg base "_law_pick" s_l_pick 3 ["generator", "things"] F_l_pick) (d_l_random : Df P w K mg base "_law_random" s_l_random 2 ["generator", "bound"] F_l_random) (d_l_drawn_order : Df P w K mg base "_law_drawn_order" s_l_drawn_order 3 ["generator", "things"] F_l_drawn_order) (d_l_grid_right : Df P w K mg base "_law_grid_right" s_l_grid_right 12 ["generator", "table", "names"] (F_l_grid_right K ca)) (d_l_refused_right : Df P w K mg base "_law_refused_right" s_l_refused_right 12 [] (F_l_refused_right K ca)) (d_text_of_grid : Df P w K mg base "text_of_grid" s_text_of_grid 4 ["table", "names"] (F_text_of_grid ca)) (d_grid_of_text : Df P w K mg base "grid_of_text" s_grid_of_text 3 ["text"] (F_grid_of_text ca)) {fc fg : Addr} {fdc fdg : FuncData} (Fc : FunD K "_law_cell" "_law_cell" (defArgs s_l_cell) (defBody s_l_cell) (defScope s_l_cell) [] [] fc fdc) (hmc : mg "_law_cell" = some (.ref fc)) (Fg : FunD K "_law_generator" "_law_generator" (defArgs s_l_generator) (defBody s_l_generator) (defScope s_l_generator) [] [] fg fdg) (hmg : mg "_law_generator" = some (.ref fg)) {f : Addr} {cdv : Value} {A : Around} {outer : List PySem.Env} {s : Shared} {H : Hp} {E : XK} (hs : ∀ H', Frz H H' → SqL K H' l (ns.map V.int)) (c : Cn (fx P w K mg base N_law "law" s_law f cdv A outer s H E) E 12) :
    DSs (fx P w K mg base N_law "law" s_law f cdv A outer s H E) E (defBody s_law) (g_law K ca l ns) := by
  have nd := sc_law.nd
  exact dss_cons (ds_put (i := 1) nd rfl (by first | exact .inl rfl | exact .inr rfl) (de_mkL (da_cons (de_str) (da_cons (de_str) (da_cons (de_str) (da_cons (de_str) (da_cons (de_str) (da_cons (de_str) (da_cons (de_str) (da_cons (de_str) (da_cons (de_str) (da_cons (de_str) (da_cons (de_str) (da_cons (de_str) (da_nil)))))))))))))))
    (dss_cons (ds_for (passes_of rfl) c.cm (di_rng1 rfl B.range (da_cons (de_int) (da_nil))) (gt_name) (pg_name nd (i := 2) rfl (by first | exact .inl rfl | exact .inr rfl)) (dss_cons (ds_own (i := 3) nd rfl (by first | exact .inl rfl | exact .inr rfl) (de_gen (Y := fx P w K mg base N_law "law" s_law f cdv A outer s H E) c (fun _ _ _ _ I => hs _ I.base.frzs) B Fc hmc Fg hmg (pv 0) (de_var (pv 2))))
    (dss_cons (ds_asg (gt_tup (gts_cons (gt_name) (gts_cons (gt_name) (gts_cons (gt_name) (gts_nil))))) (pg_tup c.cm (pgs_cons (pg_name nd (i := 4) rfl (by first | exact .inl rfl | exact .inr rfl)) (pgs_cons (pg_name nd (i := 5) rfl (by first | exact .inl rfl | exact .inr rfl)) (pgs_cons (pg_name nd (i := 6) rfl (by first | exact .inl rfl | exact .inr rfl)) (pgs_nil))))) (de_mkT (da_cons (d_add (de_int) (de_lend d_l_random c (pv 3) (da_cons (de_int) (da_nil)))) (da_cons (d_add (de_int) (de_lend d_l_random c (pv 3) (da_cons (de_int) (da_nil)))) (da_cons (de_lend d_l_pick c (pv 3) (da_cons (de_mkL (da_cons (de_int) (da_cons (de_int) (da_cons (d_pow (de_int) (de_int)) (da_nil))))) (da_nil))) (da_nil))))))
    (dss_cons (ds_lc (ps_lc (own := [("row", 9)]) c.cm nd (i := 7) rfl (di_rng1 rfl B.range (da_cons (de_var (pv 4)) (da_nil))) (blkOk_by (by rfl)) (gt_name) (by decide) (fun _ _ _ _ _ => pg_name nd (i := 9) rfl (by first | exact .inl rfl | exact .inr rfl)) (fun _ _ _ _ _ => dts_nil) (fun _ _ _ _ _ => de_lc (own := [("column", 8)]) c.blk.cm nd (di_rng1 rfl B.range (da_cons (de_var (pv 5)) (da_nil))) (blkOk_by (by rfl)) (gt_name) (by decide) (fun _ _ _ _ _ => pg_name nd (i := 8) rfl (by first | exact .inl rfl | exact .inr rfl)) (fun _ _ _ _ _ => dts_nil) (fun _ _ _ _ _ => d_add (d_mul (de_var (pv 6)) (d_sub (de_lend d_l_random c.blk.blk (pv 3) (da_cons (de_int) (da_nil))) (de_int))) (de_lend d_l_random c.blk.blk (pv 3) (da_cons (de_int) (da_nil))))) rfl))
    (dss_cons (ds_put (i := 10) nd rfl (by first | exact .inl rfl | exact .inr rfl) (de_mkT (da_cons (de_cutH (de_lend d_l_drawn_order c (pv 3) (da_cons (de_var (pv 1)) (da_nil))) (de_var (pv 4))) (da_cons (de_cutH (de_lend d_l_drawn_order c (pv 3) (da_cons (de_var (pv 1)) (da_nil))) (de_var (pv 5))) (da_nil)))))
    (dss_one (ds_if (dt_w (dw_or (dt_not (dt_val (de_lend d_l_grid_right c (pv 3) (da_cons (de_var (pv 7)) (da_cons (de_var (pv 10)) (da_nil)))))) (dw_or1 (dt_w (dw_and (t_eq c (de_var (pv 2)) (de_int)) (dw_and1 (dt_not (dt_val (de_call0 d_l_refused_right c))))))))) (dss_one (ds_ret (de_bl))) (dss_nil))))))))
    (dss_cons (ds_put (i := 11) nd rfl (by first | exact .inl rfl | exact .inr rfl) (de_str))
    (dss_one (ds_ret (de_and (d_eq c.rm.units (de_callK d_text_of_grid c ["table", "names"] [0, 1] (dk_cons (de_mkL (da_cons (de_mkL (da_cons (de_int) (da_cons (de_int) (da_nil)))) (da_cons (de_mkL (da_cons (d_neg (de_int)) (da_cons (de_int) (da_nil)))) (da_nil)))) (dk_cons (de_mkT (da_cons (de_mkL (da_cons (de_str) (da_cons (de_str) (da_nil)))) (da_cons (de_mkL (da_cons (de_str) (da_cons (de_str) (da_nil)))) (da_nil)))) (dk_nil))) (fun _ _ _ _ _ _ us hl => match us, hl with | [_, _], _ => rfl)) (de_var (pv 11))) (de_one (d_eq c.rm.units (de_callK d_grid_of_text c ["text"] [0] (dk_cons (de_var (pv 11)) (dk_nil)) (fun _ _ _ _ _ _ us hl => match us, hl with | [_], _ => rfl)) (de_mkT (da_cons (de_mkL (da_cons (de_mkL (da_cons (de_int) (da_cons (de_int) (da_nil)))) (da_cons (de_mkL (da_cons (d_neg (de_int)) (da_cons (de_int) (da_nil)))) (da_nil)))) (da_cons (de_mkT (da_cons (de_mkL (da_cons (de_str) (da_cons (de_str) (da_nil)))) (da_cons (de_mkL (da_cons (de_str) (da_cons (de_str) (da_nil)))) (da_nil)))) (da_nil)))))))))))

section
variable {P : Program} {w : World} {K : PySem.W.Frag} {mg : Str → Option Value} {base : Heap}
theorem law_run (B : Bl mg) {fl cd : Addr} {fdl : FuncData} (Fl : FunD K "law" "law" (defArgs s_law) (defBody s_law) (defScope s_law) [] [] fl fdl) (hcd : fdl.code = .ref cd) {g : DL.Env → RS}
    {A : Around} {outer : List PySem.Env} {s : Shared} {H : Hp} {l : Addr} {Q : VK} {E : XK} {ρ2 : DL.Env}
    (hb : ∀ (A : Around) (outer : List PySem.Env) (s : Shared) (E : XK), Cn (fx P w K mg base N_law "law" s_law fl (.ref cd) A outer s H E) E 12 → DSs (fx P w K mg base N_law "law" s_law fl (.ref cd) A outer s H E) E (defBody s_law) g)
    (hgd : A.guards = some []) (hr : Room 13 A) (e0 : Env0 P w K mg base A outer s H) (tb : LamX.Tabs (TbK K) H)
    (hres : g [some (.pu (fnD l)), none, none, none, none, none, none, none, none, none, none, none] = .ret (.pu (.bool true)) ρ2) (hq : ∀ H', Q (.bl true) H') :
    codeAny (model P w) A (.call (.ref fl) ⟨[.ref l], []⟩) (CR (L2.CX P w) outer P w H s Q E) s := by
  obtain ⟨oc, od, kV, doc, pm, an, cdv, ct, osl, rfl, lk, hcd2⟩ := (Fun.ofD Fl).ex
  obtain rfl : cdv = .ref cd := hcd
  refine LamX.run_ofS (N := N_law) (ps := ["script"]) (us := [.ref l]) (vs := [.ref l]) lk hcd2 sc_law (hr.mono (j := 12 + 1) (Nat.le_refl _)) e0 (.of_eq (by first | rfl | with_unfolding_all rfl)) (.cons rfl .nil) rfl fun hr2 => ?_
  have cn : Cn (fx P w K mg base N_law "law" s_law fl (.ref cd) A outer s H E) E 12 := ⟨hgd, hr2, passes_call (W := fun cls d _ H => E cls d H) (takes_of rfl rfl rfl rfl) (fun _ _ _ _ h => h), takes_of rfl rfl rfl rfl, rfl⟩
  refine ⟨_, (hb A outer s E cn).pss, ?_⟩
  refine ⟨fun _ => 0, [], [], [some (.pu (fnD l)), none, none, none, none, none, none, none, none, none, none, none], srep_of (fun a z => absurd z (by simp)) tb rfl fun i sl q => ?_, ?_⟩
  · match i with
    | 0 => exact ⟨fnD l, .ref l, (Option.some.inj (Option.some.inj q)).symm, rfl, .fn⟩
    | 1 => simp at q
    | 2 => simp at q
    | 3 => simp at q
    | 4 => simp at q
    | 5 => simp at q
    | 6 => simp at q
    | 7 => simp at q
    | 8 => simp at q
    | 9 => simp at q
    | 10 => simp at q
    | 11 => simp at q
    | n + 12 => simp at q
  · rw [hres]
    intro v σ3 H3 P3 t3 S3 r3
    rw [rp_bool r3]
    exact hq H3
end
end K65
/-! E14: the end, with the caller's guards known. -/
namespace K65
open PySem PySem.Spec L2 PyProof.Rows DL
/-- the script at a, tracked where K lacks it, and the empty tables of T -/
def startH (K : PySem.W.Frag) (T : List Addr) (a : Addr) (vs : List Value) (ns : List Int) : Hp := fun b =>
  if b ∈ T then some (.tbl #[]) else if b = a then (match K.lookup a with
    | none => some (.frz { cls := .type "list", data := .seq vs.toArray } (.lst (ns.map V.int)))
    | some _ => none) else none
section
variable {K : PySem.W.Frag} {T : List Addr} {a : Addr} {vs : List Value} {ns : List Int}
theorem startH_tab {b : Addr} (h : b ∈ T) : startH K T a vs ns b = some (.tbl #[]) := if_pos h
theorem startH_cases (b : Addr) : startH K T a vs ns b = none ∨ (b ∈ T ∧ startH K T a vs ns b = some (.tbl #[])) ∨ (b = a ∧ b ∉ T ∧ K.lookup a = none ∧ startH K T a vs ns b = some (.frz { cls := .type "list", data := .seq vs.toArray } (.lst (ns.map V.int)))) := by
  by_cases h : b ∈ T
  · exact .inr (.inl ⟨h, if_pos h⟩)
  · by_cases e : b = a
    · cases q : K.lookup a with
      | none => exact .inr (.inr ⟨e, h, rfl, by unfold startH; rw [if_neg h, if_pos e, q]⟩)
      | some o => exact .inl (by unfold startH; rw [if_neg h, if_pos e, q])
    · exact .inl (by unfold startH; rw [if_neg h, if_neg e])
end
section
variable {P : Program} {w : World} {K : PySem.W.Frag} {mg mb : Str → Option Value} {s₁ : Shared} {T : List Addr} {a : Addr} {vs : List Value} {ns : List Int}
theorem startH_hok (hT : ∀ b ∈ T, s₁.heap.get? b = some { cls := .none, data := .fields #[] }) (ha : s₁.heap.get? a = some { cls := .type "list", data := .seq vs.toArray }) (hi : IntsAre vs ns) (hl : ns.length ≤ sizeLine) : HOk P w (startH K T a vs ns) s₁.heap := fun b u z => by
  rcases startH_cases (K := K) (T := T) (a := a) (vs := vs) (ns := ns) b with e | ⟨hb, e⟩ | ⟨rfl, hb, q, e⟩
  · rw [e] at z; cases z
  · rw [e] at z; cases z; exact hT b hb
  · rw [e] at z; cases z
    exact ⟨ha, by rw [List.length_map]; exact hl, vs, _, vals_ints hi, ha⟩
theorem startH_sql (KX : K.In s₁.heap) (ha : s₁.heap.get? a = some { cls := .type "list", data := .seq vs.toArray }) (hi : IntsAre vs ns) (hl : ns.length ≤ sizeLine) (hT : a ∉ T) : SqL K (startH K T a vs ns) a (ns.map V.int) := by
  cases q : K.lookup a with
  | none => exact .inl (.inr ⟨_, by unfold startH; rw [if_neg hT, if_pos rfl, q]⟩)
  | some o =>
    have e := KX a o q
    rw [ha] at e
    cases e
    exact .inr ⟨_, vs.toArray, _, q, rfl, rfl, rfl, by rw [List.size_toArray, hi.length]; exact hl, by simpa using vals_ints hi⟩
theorem startH_free (hT : ∀ b ∈ T, s₁.heap.get? b = some { cls := .none, data := .fields #[] }) (ha : s₁.heap.get? a = some { cls := .type "list", data := .seq vs.toArray }) {b : Addr} {o : Obj} (e : s₁.heap.get? b = some o) (h1 : ∀ us n, o.data ≠ .seq us n) (h2 : o.data ≠ .fields #[]) : startH K T a vs ns b = none := by
  rcases startH_cases (K := K) (T := T) (a := a) (vs := vs) (ns := ns) b with z | ⟨hb, _⟩ | ⟨rfl, _⟩
  · exact z
  · rw [hT b hb] at e; cases e; exact absurd rfl h2
  · rw [ha] at e; cases e; exact absurd rfl (h1 _ _)
theorem startH_ns (hT : ∀ b ∈ T, s₁.heap.get? b = some { cls := .none, data := .fields #[] }) (ha : s₁.heap.get? a = some { cls := .type "list", data := .seq vs.toArray }) {b : Addr} {m : Str → Option Value} (h : s₁.heap.Ns b m) : (hidT s₁.heap (startH K T a vs ns)).Ns b m := by
  obtain ⟨o, es, ep, e, d, r⟩ := h
  exact ⟨o, es, ep, hidT_get e (startH_free hT ha e (fun us n z => by rw [d] at z; cases z) fun z => by rw [d] at z; cases z), d, r⟩
theorem startH_kin (KX : K.In s₁.heap) (nT : ∀ b ∈ T, K.lookup b = none) : K.In (hidT s₁.heap (startH K T a vs ns)) := fun b o e => hidT_get (KX b o e) (by
  rcases startH_cases (K := K) (T := T) (a := a) (vs := vs) (ns := ns) b with z | ⟨hb, _⟩ | ⟨rfl, _, q, _⟩
  · exact z
  · rw [nT b hb] at e; cases e
  · rw [q] at e; cases e)
theorem startH_env (KX : K.In s₁.heap) (nT : ∀ b ∈ T, K.lookup b = none) (hns : s₁.heap.Ns mainGlobals mg) (hb : s₁.heap.Ns builtinsNs mb) (hbb : ∀ x : Str, x ≠ "__name__" → mb x = bootBuiltins x) (hlim : s₁.heap.NoLimit) (hg : s₁.gens = #[])
    (hT : ∀ b ∈ T, s₁.heap.get? b = some { cls := .none, data := .fields #[] }) (ha : s₁.heap.get? a = some { cls := .type "list", data := .seq vs.toArray }) (hi : IntsAre vs ns) (hl : ns.length ≤ sizeLine) : Env0 P w K mg (hidT s₁.heap (startH K T a vs ns)) callerA [] s₁ (startH K T a vs ns) :=
  ⟨rfl, ⟨startH_kin KX nT, startH_ns hT ha hns, ⟨mb, startH_ns hT ha hb, hbb⟩, let ⟨mc, h1, h2⟩ := hlim; ⟨mc, startH_ns hT ha h1, h2⟩⟩, fun b o e => of_hidT e, Nat.le_of_eq (hidT_size _ _), trivial, fun b z => absurd (show b ∈ ([] : List Addr) from z) (by simp), startH_hok hT ha hi hl, .of_eq hg⟩
theorem startH_tabB {c Pt : Addr} (hP : Pt ∈ T) (hns : s₁.heap.Ns mainGlobals mg) (C : PySem.W.CodeHd s₁.heap c Pt) (hbm : ∃ (bm : Addr) (ob : Obj), mg "__builtins__" = some (.ref bm) ∧ bm ≠ builtinsNs ∧ s₁.heap.get? bm = some ob ∧ ob.cls = .type "module" ∧ ob.dict = some builtinsNs ∧ ob.data = .plain)
    (hT : ∀ b ∈ T, s₁.heap.get? b = some { cls := .none, data := .fields #[] }) (ha : s₁.heap.get? a = some { cls := .type "list", data := .seq vs.toArray }) : LamX.TabB (hidT s₁.heap (startH K T a vs ns)) mg c Pt := by
  refine ⟨?_, ?_, fun z => ?_⟩
  · obtain ⟨o, us, file, tf, flags, tg, inF, text, tt, e1, r1, r2, r3, r4, r5, r6, r7, r8, hne⟩ := C
    refine ⟨o, us, file, tf, flags, tg, inF, text, tt, hidT_get e1 (startH_free hT ha e1 (fun us n z => ?_) fun z => ?_), r1, r2, r3, r4, r5, r6, r7, r8, hne⟩
    · rw [r2] at z; cases z
    · rw [r2] at z
      cases z
      simp at r3
  · obtain ⟨bm, ob, b1, b2, b3, b4, b5, b6⟩ := hbm
    refine ⟨bm, ob, b1, b2, fun q => ?_, fun q => ?_, hidT_get b3 (startH_free hT ha b3 (fun us n z => ?_) fun z => ?_), b4, b5, b6⟩
    · obtain ⟨o, es, ep, e, hd, _⟩ := hns
      rw [q, e] at b3; cases b3
      rw [hd] at b6; cases b6
    · rw [q, hT _ hP] at b3; cases b3; cases b6
    · rw [b6] at z; cases z
    · rw [b6] at z; cases z
  · obtain ⟨o, es, ep, e, hd, _⟩ := hns
    rw [z, hT _ hP] at e; cases e; cases hd
theorem end_call {fa : Addr} (hT : ∀ b ∈ T, s₁.heap.get? b = some { cls := .none, data := .fields #[] }) (C : ∀ b ∈ T, ∃ c, PySem.W.CodeHd s₁.heap c b) (ha : s₁.heap.get? a = some { cls := .type "list", data := .seq vs.toArray }) (hi : IntsAre vs ns) (hl : ns.length ≤ sizeLine)
    (F : codeAny (model P w) callerA (.call (.ref fa) ⟨[.ref a], []⟩) (CR (L2.CX P w) [] P w (startH K T a vs ns) s₁ (fun v _ => v = .bl true) L2.E0) s₁) :
    codeAny (model P w) callerA (.call (.ref fa) ⟨[.ref a], []⟩) (fun r s' => r = .ok (.ret (.bool true)) ∧ OldK s₁.heap s'.heap ∧ s'.os = s₁.os ∧ AllBare s'.gens) s₁ := by
  refine codeAny_mono F fun r s' h => ?_
  cases r with
  | error e =>
    obtain ⟨_, _, _, _, _, _, _, _, _, _, _, _, _, _, _, _, z⟩ := h
  | ok fl =>
    cases fl with
    | next => exact False.elim h
    | brk => exact False.elim h
    | cont => exact False.elim h
    | ret u =>
      obtain ⟨v, H', os, bare, un, hok', r', q⟩ := h
      have q' : v = .bl true := q
      subst q'
      obtain rfl : u = Value.bool true := r'
      have key : ∀ b o, b ∉ T → s₁.heap.get? b = some o → s'.heap.get? b = some o := fun b o nb e => by
        rcases startH_cases (K := K) (T := T) (a := a) (vs := vs) (ns := ns) b with z | ⟨z, _⟩ | ⟨rfl, _, _, z⟩
        · exact un.keep b o e z (by intro w; exact absurd (show b ∈ ([] : List Addr) from w) (by simp)) (by simp)
        · exact absurd z nb
        · obtain ⟨e2, _⟩ := hok' b _ (un.frzs b _ _ z)
          rw [ha] at e; cases e
          exact e2
      have grown : ∀ b ∈ T, ∃ more : Array Value, s'.heap.get? b = some { cls := .none, data := .fields more } := fun b hb => by
        obtain ⟨more, z⟩ := un.tbls b #[] (startH_tab hb)
        exact ⟨_, hok' b _ z⟩
      refine ⟨rfl, ⟨fun b o e => ?_, fun b o e => ?_⟩, os, bare⟩
      · by_cases hb : b ∈ T
        · obtain ⟨more, hm⟩ := grown b hb
          obtain ⟨c, Cc⟩ := C b hb
          rw [hT b hb] at e
          cases e
          exact .inr (.inl ⟨(Cc.tab (hT b hb)).isCodeTable, rfl, #[], more, rfl, by rw [Array.empty_append]; exact hm⟩)
        · exact .inl (key b o hb e)
      · by_cases hb : b ∈ T
        · obtain ⟨more, hm⟩ := grown b hb
          exact ⟨_, hm⟩
        · exact ⟨o, key b o hb e⟩
end
end K65
/-! B1: rules that evaluate denotations. -/
namespace DL
open PySem L2 PyProof.Rows
theorem lc_gen {α : Type} {bind : D → Env → Option Env} {ft fe : Env → RE} {vs : List Nat} {ρ : Env} (φ ψ : α → D) (p : α → Bool) : ∀ (xs : List α) (acc : List D), acc.length + xs.length ≤ sizeLine →
    (∀ x ∈ xs, ∃ ρ1, bind (φ x) ρ = some ρ1 ∧ Ev ft ρ1 (.bool (p x)) ∧ (p x = true → Ev fe ρ1 (ψ x)) ∧ wipeE ρ1 vs = ρ) → lcGo bind ft fe vs (xs.map φ) acc ρ = .ok (.frs (acc ++ (xs.filter p).map ψ)) ρ
  | [], acc, _, _ => by simp [lcGo]
  | x :: r, acc, hl, h => by
    obtain ⟨ρ1, h1, ⟨w, h2, h2'⟩, h3, h4⟩ := h x List.mem_cons_self
    have hl2 : acc.length + r.length + 1 ≤ sizeLine := by simpa [Nat.add_assoc] using hl
    rw [List.map_cons]
    unfold lcGo
    rw [h1]
    dsimp only
    rw [h2]
    dsimp only
    rw [h2']
    cases e : p x with
    | true =>
      obtain ⟨w3, h5, h6⟩ := h3 e
      dsimp only
      rw [h5]
      dsimp only
      rw [if_pos (by omega), h4, lc_gen φ ψ p r (acc ++ [w3.d]) (by simp; omega) fun d hd => h d (List.mem_cons_of_mem _ hd)]
      simp [e, h6]
    | false =>
      dsimp only
      rw [h4, lc_gen φ ψ p r acc (by omega) fun d hd => h d (List.mem_cons_of_mem _ hd)]
      simp [e]
theorem evl_gen {α : Type} {src : Env → RI} {bind : D → Env → Option Env} {ft fe : Env → RE} {vs : List Nat} {ρ : Env} (φ ψ : α → D) (p : α → Bool) (xs : List α) (hs : src ρ = .ok (xs.map φ) ρ) (hw : wipeE ρ vs = ρ) (hl : xs.length ≤ sizeLine)
    (h : ∀ x ∈ xs, ∃ ρ1, bind (φ x) ρ = some ρ1 ∧ Ev ft ρ1 (.bool (p x)) ∧ (p x = true → Ev fe ρ1 (ψ x)) ∧ wipeE ρ1 vs = ρ) : Evl (fLc src bind ft fe vs) ρ ((xs.filter p).map ψ) := by
  unfold Evl fLc
  rw [hs]
  dsimp only
  rw [hw, lc_gen φ ψ p xs [] (by simpa using hl) h]
  rfl
theorem evl_map {α : Type} {src : Env → RI} {bind : D → Env → Option Env} {fe : Env → RE} {vs : List Nat} {ρ : Env} (φ ψ : α → D) (xs : List α) (hs : src ρ = .ok (xs.map φ) ρ) (hw : wipeE ρ vs = ρ) (hl : xs.length ≤ sizeLine)
    (h : ∀ x ∈ xs, ∃ ρ1, bind (φ x) ρ = some ρ1 ∧ Ev fe ρ1 (ψ x) ∧ wipeE ρ1 vs = ρ) : Evl (fLc src bind (fC (.bool true)) fe vs) ρ (xs.map ψ) := by
  have z := evl_gen (src := src) (bind := bind) (ft := fC (.bool true)) (fe := fe) (vs := vs) (ρ := ρ) φ ψ (fun _ => true) xs hs hw hl fun x hx => by
    obtain ⟨ρ1, h1, h2, h3⟩ := h x hx
    exact ⟨ρ1, h1, .k, fun _ => h2, h3⟩
  rw [List.filter_eq_self.mpr fun _ _ => rfl] at z
  exact z
theorem sum_map (r : List Int) : gSum [.list (r.map .int)] = some (.pu (.int r.sum)) := by
  show (intsOf (r.map .int)).map _ = _
  rw [intsOf_map r]
  rfl
theorem rng1 {n : Nat} (h : n < 2 ^ 62) : kRng1 [.int (n : Nat)] = some ((List.range n).map fun i : Nat => .int (i : Nat)) := by
  have h1 : -(2 ^ 62) ≤ (n : Int) ∧ (n : Int) < 2 ^ 62 := by
    constructor
    · exact Int.le_trans (by decide) (Int.natCast_nonneg n)
    · exact Int.ofNat_lt.mpr h
  unfold kRng1
  simp only [h1, and_self, if_true, rngD, Int.toNat_natCast, Int.zero_add]
end DL
namespace DL
open PySem L2 PyProof.Rows
/-- the value of an expression that changes the slots -/
def EvS (f : Env → RE) (ρ ρ' : Env) (d : D) : Prop := ∃ w, f ρ = .ok w ρ' ∧ w.d = d
theorem Ev.s {f : Env → RE} {ρ : Env} {d : D} (h : Ev f ρ d) : EvS f ρ ρ d := h
theorem EvS.op2 {ρ ρ1 ρ2 : Env} {fa fb : Env → RE} {a b : D} {w : W} {g : D → D → Option W} (ha : EvS fa ρ ρ1 a) (hb : EvS fb ρ1 ρ2 b) (h : g a b = some w) : EvS (fOp2 g fa fb) ρ ρ2 w.d := by
  obtain ⟨wa, h1, rfl⟩ := ha
  obtain ⟨wb, h2, rfl⟩ := hb
  refine ⟨w, ?_, rfl⟩
  unfold fOp2 bndE
  rw [h1]
  dsimp only
  rw [h2]
  dsimp only
  rw [h]
  rfl
def EvLS (fs : Env → RL) (ρ ρ' : Env) (ds : List D) : Prop := fs ρ = .ok ds ρ'
theorem EvLS.nil {ρ : Env} : EvLS fNil ρ ρ [] := rfl
theorem EvLS.cons {ρ ρ1 ρ2 : Env} {fa : Env → RE} {fr : Env → RL} {a : D} {ds : List D} (ha : EvS fa ρ ρ1 a) (hr : EvLS fr ρ1 ρ2 ds) : EvLS (fCons fa fr) ρ ρ2 (a :: ds) := by
  obtain ⟨wa, h1, rfl⟩ := ha
  unfold EvLS fCons
  rw [h1]
  dsimp only
  rw [hr]
theorem EvS.bndA {ρ ρ1 : Env} {fs : Env → RL} {ds : List D} {w : W} {k : List D → Option W} (hs : EvLS fs ρ ρ1 ds) (h : k ds = some w) : EvS (bndA fs k) ρ ρ1 w.d := by
  unfold EvS DL.bndA
  rw [hs]
  dsimp only
  rw [h]
  exact ⟨w, rfl, rfl⟩
theorem EvS.both {ρ ρ1 ρ2 : Env} {fa ft ff : Env → RE} {d : D} {x : Bool} (ha : EvS fa ρ ρ1 (.bool x)) (h1 : x = true → EvS ft ρ1 ρ2 d) (h2 : x = false → EvS ff ρ1 ρ2 d) : EvS (fBoth fa ft ff) ρ ρ2 d := by
  obtain ⟨w, e1, e2⟩ := ha
  unfold EvS fBoth bndE
  rw [e1]
  dsimp only
  rw [e2]
  cases x with
  | true => exact h1 rfl
  | false => exact h2 rfl
theorem EvS.not {ρ ρ1 : Env} {fa : Env → RE} {x : Bool} (ha : EvS fa ρ ρ1 (.bool x)) : EvS (fNot fa) ρ ρ1 (.bool (!x)) :=
  ha.both (fun e => by subst e; exact Ev.k.s) fun e => by subst e; exact Ev.k.s
/-- or of two that are false -/
theorem EvS.orF {ρ ρ1 ρ2 : Env} {fa fb : Env → RE} (ha : EvS fa ρ ρ1 (.bool false)) (hb : EvS fb ρ1 ρ2 (.bool false)) : EvS (fOr fa fb) ρ ρ2 (.bool false) := ha.both (fun e => nomatch e) fun _ => hb
theorem seq_nx {ρ ρ1 : Env} {f g : Env → RS} (h : Nx f ρ ρ1) : sSeq f g ρ = g ρ1 := by
  unfold sSeq
  rw [show f ρ = .nx ρ1 from h]
theorem seq_ret {ρ ρ1 : Env} {f g : Env → RS} {w : W} (h : f ρ = .ret w ρ1) : sSeq f g ρ = .ret w ρ1 := by
  unfold sSeq
  rw [h]
/-- a function's answer whose first argument is lent -/
def FrO (F : List Sl → RF) (ds : List D) (es : List D) (ds2 : List D) (d : D) : Prop := ∃ w, F (.own 1 ds :: es.map .pu) = .ok w [(1, ds2)] ∧ w.d = d
theorem colE_own {t : Nat} {ds : List D} {ρ : Env} (h : colE ρ = []) : colE (some (.own (t + 1) ds) :: ρ) = [(t + 1, ds)] := by
  unfold colE at h ⊢
  rw [List.filterMap_cons]
  show (match tagOf (some (.own (t + 1) ds)) with
    | none => ρ.filterMap tagOf
    | some b => b :: ρ.filterMap tagOf) = _
  rw [h]
  rfl
theorem frO_of {n : Nat} {g : Env → RS} {ds es ds2 : List D} {w : W} {d : D} {ρ' : Env} (h : g (some (.own 1 ds) :: ((es.map Sl.pu).map some ++ List.replicate (n - (es.length + 1)) none)) = .ret w ρ') (hw : w.d = d) (hc : colE ρ' = [(1, ds2)]) : FrO (fnF n g) ds es ds2 d := by
  refine ⟨w, ?_, hw⟩
  unfold fnF
  rw [show (List.map some (Sl.own 1 ds :: es.map .pu) ++ List.replicate (n - (Sl.own 1 ds :: es.map Sl.pu).length) none) = (some (.own 1 ds) :: ((es.map Sl.pu).map some ++ List.replicate (n - (es.length + 1)) none)) by simp, h]
  dsimp only
  rw [hc, show colE ((Sl.own 1 ds :: es.map Sl.pu).map some) = [(1, ds)] from colE_own (t := 0) (colE_args0 es)]
  rfl
theorem EvS.lend {n i t : Nat} {F : List Sl → RF} {fs : Env → RL} {ρ : Env} {ds es ds2 : List D} {d : D} (h : ρ[i]? = some (some (.own t ds))) (hs : EvL fs ρ es) (hn : es.length + 1 = n) (hF : FrO F ds es ds2 d) : EvS (fLend n i F fs) ρ (ρ.set i (some (.own t ds2))) d := by
  obtain ⟨w, hw, e⟩ := hF
  refine ⟨w, ?_, e⟩
  unfold fLend
  rw [h]
  dsimp only
  rw [show fs ρ = _ from hs]
  dsimp only
  rw [h]
  dsimp only
  rw [if_pos hn, hw]
  rfl
theorem ret_s {ρ ρ' : Env} {fa : Env → RE} {d : D} (h : EvS fa ρ ρ' d) : ∃ w, sRet fa ρ = .ret w ρ' ∧ w.d = d := by
  obtain ⟨w, h1, h2⟩ := h
  refine ⟨w, ?_, h2⟩
  unfold sRet sE
  rw [h1]
theorem put_s {ρ ρ' : Env} {fa : Env → RE} {d : D} {i : Nat} (h : EvS fa ρ ρ' d) : Nx (sPut i fa) ρ (ρ'.set i (some (.pu d))) := by
  obtain ⟨w, h1, rfl⟩ := h
  unfold Nx sPut sE
  rw [h1]
theorem if_s {ρ ρ' : Env} {fc : Env → RE} {f g : Env → RS} {x : Bool} (hc : EvS fc ρ ρ' (.bool x)) : sIf fc f g ρ = if x then f ρ' else g ρ' := by
  obtain ⟨w, h1, h2⟩ := hc
  unfold sIf sE
  rw [h1]
  dsimp only
  rw [h2]
  cases x <;> rfl
theorem Ev.ixO {ρ : Env} {i t : Nat} {ds : List D} {fb : Env → RE} {j : Nat} {d : D} (h : ρ[i]? = some (some (.own t ds))) (hb : Ev fb ρ (.int (j : Nat))) (hd : ds[j]? = some d) : Ev (fIxO i fb) ρ d := by
  obtain ⟨w, h1, h2⟩ := hb
  unfold Ev fIxO
  rw [h]
  dsimp only
  rw [h1]
  dsimp only
  rw [h, h2]
  have hl : j < ds.length := (List.getElem?_eq_some_iff.mp hd).1
  have e : atI ds (j : Int) = some d := by
    unfold atI ixN
    rw [if_pos (by omega), if_pos (by omega)]
    show ds[((j : Int)).toNat]? = _
    rw [Int.toNat_natCast]
    exact hd
  dsimp only
  rw [e]
  exact ⟨_, rfl, rfl⟩
theorem Nx.setO {ρ : Env} {i t : Nat} {ds : List D} {fv fi : Env → RE} {j : Nat} {d : D} (h : ρ[i]? = some (some (.own t ds))) (hv : Ev fv ρ d) (hi : Ev fi ρ (.int (j : Nat))) (hj : j < ds.length) : Nx (sSetO i fv fi) ρ (ρ.set i (some (.own t (ds.set j d)))) := by
  obtain ⟨w, h1, rfl⟩ := hv
  obtain ⟨w2, h3, h4⟩ := hi
  unfold Nx sSetO sE
  rw [h1]
  dsimp only
  rw [h]
  dsimp only
  rw [h3]
  dsimp only
  rw [h, h4]
  dsimp only
  have e : ixN ds.length (j : Int) = some j := by
    unfold ixN
    rw [if_pos (by omega), if_pos (by omega), Int.toNat_natCast]
  rw [e]
/-- a comprehension that draws, at most B draws -/
theorem lc_st {α : Type} {bind : D → Env → Option Env} {fe : Env → RE} {vs : List Nat} (φ : α → D) (k B : Nat) (Inv : Nat → Env → Prop) (Pd : D → Prop) : ∀ (xs : List α) (acc : List D) (m : Nat) (ρ : Env), acc.length + xs.length ≤ sizeLine → m + k * xs.length ≤ B → Inv m ρ →
    (∀ x ∈ xs, ∀ m ρ, Inv m ρ → m + k ≤ B → ∃ ρ1 ρ3 d, bind (φ x) ρ = some ρ1 ∧ EvS fe ρ1 ρ3 d ∧ Inv (m + k) (wipeE ρ3 vs) ∧ Pd d) →
    ∃ ds ρ', lcGo bind (fC (.bool true)) fe vs (xs.map φ) acc ρ = .ok (.frs (acc ++ ds)) ρ' ∧ ds.length = xs.length ∧ (∀ d ∈ ds, Pd d) ∧ Inv (m + k * xs.length) ρ'
  | [], acc, m, ρ, _, _, hI, _ => ⟨[], ρ, by simp [lcGo], rfl, fun d hd => absurd hd (by simp), by simpa using hI⟩
  | x :: r, acc, m, ρ, hl, hB, hI, h => by
    have hk : m + k + k * r.length = m + k * (x :: r).length := by
      rw [List.length_cons, Nat.mul_add, Nat.mul_one]; omega
    obtain ⟨ρ1, ρ3, d, h1, ⟨w, h2, rfl⟩, h3, h4⟩ := h x List.mem_cons_self m ρ hI (by omega)
    have hl2 : acc.length + r.length + 1 ≤ sizeLine := by simpa [Nat.add_assoc] using hl
    obtain ⟨ds, ρ', q1, q2, q3, q4⟩ := lc_st φ k B Inv Pd r (acc ++ [w.d]) (m + k) (wipeE ρ3 vs) (by simp; omega) (by omega) h3 fun y hy => h y (List.mem_cons_of_mem _ hy)
    refine ⟨w.d :: ds, ρ', ?_, by simp [q2], fun y hy => ?_, ?_⟩
    · rw [List.map_cons]
      unfold lcGo
      rw [h1]
      show (match fe ρ1 with
        | .ok w3 ρ3 => if acc.length < sizeLine then lcGo bind (fC (.bool true)) fe vs (r.map φ) (acc ++ [w3.d]) (wipeE ρ3 vs) else .st
        | _ => .st) = _
      rw [h2]
      dsimp only
      rw [if_pos (by omega), q1]
      simp
    · rcases List.mem_cons.mp hy with z | z
      · rw [z]; exact h4
      · exact q3 y z
    · rw [← hk]; exact q4
theorem evs_lc {α : Type} {src : Env → RI} {bind : D → Env → Option Env} {fe : Env → RE} {vs : List Nat} {ρ : Env} (φ : α → D) (k B : Nat) (Inv : Nat → Env → Prop) (Pd : D → Prop) (xs : List α) (m : Nat) (hs : src ρ = .ok (xs.map φ) ρ) (hw : wipeE ρ vs = ρ) (hl : xs.length ≤ sizeLine) (hB : m + k * xs.length ≤ B) (hI : Inv m ρ)
    (h : ∀ x ∈ xs, ∀ m ρ, Inv m ρ → m + k ≤ B → ∃ ρ1 ρ3 d, bind (φ x) ρ = some ρ1 ∧ EvS fe ρ1 ρ3 d ∧ Inv (m + k) (wipeE ρ3 vs) ∧ Pd d) :
    ∃ ds ρ', fLc src bind (fC (.bool true)) fe vs ρ = .ok (.frs ds) ρ' ∧ ds.length = xs.length ∧ (∀ d ∈ ds, Pd d) ∧ Inv (m + k * xs.length) ρ' := by
  obtain ⟨ds, ρ', h1, h2⟩ := lc_st φ k B Inv Pd xs [] m ρ (by simpa using hl) hB hI h
  refine ⟨ds, ρ', ?_, h2⟩
  unfold fLc
  rw [hs]
  dsimp only
  rw [hw, h1]
  rfl
end DL
namespace DL
open PySem L2 PyProof.Rows
/-- a lent call whose arguments change the slots, too -/
theorem EvS.lendS {n i t : Nat} {F : List Sl → RF} {fs : Env → RL} {ρ ρ1 : Env} {ds es ds2 : List D} {d : D} {t0 : Nat} {ds0 : List D} (h0 : ρ[i]? = some (some (.own t0 ds0))) (hs : EvLS fs ρ ρ1 es) (h : ρ1[i]? = some (some (.own t ds))) (hn : es.length + 1 = n) (hF : FrO F ds es ds2 d) : EvS (fLend n i F fs) ρ (ρ1.set i (some (.own t ds2))) d := by
  obtain ⟨w, hw, e⟩ := hF
  refine ⟨w, ?_, e⟩
  unfold fLend
  rw [h0]
  dsimp only
  rw [show fs ρ = _ from hs]
  dsimp only
  rw [h]
  dsimp only
  rw [if_pos hn, hw]
  rfl
/-! ### small data -/
structure Sm (k W : Nat) (d : D) : Prop where
  lay : d.canLay0 = true
  sh : d.showable = true
  shrt : d.intsShort 13 = true
  dep : d.depth ≤ k
  wt : d.weight ≤ W
structure Sms (k W : Nat) (ds : List D) : Prop where
  lay : PyData.canLayAll0 ds = true
  sh : PyData.showableAll ds = true
  shrt : PyData.intsShortAll 13 ds = true
  dep : PyData.depthAll ds ≤ k
  wt : PyData.weightAll ds ≤ W
theorem Sm.int {n : Int} (h0 : 0 ≤ n) (h1 : n < 1048576) : Sm 0 20 (.int n) := by
  have lg : n.natAbs.log2 < 20 := by
    by_cases e : n.natAbs = 0
    · rw [e]; decide
    · exact (Nat.log2_lt e).mpr (by omega)
  refine ⟨rfl, ?_, ?_, Nat.le_refl _, ?_⟩
  · exact decide_eq_true (by omega)
  · refine decide_eq_true ?_
    have := toString_length_le (v := n) h0 (k := 10) (by decide) (by omega)
    simp only [PyData.shown]
    exact Nat.le_trans this (by decide)
  · simp only [PyData.weight]
    split
    · exact Nat.zero_le _
    · omega
theorem Sms.nil {k : Nat} : Sms k 0 [] := ⟨rfl, rfl, rfl, by simp [PyData.depthAll], by simp [PyData.weightAll]⟩
theorem Sms.cons {k a b : Nat} {d : D} {ds : List D} (h : Sm k a d) (hs : Sms k b ds) : Sms k (a + 1 + b) (d :: ds) := by
  have := h.dep
  have := h.wt
  have := hs.dep
  have := hs.wt
  refine ⟨?_, ?_, ?_, ?_, ?_⟩
  · simp only [PyData.canLayAll0, h.lay, hs.lay, Bool.and_self]
  · simp only [PyData.showableAll, h.sh, hs.sh, Bool.and_self]
  · simp only [PyData.intsShortAll, h.shrt, hs.shrt, Bool.and_self]
  · simp only [PyData.depthAll]; omega
  · simp only [PyData.weightAll]; omega
theorem Sms.map {α : Type} {k a : Nat} {φ : α → D} : ∀ {xs : List α}, (∀ x ∈ xs, Sm k a (φ x)) → Sms k ((a + 1) * xs.length) (xs.map φ)
  | [], _ => by simpa using Sms.nil
  | x :: xs, h => by
    have z := Sms.cons (h x List.mem_cons_self) (Sms.map (xs := xs) fun y hy => h y (List.mem_cons_of_mem _ hy))
    rw [List.map_cons, List.length_cons, Nat.mul_add, Nat.mul_one, Nat.add_comm]
    exact z
theorem Sm.list {k W : Nat} {ds : List D} (h : Sms k W ds) : Sm (k + 1) W (.list ds) := by
  have := h.dep
  exact ⟨by simp only [PyData.canLay0, h.lay], by simp only [PyData.showable, h.sh], by simp only [PyData.intsShort, h.shrt], by simp only [PyData.depth]; omega, by simp only [PyData.weight]; exact h.wt⟩
theorem Sm.tuple {k W : Nat} {ds : List D} (h : Sms k W ds) : Sm (k + 1) W (.tuple ds) := by
  have := h.dep
  exact ⟨by simp only [PyData.canLay0, h.lay], by simp only [PyData.showable, h.sh], by simp only [PyData.intsShort, h.shrt], by simp only [PyData.depth]; omega, by simp only [PyData.weight]; exact h.wt⟩
theorem Sm.mono {k k2 W W2 : Nat} {d : D} (h : Sm k W d) (h1 : k ≤ k2) (h2 : W ≤ W2) : Sm k2 W2 d := ⟨h.lay, h.sh, h.shrt, Nat.le_trans h.dep h1, Nat.le_trans h.wt h2⟩
/-- a text of it is told -/
def Rpr (d : D) : Prop := ∃ s, gRepr [d] = some (.pu (.str s))
theorem Sm.rpr {k W : Nat} {d : D} (h : Sm k W d) (hk : k ≤ 60) (hW : W ≤ 1048576) : Rpr d := by
  have e : (2 : Nat) ^ 20 = 1048576 := by decide
  have l : PyData.layable0 d = true := by
    unfold PyData.layable0
    have h1 := h.dep
    have h2 := h.wt
    rw [h.lay, decide_eq_true (show d.depth ≤ 64 by omega), decide_eq_true (show d.weight ≤ 2 ^ 20 by omega)]; rfl
  have z := PyProof.Rows.shown_le13 l h.shrt
  have sl : 15728653 ≤ sizeLine := by decide
  have hd := h.dep
  have ok : (d.canLay0 && d.showable && decide (d.shown.length ≤ sizeLine) && decide (d.depth ≤ 60)) = true := by
    rw [h.lay, h.sh, decide_eq_true (show d.shown.length ≤ sizeLine by omega), decide_eq_true (show d.depth ≤ 60 by omega)]; rfl
  refine ⟨d.shown, ?_⟩
  unfold gRepr
  split
  · rename_i q
    cases q
    cases h.lay
  · rename_i q
    cases q
    rw [if_pos ok]
  · rename_i q1 q2
    exact absurd rfl (q2 d)
theorem Rpr.of {d : D} (h : (gRepr [d]).isSome = true) : Rpr d := by
  unfold gRepr at h
  split at h
  · rename_i q
    cases q
    exact ⟨_, rfl⟩
  · rename_i d2 q1 q
    cases q
    split at h
    · rename_i ok
      refine ⟨d.shown, ?_⟩
      unfold gRepr
      split
      · rename_i q
        cases q
        exact absurd rfl q1
      · rename_i q
        cases q
        rw [if_pos ok]
      · rename_i q2
        exact absurd rfl (q2 d)
    · cases h
  · cases h
end DL
namespace DL
open PySem L2 PyProof.Rows
theorem eq_nil : gEq (.list []) (.list []) = some (.pu (.bool true)) := by rfl
theorem ne_nil : gNe (.list []) (.list []) = some (.pu (.bool false)) := by rfl
theorem len_list {ds : List D} : gLen [.list ds] = some (.pu (.int ds.length)) := rfl
theorem atI_nat {α : Type} {xs : List α} {i : Nat} {x : α} (h : xs[i]? = some x) : atI xs (i : Int) = some x := by
  have hl : i < xs.length := (List.getElem?_eq_some_iff.mp h).1
  unfold atI ixN
  rw [if_pos (by omega), if_pos (by omega)]
  show xs[((i : Int)).toNat]? = _
  rw [Int.toNat_natCast]
  exact h
theorem ev_ge {ρ : Env} {fa fb : Env → RE} {i j : Int} (ha : Ev fa ρ (.int i)) (hb : Ev fb ρ (.int j)) : Ev (fOp2 gGe fa fb) ρ (.bool (decide (j ≤ i))) := Ev.op2 (w := .pu (.bool (decide (j ≤ i)))) ha hb rfl
theorem ev_gt {ρ : Env} {fa fb : Env → RE} {i j : Int} (ha : Ev fa ρ (.int i)) (hb : Ev fb ρ (.int j)) : Ev (fOp2 gGt fa fb) ρ (.bool (decide (j < i))) := Ev.op2 (w := .pu (.bool (decide (j < i)))) ha hb rfl
theorem ev_lt {ρ : Env} {fa fb : Env → RE} {i j : Int} (ha : Ev fa ρ (.int i)) (hb : Ev fb ρ (.int j)) : Ev (fOp2 gLt fa fb) ρ (.bool (decide (i < j))) := Ev.op2 (w := .pu (.bool (decide (i < j)))) ha hb rfl
theorem eq_intB {i j : Int} : gEq (.int i) (.int j) = some (.pu (.bool (decide (i = j)))) := by
  show gEq0 _ _ = _
  unfold gEq0
  simp [SeqAt.shaped, PyData.canLay0, PyData.depth, PyData.eqv]
  rfl
theorem ev_eqI {ρ : Env} {fa fb : Env → RE} {i j : Int} (ha : Ev fa ρ (.int i)) (hb : Ev fb ρ (.int j)) : Ev (fOp2 gEq fa fb) ρ (.bool (decide (i = j))) := Ev.op2 (w := .pu (.bool (decide (i = j)))) ha hb eq_intB
theorem ev_max {ρ : Env} {fa fb : Env → RE} {i j : Int} (ha : Ev fa ρ (.int i)) (hb : Ev fb ρ (.int j)) : Ev (bndA (fCons fa (fCons fb (fNil))) gMax2) ρ (.int (if j > i then j else i)) := Ev.bndA (w := .pu (.int (if j > i then j else i))) (.cons ha (.cons hb .nil)) rfl
theorem for_cons {bind : D → Env → Option Env} {body : Env → RS} {d : D} {r : List D} {ρ ρ1 ρ2 : Env} {o : RS} (b : bind d ρ = some ρ1) (s : body ρ1 = .nx ρ2) (t : forGo bind body r ρ2 = o) : forGo bind body (d :: r) ρ = o := by
  unfold forGo
  rw [b]
  dsimp only
  rw [s]
  exact t
theorem ev_addI {ρ : Env} {fa fb : Env → RE} {i j : Int} (ha : Ev fa ρ (.int i)) (hb : Ev fb ρ (.int j)) : Ev (fOp2 gAdd fa fb) ρ (.int (i + j)) := Ev.op2 (w := .pu (.int (i + j))) ha hb rfl
theorem ev_subI {ρ : Env} {fa fb : Env → RE} {i j : Int} (ha : Ev fa ρ (.int i)) (hb : Ev fb ρ (.int j)) : Ev (fOp2 gSub fa fb) ρ (.int (i - j)) := Ev.op2 (w := .pu (.int (i - j))) ha hb rfl
theorem enumD_eq : ∀ (ds : List D) (k : Nat), enumD k ds = (List.range ds.length).map fun i => .tuple [.int ((k + i : Nat) : Int), ds.getD i .none]
  | [], k => rfl
  | d :: ds, k => by
    rw [List.length_cons, List.range_succ_eq_map, List.map_cons, List.map_map]
    show PyData.tuple [.int (k : Nat), d] :: enumD (k + 1) ds = _
    rw [enumD_eq ds (k + 1)]
    congr 1
    refine List.map_congr_left fun i hi => ?_
    simp only [Function.comp, List.getD_cons_succ]
    rw [show k + 1 + i = k + (i + 1) by omega]
theorem fmod_range {i j : Int} (hj : 0 < j) : 0 ≤ i.fmod j ∧ i.fmod j < j := ⟨Int.fmod_nonneg_of_pos i hj, Int.fmod_lt_of_pos i hj⟩
theorem ev_mod {ρ : Env} {fa fb : Env → RE} {i j : Int} (ha : Ev fa ρ (.int i)) (hb : Ev fb ρ (.int j)) (h : j ≠ 0) : Ev (fOp2 gMod fa fb) ρ (.int (i.fmod j)) := by
  refine Ev.op2 (w := .pu (.int (i.fmod j))) ha hb ?_
  show (if decide (j ≠ 0) then _ else _) = _
  rw [decide_eq_true h]; rfl
theorem ev_mul {ρ : Env} {fa fb : Env → RE} {i j : Int} (ha : Ev fa ρ (.int i)) (hb : Ev fb ρ (.int j)) (h : i.natAbs < 2 ^ 64 ∨ j.natAbs < 2 ^ 64) : Ev (fOp2 gMul fa fb) ρ (.int (i * j)) := by
  refine Ev.op2 (w := .pu (.int (i * j))) ha hb ?_
  show (if cMul i j then some (W.pu (.int (i * j))) else none) = _
  have e : cMul i j = true := by
    unfold cMul
    rcases h with h | h
    · rw [decide_eq_true h]; rfl
    · rw [decide_eq_true h]; simp
  rw [e]; rfl
theorem ev_int {ρ : Env} {fa : Env → RE} {i : Int} (ha : Ev fa ρ (.int i)) : Ev (bndA (fCons fa (fNil)) gInt1) ρ (.int i) := Ev.bndA (w := .pu (.int i)) (.cons ha .nil) rfl
theorem ev_isN {ρ : Env} {fa : Env → RE} {d : D} (ha : Ev fa ρ d) : Ev (fOp2 gIsN fa (fC .none)) ρ (.bool (isNone d)) := Ev.op2 (w := .pu (.bool (isNone d))) ha .k rfl
theorem ev_isB {ρ : Env} {fa : Env → RE} {d : D} {b : Bool} (ha : Ev fa ρ d) : Ev (fOp2 gIsN fa (fC (.bool b))) ρ (.bool (isBl b d)) := Ev.op2 (w := .pu (.bool (isBl b d))) ha .k rfl
theorem ev_isi {ρ : Env} {fa : Env → RE} {d : D} {n : String} (ha : Ev fa ρ d) (h : dOk d = true) : Ev (fOp1 (gIsi n) fa) ρ (.bool (isA n d)) := Ev.op1 (w := .pu (.bool (isA n d))) ha (by unfold gIsi; rw [if_pos h])
theorem ev_isi2 {ρ : Env} {fa : Env → RE} {d : D} {n m : String} (ha : Ev fa ρ d) (h : dOk d = true) : Ev (fOp1 (gIsi2 n m) fa) ρ (.bool (isA n d || isA m d)) := Ev.op1 (w := .pu (.bool (isA n d || isA m d))) ha (by unfold gIsi2; rw [if_pos h])
theorem sFor_ok {src : Env → RI} {bind : D → Env → Option Env} {body : Env → RS} {ρ ρ1 : Env} {items : List D} {o : RS} (hs : src ρ = .ok items ρ1) (h : forGo bind body items ρ1 = o) : sFor src bind body ρ = o := by
  unfold sFor
  rw [hs]
  exact h
theorem ev_notN {ρ : Env} {fa : Env → RE} {d : D} (ha : Ev fa ρ d) : Ev (fOp2 gNotN fa (fC .none)) ρ (.bool (!isNone d)) := Ev.op2 (w := .pu (.bool (!isNone d))) ha .k rfl
theorem nx_ifS {ρ ρ' : Env} {fc : Env → RE} {f : Env → RS} (hc : EvS fc ρ ρ' (.bool false)) : Nx (sIf fc f .nx) ρ ρ' := by
  unfold Nx
  rw [if_s hc]
  rfl
theorem ev_pow {ρ : Env} {fa fb : Env → RE} {i j : Int} (ha : Ev fa ρ (.int i)) (hb : Ev fb ρ (.int j)) (h : cPow i j = true) : Ev (fOp2 gPow fa fb) ρ (.int (i ^ j.toNat)) := by
  refine Ev.op2 (w := .pu (.int (i ^ j.toNat))) ha hb ?_
  show (if cPow i j then some (W.pu (.int (i ^ j.toNat))) else none) = _
  rw [h]; rfl
theorem dOk_cases {d : D} (h : dOk d = true) : (∀ l, d = .dict l → l = []) := fun l e => by
  subst e
  cases l with
  | nil => rfl
  | cons a b => cases h
end DL
/-! B2: rules for lists of ints, great ints. -/
namespace DL
open PySem L2 PyProof.Rows
abbrev iL (ns : List Int) : D := .list (ns.map .int)
abbrev isD (ns : List Int) : List D := ns.map .int
section
variable {ρ : Env} {fa fb fc : Env → RE} {i j : Int} {ns ms : List Int} {d : D}
theorem log2_lt' {n k : Nat} (h : n < 2 ^ k) (hk : 0 < k) : n.log2 < k := by
  by_cases e : n = 0
  · rw [e]; simpa [Nat.log2_zero] using hk
  · exact (Nat.log2_lt e).mpr h
/-- great, but not too great -/
def bk : Nat := 450
def Gt1 (i : Int) : Prop := i.natAbs < 2 ^ bk
theorem gt1_of {i : Int} {k : Nat} (hk : k ≤ 450) (h : i.natAbs < 2 ^ k) : Gt1 i := Nat.lt_of_lt_of_le h (Nat.pow_le_pow_right (by decide) hk)
theorem ev_mulB (ha : Ev fa ρ (.int i)) (hb : Ev fb ρ (.int j)) (hi : Gt1 i) (hj : Gt1 j) : Ev (fOp2 gMul fa fb) ρ (.int (i * j)) := by
  refine Ev.op2 (w := .pu (.int (i * j))) ha hb ?_
  show (if cMul i j then some (W.pu (.int (i * j))) else none) = _
  have e : cMul i j = true := by
    unfold cMul
    have h1 : i.natAbs.log2 < 450 := log2_lt' hi (by decide)
    have h2 : j.natAbs.log2 < 450 := log2_lt' hj (by decide)
    rw [decide_eq_true (show i.natAbs.log2 + j.natAbs.log2 < 1000000 by omega), Bool.or_true]
  rw [e]; rfl
theorem ev_divB (ha : Ev fa ρ (.int i)) (hb : Ev fb ρ (.int j)) (hp : 0 < j) (hj : Gt1 j) : Ev (fOp2 gDiv fa fb) ρ (.int (i / j)) := by
  rw [← Int.fdiv_eq_ediv_of_nonneg _ (Int.le_of_lt hp)]
  refine Ev.op2 (w := .pu (.int (i.fdiv j))) ha hb ?_
  show (if cDiv i j then some (W.pu (.int (i.fdiv j))) else none) = _
  have e : cDiv i j = true := by
    unfold cDiv
    have h2 : j.natAbs.log2 < 450 := log2_lt' hj (by decide)
    rw [decide_eq_true hp, decide_eq_true (show j.natAbs.log2 < 9000 by omega)]
    simp
  rw [e]; rfl
theorem ev_modB (ha : Ev fa ρ (.int i)) (hb : Ev fb ρ (.int j)) (hp : 0 < j) : Ev (fOp2 gMod fa fb) ρ (.int (i % j)) := by
  rw [← Int.fmod_eq_emod_of_nonneg _ (Int.le_of_lt hp)]
  exact ev_mod ha hb (by omega)
theorem ev_neg (ha : Ev fa ρ (.int i)) : Ev (fOp1 gNeg fa) ρ (.int (-i)) := Ev.op1 (w := .pu (.int (-i))) ha rfl
theorem ev_len {ds : List D} (ha : Ev fa ρ (.list ds)) : Ev (bndA (fCons fa (fNil)) gLen) ρ (.int (ds.length : Nat)) := Ev.bndA (w := .pu (.int (ds.length : Nat))) (.cons ha .nil) rfl
theorem ev_lenI (ha : Ev fa ρ (iL ns)) : Ev (bndA (fCons fa (fNil)) gLen) ρ (.int (ns.length : Nat)) := by
  have z := ev_len ha
  rw [List.length_map] at z
  exact z
theorem ev_sum (ha : Ev fa ρ (iL ns)) : Ev (bndA (fCons fa (fNil)) gSum) ρ (.int ns.sum) := Ev.bndA (w := .pu (.int ns.sum)) (.cons ha .nil) (sum_map ns)
theorem at_int {k : Nat} (h : k < ns.length) : (ns.map PyData.int)[k]? = some (.int (ns.getD k 0)) := by
  rw [List.getElem?_map, List.getElem?_eq_getElem h]
  simp [h]
theorem ix_int {k : Nat} (h : k < ns.length) : gIx (iL ns) (.int (k : Nat)) = some (.pu (.int (ns.getD k 0))) := by
  show (atI (ns.map PyData.int) (k : Int)).map W.pu = _
  rw [atI_nat (at_int h)]
  rfl
theorem ev_ixI {k : Nat} (ha : Ev fa ρ (iL ns)) (hb : Ev fb ρ (.int (k : Nat))) (h : k < ns.length) : Ev (fOp2 gIx fa fb) ρ (.int (ns.getD k 0)) := Ev.op2 (w := .pu (.int (ns.getD k 0))) ha hb (ix_int h)
theorem ev_le (ha : Ev fa ρ (.int i)) (hb : Ev fb ρ (.int j)) : Ev (fOp2 gLe fa fb) ρ (.bool (decide (i ≤ j))) := Ev.op2 (w := .pu (.bool (decide (i ≤ j)))) ha hb rfl
theorem ne_intB : gNe (.int i) (.int j) = some (.pu (.bool (!decide (i = j)))) := by
  show gNe0 (.int i) (.int j) = _
  unfold gNe0
  rw [if_pos (show (SeqAt.shaped (.int i) && SeqAt.shaped (.int j)) = true from rfl)]
  congr 3
theorem ev_neI (ha : Ev fa ρ (.int i)) (hb : Ev fb ρ (.int j)) : Ev (fOp2 gNe fa fb) ρ (.bool (!decide (i = j))) := Ev.op2 (w := .pu (.bool (!decide (i = j)))) ha hb ne_intB
theorem ev_mkL {fs : Env → RL} {ds : List D} (hs : EvL fs ρ ds) (h : ds.length ≤ 1000) : Evl (bndA fs gMkL) ρ ds := by
  refine Evl.bndA hs ?_
  show (if ds.length ≤ sizeLine then some (W.frs ds) else none) = _
  rw [if_pos (Nat.le_trans h (by decide))]
theorem ev_mkT {fs : Env → RL} {ds : List D} (hs : EvL fs ρ ds) (h : ds.length ≤ 1000) : Ev (bndA fs gMkT) ρ (.tuple ds) := by
  refine Ev.bndA (w := .pu (.tuple ds)) hs ?_
  show (if ds.length ≤ sizeLine then some (W.pu (.tuple ds)) else none) = _
  rw [if_pos (Nat.le_trans h (by decide))]
theorem Evl.op2 {g : D → D → Option W} {a b : D} {ds : List D} (ha : Ev fa ρ a) (hb : Ev fb ρ b) (h : g a b = some (.frs ds)) : Evl (fOp2 g fa fb) ρ ds := by
  obtain ⟨w, h1, h2⟩ := ha
  obtain ⟨u, h3, h4⟩ := hb
  unfold Evl fOp2 bndE
  rw [h1]
  dsimp only
  rw [h3]
  dsimp only
  rw [h2, h4, h]
  rfl
theorem cutH_take {ds : List D} {n : Nat} (h : n ≤ ds.length) : gCutH (.list ds) (.int (n : Nat)) = some (.frs (ds.take n)) := by
  show some (W.frs (cutD ds none (some ((n : Nat) : Int)))) = _
  unfold cutD
  rw [HT.sIx_none, HT.sIx_nat, Nat.min_eq_left h]
  rfl
theorem cutL_drop {ds : List D} {n : Nat} (h : n ≤ ds.length) : gCutL (.list ds) (.int (n : Nat)) = some (.frs (ds.drop n)) := by
  show some (W.frs (cutD ds (some ((n : Nat) : Int)) none)) = _
  unfold cutD
  rw [HT.sIx_none, HT.sIx_nat, Nat.min_eq_left h]
  congr 2
  rw [← List.length_drop, List.take_length]
/-- the places as ints -/
theorem ev_in {l : List Nat} {k : Nat} (ha : Ev fa ρ (.int (k : Nat))) (hb : Ev fb ρ (.list (l.map fun j => .int (j : Nat)))) : Ev (fOp2 gIn fa fb) ρ (.bool (decide (k ∈ l))) := by
  refine Ev.op2 (w := .pu (.bool (decide (k ∈ l)))) ha hb ?_
  have e : (l.map fun j => PyData.int (j : Nat)) = (l.map fun j => ((j : Nat) : Int)).map .int := by rw [List.map_map]; rfl
  show (match intsOf (l.map fun j => PyData.int (j : Nat)) with
    | some ns => some (W.pu (.bool (ns.contains ((k : Nat) : Int))))
    | none => none) = _
  rw [e, intsOf_map]
  dsimp only
  congr 3
  rw [Bool.eq_iff_iff, List.contains_iff_mem, decide_eq_true_eq, List.mem_map]
  constructor
  · rintro ⟨a, h1, h2⟩
    have : a = k := by omega
    rw [← this]; exact h1
  · exact fun h => ⟨k, h, rfl⟩
theorem ev_intB {b : Bool} (ha : Ev fa ρ (.bool b)) : Ev (bndA (fCons fa (fNil)) gInt1) ρ (.int (if b then 1 else 0)) := Ev.bndA (w := .pu (.int (if b then 1 else 0))) (.cons ha .nil) (by cases b <;> rfl)
/-- sources -/
theorem src_list {ds : List D} (ha : Ev fa ρ (.list ds)) : srcE fa itemsL ρ = .ok ds ρ := srcE_ok ha rfl
theorem enum_int : kEnum [iL ns] = some ((List.range ns.length).map fun k : Nat => .tuple [.int (k : Nat), .int (ns.getD k 0)]) := by
  show some (enumD 0 (ns.map PyData.int)) = _
  rw [enumD_eq, List.length_map]
  congr 1
  refine List.map_congr_left fun i hi => ?_
  rw [Nat.zero_add, List.getD_eq_getElem?_getD, at_int (List.mem_range.mp hi)]
  rfl
theorem src_enum (ha : Ev fa ρ (iL ns)) : srcA (fCons fa (fNil)) kEnum ρ = .ok ((List.range ns.length).map fun k : Nat => .tuple [.int (k : Nat), .int (ns.getD k 0)]) ρ := srcA_ok (.cons ha .nil) enum_int
theorem src_rng {n : Nat} (ha : Ev fa ρ (.int (n : Nat))) (h : n < 2 ^ 62) : srcA (fCons fa (fNil)) kRng1 ρ = .ok ((List.range n).map fun k : Nat => .int (k : Nat)) ρ := srcA_ok (.cons ha .nil) (rng1 h)
theorem ev_eqNil {ds : List D} (ha : Ev fa ρ (.list ds)) (h : ds = []) : Ev (fOp2 gEq fa (bndA (fNil) gMkL)) ρ (.bool true) := by
  subst h
  exact Ev.op2 (w := .pu (.bool true)) ha (Ev.bndA (w := .frs []) .nil rfl) eq_nil
theorem ev_neNil {ds : List D} (ha : Ev fa ρ (.list ds)) (h : ds = []) : Ev (fOp2 gNe fa (bndA (fNil) gMkL)) ρ (.bool false) := by
  subst h
  exact Ev.op2 (w := .pu (.bool false)) ha (Ev.bndA (w := .frs []) .nil rfl) ne_nil
/-- x == [], x a list of plain items -/
theorem ev_isNil {ds : List D} (hs : ∀ d ∈ ds, d.canLay0 = true ∧ d.depth ≤ 10) (ha : Ev fa ρ (.list ds)) : Ev (fOp2 gEq fa (bndA (fNil) gMkL)) ρ (.bool ds.isEmpty) ∧ Ev (fOp2 gNe fa (bndA (fNil) gMkL)) ρ (.bool (!ds.isEmpty)) := by
  have lay : ∀ l : List D, (∀ d ∈ l, d.canLay0 = true ∧ d.depth ≤ 10) → PyData.canLayAll0 l = true ∧ PyData.depthAll l ≤ 10 := by
    intro l
    induction l with
    | nil => intro _; exact ⟨rfl, by simp [PyData.depthAll]⟩
    | cons x l ih =>
      intro h
      obtain ⟨a, b⟩ := ih fun y hy => h y (List.mem_cons_of_mem _ hy)
      obtain ⟨c, e⟩ := h x List.mem_cons_self
      exact ⟨by simp only [PyData.canLayAll0, a, c, Bool.and_self], by simp only [PyData.depthAll]; omega⟩
  obtain ⟨l1, l2⟩ := lay ds hs
  have s1 : SeqAt.shaped (.list ds) = true := by
    unfold SeqAt.shaped
    rw [Bool.and_eq_true, decide_eq_true_eq]
    exact ⟨by simpa [PyData.canLay0] using l1, by simp only [PyData.depth]; omega⟩
  have e : PyData.eqv (.list ds) (.list []) = ds.isEmpty := by
    cases ds <;> rfl
  constructor
  · refine Ev.op2 (w := .pu (.bool ds.isEmpty)) ha (Ev.bndA (w := .frs []) .nil rfl) ?_
    show gEq0 (.list ds) (.list []) = _
    unfold gEq0
    rw [s1, e]
    rfl
  · refine Ev.op2 (w := .pu (.bool (!ds.isEmpty))) ha (Ev.bndA (w := .frs []) .nil rfl) ?_
    show gNe0 (.list ds) (.list []) = _
    unfold gNe0
    rw [s1, e]
    rfl
theorem FrL.of {F : List Sl → RF} {ds es : List D} (h : FrL F ds es) {es2 : List D} (e : es = es2) : FrL F ds es2 := e ▸ h
end
end DL
/-! B3: texts. -/
namespace K65
open PySem L2 PyProof.Rows DL TL
abbrev Sb (p x : Str) : Prop := (tl p).Sublist (tl x)
theorem Sb.len {p x : Str} (h : Sb p x) : p.length ≤ x.length := by
  rw [len_tl, len_tl]; exact h.length_le
theorem Sb.mem {p x : Str} (h : Sb p x) {c : Nat} (hc : c ∈ tl p) : c ∈ tl x := h.subset hc
theorem Sb.trans {p q x : Str} (h : Sb p q) (h2 : Sb q x) : Sb p x := List.Sublist.trans h h2
theorem spl_sub (S : List Nat) : ∀ (l : List Nat) (k : Nat) (acc : List Nat) (p : List Nat), p ∈ spl S k acc l → p.Sublist (acc ++ l)
  | [], k, acc, p, h => by
    rw [spl_nil] at h
    rw [List.mem_singleton.mp h, List.append_nil]
    exact List.Sublist.refl _
  | c :: r, 0, acc, p, h => by
    have e : spl S 0 acc (c :: r) = if pre S (c :: r) = true then acc :: spl S (S.length - 1) [] r else spl S 0 (acc ++ [c]) r := rfl
    rw [e] at h
    split at h
    · rcases List.mem_cons.mp h with z | z
      · rw [z]; exact List.sublist_append_left _ _
      · have := spl_sub S r _ [] p z
        rw [List.nil_append] at this
        exact this.trans ((List.sublist_cons_self c r).trans (List.sublist_append_right _ _))
    · have := spl_sub S r _ _ p h
      rw [List.append_assoc] at this
      exact this
  | c :: r, k + 1, acc, p, h => by
    have := spl_sub S r k acc p h
    exact this.trans (List.Sublist.append (List.Sublist.refl _) (List.sublist_cons_self c r))
theorem wst_sub : ∀ (l : List Nat) (ws : List (List Nat)) (u p : List Nat), p ∈ wfin (l.foldl wstep (ws, u)) → p ∈ ws ∨ p.Sublist (u ++ l)
  | [], ws, u, p, h => by
    have e : wfin (ws, u) = if u = [] then ws else ws ++ [u] := rfl
    rw [List.foldl_nil, e] at h
    split at h
    · exact .inl h
    · rcases List.mem_append.mp h with z | z
      · exact .inl z
      · rw [List.mem_singleton.mp z, List.append_nil]; exact .inr (List.Sublist.refl _)
  | c :: r, ws, u, p, h => by
    rw [List.foldl_cons] at h
    have e : wstep (ws, u) c = if Unicode.isSpace c = true then (if u = [] then (ws, u) else (ws ++ [u], [])) else (ws, u ++ [c]) := rfl
    rw [e] at h
    split at h
    · split at h
      · rcases wst_sub r _ _ p h with z | z
        · exact .inl z
        · exact .inr (z.trans (List.Sublist.append (List.Sublist.refl _) (List.sublist_cons_self c r)))
      · rcases wst_sub r _ _ p h with z | z
        · rcases List.mem_append.mp z with y | y
          · exact .inl y
          · rw [List.mem_singleton.mp y]; exact .inr (List.sublist_append_left _ _)
        · rw [List.nil_append] at z
          exact .inr (z.trans ((List.sublist_cons_self c r).trans (List.sublist_append_right _ _)))
    · rcases wst_sub r _ _ p h with z | z
      · exact .inl z
      · rw [List.append_assoc] at z; exact .inr z
theorem split_sub {x y : Str} (hy : tl y ≠ []) (hk : y.cps.all (· < 256) = true) {p : Str} (h : p ∈ Txt.split x y) : Sb p x := by
  have h2 : tl p ∈ (Txt.split x y).map tl := List.mem_map_of_mem h
  rw [split_spl x y hy (kind_ok hk)] at h2
  have := spl_sub _ _ _ _ _ h2
  rwa [List.nil_append] at this
theorem words_sub {x p : Str} (h : p ∈ Txt.words x) : Sb p x := by
  have h2 : tl p ∈ (Txt.words x).map tl := List.mem_map_of_mem h
  rw [words_tl] at h2
  rcases wst_sub _ _ _ _ h2 with z | z
  · exact absurd z (by simp)
  · rwa [List.nil_append] at z
theorem spl_len (S : List Nat) : ∀ (l : List Nat) (k : Nat) (acc : List Nat), (spl S k acc l).length ≤ l.length + 1
  | [], k, acc => by rw [spl_nil]; simp
  | c :: r, 0, acc => by
    have e : spl S 0 acc (c :: r) = if pre S (c :: r) = true then acc :: spl S (S.length - 1) [] r else spl S 0 (acc ++ [c]) r := rfl
    rw [e]
    split
    · have := spl_len S r (S.length - 1) []
      simp only [List.length_cons]; omega
    · have := spl_len S r 0 (acc ++ [c])
      simp only [List.length_cons]; omega
  | c :: r, k + 1, acc => by
    have := spl_len S r k acc
    show (spl S k acc r).length ≤ _
    simp only [List.length_cons]; omega
theorem split_len {x y : Str} (hy : tl y ≠ []) (hk : y.cps.all (· < 256) = true) : (Txt.split x y).length ≤ x.length + 1 := by
  have := congrArg List.length (split_spl x y hy (kind_ok hk))
  rw [List.length_map] at this
  rw [this, len_tl]
  exact spl_len _ _ _ _
theorem tl_stripped (x : Str) : tl (stripped Unicode.isSpace true true x) = ((tl x).drop (stripLo Unicode.isSpace true x)).take (stripHi Unicode.isSpace true x (stripLo Unicode.isSpace true x) - stripLo Unicode.isSpace true x) := tl_strSub _ _ _
theorem strip_sub (x : Str) : Sb (Txt.strip x) x := by
  unfold Txt.strip Txt.stripBy
  split
  · exact List.Sublist.refl _
  · show (tl _).Sublist _
    rw [tl_stripped]
    exact (List.take_sublist _ _).trans (List.drop_sublist _ _)
def noSp (l : List Nat) : Prop := ∀ c ∈ l, Unicode.isSpace c = false
theorem sp32 : Unicode.isSpace 32 = true := by decide +kernel
theorem takeW_pad {k : Nat} {l : List Nat} (h : noSp l) : (List.replicate k 32 ++ l).takeWhile Unicode.isSpace = List.replicate k 32 := by
  induction k with
  | zero =>
    rw [List.replicate_zero, List.nil_append]
    cases l with
    | nil => rfl
    | cons c r =>
      rw [List.takeWhile_cons, h c List.mem_cons_self]
      rfl
  | succ k ih =>
    rw [List.replicate_succ, List.cons_append, List.takeWhile_cons, sp32]
    simp only [if_true]
    rw [ih]
theorem takeW_none {l : List Nat} (h : noSp l) : l.reverse.takeWhile Unicode.isSpace = [] := by
  have h2 : noSp l.reverse := fun c hc => h c (List.mem_reverse.mp hc)
  cases e : l.reverse with
  | nil => rfl
  | cons c r =>
    rw [List.takeWhile_cons, h2 c (by rw [e]; exact List.mem_cons_self)]
    rfl
theorem strip_pad {x p : Str} {k : Nat} (e : tl x = List.replicate k 32 ++ tl p) (h : noSp (tl p)) : Txt.strip x = p := by
  have lo : stripLo Unicode.isSpace true x = k := by
    unfold stripLo
    rw [if_pos rfl]
    show ((tl x).takeWhile _).length = k
    rw [e, takeW_pad h, List.length_replicate]
  have hi : stripHi Unicode.isSpace true x k = x.length := by
    unfold stripHi
    rw [if_pos rfl]
    show x.length - (((tl x).drop k).reverse.takeWhile _).length = _
    rw [e]
    have : (List.replicate k 32 ++ tl p).drop k = tl p := by
      have := List.drop_left (l₁ := List.replicate k 32) (l₂ := tl p)
      rwa [List.length_replicate] at this
    rw [this, takeW_none h, List.length_nil, Nat.sub_zero]
  unfold Txt.strip Txt.stripBy
  split
  · rename_i c
    unfold stripSame at c
    rw [lo, hi, Bool.and_eq_true, beq_iff_eq] at c
    refine ext_tl ?_
    rw [e, c.1]
    rfl
  · refine ext_tl ?_
    rw [tl_stripped, lo, hi, len_tl, e]
    have : (List.replicate k 32 ++ tl p).drop k = tl p := by
      have := List.drop_left (l₁ := List.replicate k 32) (l₂ := tl p)
      rwa [List.length_replicate] at this
    rw [this, List.length_append, List.length_replicate, Nat.add_sub_cancel_left, List.take_length]
theorem cutS_tl (z : Str) (lo hi : Option Int) : tl (cutS z lo hi) = ((tl z).drop (HT.sIx z.length 0 lo)).take (HT.sIx z.length z.length hi - HT.sIx z.length 0 lo) := rfl
theorem cut_sub (z : Str) (lo hi : Option Int) : Sb (cutS z lo hi) z := by
  show (tl _).Sublist _
  rw [cutS_tl]
  exact (List.take_sublist _ _).trans (List.drop_sublist _ _)
theorem cut_tail {z : Str} (h : 0 < z.length) : tl (cutS z (some 1) none) = (tl z).tail := by
  rw [cutS_tl, show HT.sIx z.length 0 (some 1) = min 1 z.length from HT.sIx_nat _ _ 1, HT.sIx_none, Nat.min_eq_left (by omega), List.drop_one, List.take_of_length_le]
  rw [List.length_tail, ← len_tl]
  omega
theorem starts_tl {x y : Str} : Txt.startswith x y = (decide (y.length ≤ x.length) && ((tl x).take y.length == tl y)) := by
  unfold Txt.startswith
  rw [Nat.zero_add, PySem.StrLaws.subAt_eq, List.drop_zero]
theorem starts_one {x : Str} {c : Nat} : Txt.startswith x ⟨#[c]⟩ = ((tl x).head? == some c) := by
  rw [starts_tl, len_tl]
  show (decide (1 ≤ (tl x).length) && ((tl x).take 1 == [c])) = _
  cases tl x with
  | nil => rfl
  | cons a r => simp
theorem ends_one {x : Str} {c : Nat} : Txt.endswith x ⟨#[c]⟩ = ((tl x).getLast? == some c) := by
  unfold Txt.endswith
  rw [Nat.zero_add, PySem.StrLaws.subAt_eq, len_tl]
  show (decide (1 ≤ (tl x).length) && (((tl x).drop ((tl x).length - 1)).take 1 == [c])) = _
  rcases List.eq_nil_or_concat (tl x) with e | ⟨r, a, e⟩
  · rw [e]; rfl
  · rw [e]
    simp
/-! ### numbers -/
theorem tl_int (i : Int) : tl (Str.ofString (toString i)) = if i < 0 then 45 :: numL i.natAbs else numL i.natAbs := by
  split
  · rename_i h
    obtain ⟨n, rfl⟩ : ∃ n : Nat, i = -((n + 1 : Nat) : Int) := ⟨i.natAbs - 1, by omega⟩
    have e : toString (-((n + 1 : Nat) : Int)) = "-" ++ toString (n + 1) := rfl
    rw [e, tl_ofString]
    have e2 : (-((n + 1 : Nat) : Int)).natAbs = n + 1 := by omega
    rw [e2, ← tl_num, tl_ofString]
    show ("-" ++ toString (n + 1)).toList.map Char.toNat = 45 :: (toString ((n + 1 : Nat) : Int)).toList.map Char.toNat
    have e3 : toString ((n + 1 : Nat) : Int) = toString (n + 1) := rfl
    rw [e3, String.toList_append, List.map_append]
    rfl
  · rename_i h
    obtain ⟨n, rfl⟩ := Int.eq_ofNat_of_zero_le (by omega : 0 ≤ i)
    rw [tl_num]
    rfl
end K65
/-! B4: what a drawing is, in plain lists. -/
namespace K65
open PySem L2 PyProof.Rows DL TL
abbrev nilS : Str := ""
abbrev numS (i : Int) : Str := toString i
theorem tl_numS (i : Int) : tl (numS i) = if i < 0 then 45 :: numL i.natAbs else numL i.natAbs := tl_int i
def sumsS (tab : List (List Int)) (c : Nat) : List Int := (List.range c).map fun k => (tab.map fun r => r.getD k 0).sum
def rowS (h : Str) (r : List Int) : List Str := ([h] ++ r.map numS) ++ [numS r.sum]
def wordsS (tab : List (List Int)) (rn cn : List Str) : List (List Str) :=
  ((([nilS] ++ cn) ++ [("all" : Str)]) :: ((List.range tab.length).map fun k => rowS (rn.getD k nilS) (tab.getD k []))) ++ [rowS "all" (sumsS tab (tab.getD 0 []).length)]
def widS (ws : List (List Str)) (k : Nat) : Int := maxI (ws.map fun r => ((r.getD k nilS).length : Int))
def padS (ws : List (List Str)) (r : List Str) (k : Nat) : Str := strRep " " (widS ws k - ((r.getD k nilS).length : Int)) ++ r.getD k nilS
def midS (ws : List (List Str)) (r : List Str) : List Str := (List.range (r.length - 2)).map fun k => padS ws r (k + 1)
def lineS (ws : List (List Str)) (r : List Str) : Str := (((padS ws r 0 ++ (" | " : Str)) ++ Txt.join " " (midS ws r)) ++ (" | " : Str)) ++ padS ws r (r.length - 1)
def textS (ws : List (List Str)) : Str := Txt.join "" (ws.map fun r => lineS ws r ++ ("\n" : Str))
def drawS (tab : List (List Int)) (rn cn : List Str) : Str := textS (wordsS tab rn cn)
/-! ### signs -/
theorem fold_tl : ∀ (l : List (Array Nat)) (a : Array Nat), (l.foldl (· ++ ·) a).toList = a.toList ++ (l.map (·.toList)).flatten
  | [], a => by simp
  | b :: l, a => by
    rw [List.foldl_cons, fold_tl l, Array.toList_append, List.map_cons, List.flatten_cons, List.append_assoc]
theorem rep_flat (n c : Nat) : (List.replicate n [c]).flatten = List.replicate n c := by
  induction n with
  | zero => rfl
  | succ n ih => rw [List.replicate_succ, List.flatten_cons, ih]; rfl
theorem tl_rep (n : Int) : tl (strRep " " n) = List.replicate n.toNat 32 := by
  unfold strRep
  by_cases h1 : n < 1
  · rw [if_pos h1, show n.toNat = 0 by omega]; rfl
  · rw [if_neg h1]
    by_cases h2 : (n == 1 || Str.length " " == 0) = true
    · rw [if_pos h2]
      have : n = 1 := by
        rw [Bool.or_eq_true, beq_iff_eq] at h2
        rcases h2 with h | h
        · exact h
        · exact absurd h (by decide)
      subst this
      decide
    · rw [if_neg h2]
      show ((List.replicate n.toNat (Str.cps " ")).foldl (· ++ ·) #[]).toList = _
      rw [fold_tl, List.map_replicate]
      exact rep_flat _ _
theorem tl_pad (ws : List (List Str)) (r : List Str) (k : Nat) : tl (padS ws r k) = List.replicate (widS ws k - ((r.getD k nilS).length : Int)).toNat 32 ++ tl (r.getD k nilS) := by
  unfold padS
  rw [tl_append, tl_rep]
def barL : List Nat := [32, 124, 32]
theorem tl_bar : tl (" | " : Str) = barL := by decide +kernel
theorem tl_sp : tl (" " : Str) = [32] := by decide +kernel
theorem tl_nl : tl ("\n" : Str) = [10] := by decide +kernel
theorem tl_line (ws : List (List Str)) (r : List Str) : tl (lineS ws r) = tl (padS ws r 0) ++ (barL ++ (joinL [32] ((midS ws r).map tl) ++ (barL ++ tl (padS ws r (r.length - 1))))) := by
  unfold lineS
  rw [tl_append, tl_append, tl_append, tl_append, tl_bar, join_eq, tl_join, tl_sp, List.append_assoc, List.append_assoc, List.append_assoc]
theorem joinL_nil : ∀ ps : List (List Nat), joinL [] ps = ps.flatten
  | [] => rfl
  | [p] => by simp [joinL]
  | p :: q :: r => by
    show p ++ ([] ++ joinL [] (q :: r)) = _
    rw [joinL_nil (q :: r)]
    rfl
theorem tl_text (ws : List (List Str)) : tl (textS ws) = (ws.map fun r => tl (lineS ws r) ++ [10]).flatten := by
  unfold textS
  rw [join_eq, tl_join, show tl ("" : Str) = [] from rfl, joinL_nil, List.map_map]
  congr 1
  refine List.map_congr_left fun r _ => ?_
  show tl (lineS ws r ++ ("\n" : Str)) = _
  rw [tl_append, tl_nl]
/-! ### reading back -/
def partsS (line : Str) : Option (List Str) :=
  if (Txt.split line " | ").length = 3 then some (([Txt.strip ((Txt.split line " | ").getD 0 nilS)] ++ Txt.words ((Txt.split line " | ").getD 1 nilS)) ++ [Txt.strip ((Txt.split line " | ").getD 2 nilS)]) else none
def endedS (x : Str) : Option (List Str) := if Txt.endswith x "\n" then some (Txt.split x "\n").dropLast else none
theorem bar_free {p q : List Nat} (h : 124 ∉ p) (hq : q[0]? ≠ some 124) : ∀ i, i < p.length → pre barL ((p ++ q).drop i) = false := fun i hi => by
  refine Bool.eq_false_iff.mpr fun z => ?_
  unfold pre at z
  rw [beq_iff_eq] at z
  have e1 : (((p ++ q).drop i).take barL.length)[1]? = some 124 := by rw [z]; rfl
  rw [List.getElem?_take_of_lt (by decide), List.getElem?_drop] at e1
  by_cases c : i + 1 < p.length
  · rw [List.getElem?_append_left c] at e1
    exact h (List.mem_of_getElem? e1)
  · rw [List.getElem?_append_right (by omega), show i + 1 - p.length = 0 by omega] at e1
    exact hq e1
theorem spl_bars {a b c : List Nat} (ha : 124 ∉ a) (hb : 124 ∉ b) (hc : 124 ∉ c) : spl barL 0 [] (a ++ (barL ++ (b ++ (barL ++ c)))) = [a, b, c] := by
  rw [spl_part (by decide) (bar_free ha (by simp [barL])), spl_part (by decide) (bar_free hb (by simp [barL])), spl_last (p := c) fun i hi => by
    have := bar_free (p := c) (q := []) hc (by simp) i hi
    rwa [List.append_nil] at this]
  rfl
theorem wfold_sp (ws : List (List Nat)) : ∀ k : Nat, (List.replicate k 32).foldl wstep (ws, []) = (ws, [])
  | 0 => rfl
  | k + 1 => by
    rw [List.replicate_succ, List.foldl_cons]
    have e : wstep (ws, []) 32 = (ws, []) := (if_pos sp32).trans (if_pos rfl)
    rw [e, wfold_sp ws k]
theorem wfold_pads : ∀ (qs : List (Nat × List Nat)) (ws : List (List Nat)), qs ≠ [] → (∀ q ∈ qs, q.2 ≠ [] ∧ noSp q.2) → wfin ((joinL [32] (qs.map fun q : Nat × List Nat => List.replicate q.1 32 ++ q.2)).foldl wstep (ws, [])) = ws ++ qs.map (·.2)
  | [], _, h, _ => absurd rfl h
  | [p], ws, _, h => by
    obtain ⟨h1, h2⟩ := h p List.mem_cons_self
    show wfin ((List.replicate p.1 32 ++ p.2).foldl wstep (ws, [])) = _
    rw [List.foldl_append, wfold_sp, wfold_word p.2 ws [] h2, List.nil_append]
    exact if_neg h1
  | p :: q :: r, ws, _, h => by
    obtain ⟨h1, h2⟩ := h p List.mem_cons_self
    show wfin (((List.replicate p.1 32 ++ p.2) ++ ([32] ++ joinL [32] ((q :: r).map fun q : Nat × List Nat => List.replicate q.1 32 ++ q.2))).foldl wstep (ws, [])) = _
    rw [List.foldl_append, List.foldl_append, List.foldl_append, wfold_sp, wfold_word p.2 ws [] h2, List.nil_append]
    have e : [32].foldl wstep (ws, p.2) = (ws ++ [p.2], []) := by
      have a : wstep (ws, p.2) 32 = (if p.2 = [] then (ws, p.2) else (ws ++ [p.2], [])) := if_pos sp32
      exact a.trans (if_neg h1)
    rw [e, wfold_pads (q :: r) (ws ++ [p.2]) (by simp) fun z hz => h z (List.mem_cons_of_mem _ hz), List.append_assoc]
    rfl
/-- a word of a drawing -/
structure Wd (x : Str) : Prop where
  sp : noSp (tl x)
  bar : 124 ∉ tl x
  nl : 10 ∉ tl x
  lo : ∀ c ∈ tl x, c < 128
theorem rep_mem {k c d : Nat} (h : d ∈ List.replicate k c) : d = c := List.eq_of_mem_replicate h
theorem pad_free {ws : List (List Str)} {r : List Str} {k c : Nat} (h : c ∉ tl (r.getD k nilS)) (hc : c ≠ 32) : c ∉ tl (padS ws r k) := by
  rw [tl_pad, List.mem_append]
  rintro (z | z)
  · exact hc (rep_mem z)
  · exact h z
theorem joinL_free {c : Nat} (hc : c ≠ 32) : ∀ ps : List (List Nat), (∀ p ∈ ps, c ∉ p) → c ∉ joinL [32] ps
  | [], _ => by simp [joinL]
  | [p], h => h p List.mem_cons_self
  | p :: q :: r, h => by
    show c ∉ p ++ ([32] ++ joinL [32] (q :: r))
    rw [List.mem_append, List.mem_append]
    rintro (z | z | z)
    · exact h p List.mem_cons_self z
    · exact hc (List.mem_singleton.mp z)
    · exact joinL_free hc (q :: r) (fun y hy => h y (List.mem_cons_of_mem _ hy)) z
theorem tl_nil : tl nilS = [] := rfl
theorem wd_nil : Wd nilS := by
  refine ⟨fun c hc => ?_, ?_, ?_, fun c hc => ?_⟩
  · rw [tl_nil] at hc; cases hc
  · rw [tl_nil]; simp
  · rw [tl_nil]; simp
  · rw [tl_nil] at hc; cases hc
theorem wd_at {r : List Str} (h : ∀ w ∈ r, Wd w) (k : Nat) : Wd (r.getD k nilS) := by
  rw [List.getD_eq_getElem?_getD]
  cases e : r[k]? with
  | none => exact wd_nil
  | some w => exact h w (List.mem_of_getElem? e)
theorem line_free {ws : List (List Str)} {r : List Str} (h : ∀ w ∈ r, Wd w) : 10 ∉ tl (lineS ws r) := by
  rw [tl_line]
  have p := fun k => pad_free (ws := ws) (r := r) (k := k) (wd_at h k).nl (by decide)
  have b : (10 : Nat) ∉ barL := by decide
  simp only [List.mem_append]
  rintro (z | z | z | z | z)
  · exact p _ z
  · exact b z
  · refine joinL_free (by decide) _ (fun q hq => ?_) z
    obtain ⟨w, hw, rfl⟩ := List.mem_map.mp hq
    obtain ⟨k, _, rfl⟩ := List.mem_map.mp hw
    exact p _
  · exact b z
  · exact p _ z
theorem parts_line {ws : List (List Str)} {r : List Str} (h : ∀ w ∈ r, Wd w) (hl : 3 ≤ r.length) (hm : ∀ k, 1 ≤ k → k + 1 < r.length → r.getD k nilS ≠ nilS) : partsS (lineS ws r) = some r := by
  have p := fun k => pad_free (ws := ws) (r := r) (k := k) (wd_at h k).bar (by decide)
  have hb : 124 ∉ joinL [32] ((midS ws r).map tl) := joinL_free (by decide) _ fun q hq => by
    obtain ⟨w, hw, rfl⟩ := List.mem_map.mp hq
    obtain ⟨k, _, rfl⟩ := List.mem_map.mp hw
    exact p _
  have kb : ((" | " : Str).cps.all (· < 256)) = true := by decide +kernel
  have e : (Txt.split (lineS ws r) " | ").map tl = [padS ws r 0, Txt.join " " (midS ws r), padS ws r (r.length - 1)].map tl := by
    rw [split_spl _ _ (by rw [tl_bar]; decide) (kind_ok kb), tl_bar, tl_line, spl_bars (p _) hb (p _)]
    show _ = [tl (padS ws r 0), tl (Txt.join " " (midS ws r)), tl (padS ws r (r.length - 1))]
    rw [join_eq, tl_join, tl_sp]
  have e2 := map_tl_inj e
  unfold partsS
  rw [e2, if_pos (show [padS ws r 0, Txt.join " " (midS ws r), padS ws r (r.length - 1)].length = 3 from rfl)]
  congr 1
  have s : ∀ k, Txt.strip (padS ws r k) = r.getD k nilS := fun k => strip_pad (tl_pad ws r k) (wd_at h k).sp
  show [Txt.strip (padS ws r 0)] ++ Txt.words (Txt.join " " (midS ws r)) ++ [Txt.strip (padS ws r (r.length - 1))] = r
  have w : Txt.words (Txt.join " " (midS ws r)) = (List.range (r.length - 2)).map fun k => r.getD (k + 1) nilS := by
    refine map_tl_inj ?_
    rw [words_tl, join_eq, tl_join, tl_sp]
    unfold midS
    rw [List.map_map]
    have q := wfold_pads ((List.range (r.length - 2)).map fun k => ((widS ws (k + 1) - ((r.getD (k + 1) nilS).length : Int)).toNat, tl (r.getD (k + 1) nilS))) [] (by
      intro z
      have := congrArg List.length z
      rw [List.length_map, List.length_range, List.length_nil] at this
      omega) fun q hq => by
      obtain ⟨k, hk, rfl⟩ := List.mem_map.mp hq
      have hk := List.mem_range.mp hk
      exact ⟨fun z => hm (k + 1) (by omega) (by omega) (ext_tl z), (wd_at h _).sp⟩
    rw [List.map_map, List.map_map, List.nil_append] at q
    rw [List.map_map]
    refine Eq.trans (congrArg (fun z => wfin (z.foldl wstep ([], []))) (congrArg (joinL [32]) (List.map_congr_left fun k _ => ?_))) q
    exact tl_pad ws r (k + 1)
  rw [s, s, w]
  refine List.ext_getElem? fun i => ?_
  have g : ∀ j, j < r.length → some (r.getD j nilS) = r[j]? := fun j hj => by
    rw [List.getD_eq_getElem?_getD, List.getElem?_eq_getElem hj]
    rfl
  rcases Nat.lt_trichotomy i (r.length - 1) with c | c | c
  · rw [List.getElem?_append_left (by simp; omega)]
    cases i with
    | zero => exact g 0 (by omega)
    | succ i =>
      show ((List.range (r.length - 2)).map fun k => r.getD (k + 1) nilS)[i]? = _
      rw [List.getElem?_map, List.getElem?_range (by omega)]
      exact g (i + 1) (by omega)
  · subst c
    rw [List.getElem?_append_right (by simp; omega)]
    have : r.length - 1 - ([r.getD 0 nilS] ++ (List.range (r.length - 2)).map fun k => r.getD (k + 1) nilS).length = 0 := by simp; omega
    rw [this]
    exact g _ (by omega)
  · rw [List.getElem?_eq_none (by simp; omega), List.getElem?_eq_none (by omega)]
theorem spl_lines : ∀ ls : List (List Nat), (∀ l ∈ ls, 10 ∉ l) → spl [10] 0 [] (ls.map fun l => l ++ [10]).flatten = ls ++ [[]]
  | [], _ => rfl
  | l :: ls, h => by
    rw [List.map_cons, List.flatten_cons, List.append_assoc]
    have := spl_part1 (S := []) (rest := (ls.map fun l => l ++ [10]).flatten) (acc := []) (h l List.mem_cons_self)
    refine Eq.trans this ?_
    rw [spl_lines ls fun y hy => h y (List.mem_cons_of_mem _ hy)]
    rfl
theorem ended_text {ws : List (List Str)} (h : ∀ r ∈ ws, ∀ w ∈ r, Wd w) (hn : ws ≠ []) : endedS (textS ws) = some (ws.map (lineS ws)) := by
  have kb : (("\n" : Str).cps.all (· < 256)) = true := by decide +kernel
  have e : Txt.split (textS ws) "\n" = ws.map (lineS ws) ++ [nilS] := by
    refine map_tl_inj ?_
    rw [split_spl _ _ (by rw [tl_nl]; decide) (kind_ok kb), tl_nl, tl_text]
    have := spl_lines (ws.map fun r => tl (lineS ws r)) fun l hl => by
      obtain ⟨r, hr, rfl⟩ := List.mem_map.mp hl
      exact line_free (h r hr)
    rw [List.map_map] at this
    refine Eq.trans this ?_
    rw [List.map_append, List.map_map]
    rfl
  have g : Txt.endswith (textS ws) "\n" = true := by
    refine (ends_one (x := textS ws) (c := 10)).trans ?_
    rw [tl_text, beq_iff_eq]
    rcases List.eq_nil_or_concat ws with z | ⟨r, a, z⟩
    · exact absurd z hn
    · generalize hf : (fun r => tl (lineS ws r) ++ [10]) = f
      have : f a = tl (lineS ws a) ++ [10] := by rw [← hf]
      rw [z, List.concat_eq_append, List.map_append, List.flatten_append]
      simp [this]
  unfold endedS
  rw [if_pos g, e, List.dropLast_concat]
end K65
/-! B5: what a reading is, in plain lists; a drawing read back. -/
namespace K65
open PySem L2 PyProof.Rows DL TL
abbrev figS : Str := "0123456789"
abbrev letS : Str := "abcdefghijklmnopqrstuvwxyz"
def notIn (z : Str) (c : Nat) : Bool := !decide (c ∈ tl z)
def badC (w : Str) : Bool := decide (w = nilS) || (decide ((60 : Int) < (w.length : Nat)) || !((tl w).filter (notIn figS)).isEmpty)
def headS (w : Str) : Str := ⟨#[(tl w).headD 0]⟩
def readCountS (w : Str) : Option Int := if badC w then none else if decide (w = "0") || !decide (headS w = "0") then PySem.intText? w else none
def readWholeS (w : Str) : Option Int := if Txt.startswith w "-" then (match readCountS (cutS w (some 1) none) with
  | none => none
  | some n => if n = 0 then none else some (-n)) else readCountS w
def isGridS (t : List (List (Option Int))) : Bool :=
  !t.isEmpty && ((t.filter fun r => r.isEmpty || !decide ((r.length : Int) = ((t.getD 0 []).length : Nat))).isEmpty && !decide ((60 : Int) < (t.length : Nat) * ((t.getD 0 []).length : Nat))) && (t.flatten.filter fun o => o.isNone).isEmpty
def isNameS (n : Str) : Bool := (decide ((1 : Int) ≤ (n.length : Nat)) && decide (((n.length : Nat) : Int) ≤ 12)) && ((tl n).filter (notIn letS)).isEmpty
def areNamesS (ns : List Str) (many : Int) : Bool := decide (((ns.length : Nat) : Int) = many) && (ns.filter fun n => !isNameS n).isEmpty && ((ns.filter fun n => decide ((1 : Int) < ((ns.countP fun z => z == n : Nat) : Int))).isEmpty && !(ns.any fun z => z == ("all" : Str)))
def rowsOf (x : Str) : List (Option (List Str)) := match endedS x with
  | none => []
  | some ls => ls.map partsS
def tabO (R : List (List Str)) : List (List (Option Int)) := R.tail.dropLast.map fun r => r.tail.dropLast.map readWholeS
def rnO (R : List (List Str)) : List Str := R.tail.dropLast.map fun r => r.getD 0 nilS
def cnO (R : List (List Str)) : List Str := (R.getD 0 []).tail.dropLast
def okO (R : List (List Str)) : Bool := isGridS (tabO R) && (areNamesS (rnO R) ((tabO R).length : Nat) && areNamesS (cnO R) (((tabO R).getD 0 []).length : Nat))
def sameO (R : List (List Str)) : Bool := (R.filter fun r => !decide (((r.length : Nat) : Int) = ((R.getD 0 []).length : Nat))).isEmpty
def valO (t : List (List (Option Int))) : List (List Int) := t.map fun r => r.map fun o => o.getD 0
/-! ### valid grids -/
structure Gd (tab : List (List Int)) (rn cn : List Str) : Prop where
  rows : 0 < tab.length
  cols : 0 < (tab.getD 0 []).length
  same : ∀ r ∈ tab, r.length = (tab.getD 0 []).length
  size : tab.length * (tab.getD 0 []).length ≤ 60
  ent : ∀ r ∈ tab, ∀ i ∈ r, i.natAbs < 10 ^ 60
  nr : areNamesS rn (tab.length : Nat) = true
  nc : areNamesS cn ((tab.getD 0 []).length : Nat) = true
theorem isE {α : Type} {p : α → Bool} {l : List α} : (l.filter p).isEmpty = true ↔ ∀ x ∈ l, p x = false := by
  rw [List.isEmpty_iff, List.filter_eq_nil_iff]
  constructor
  · intro h x hx
    exact Bool.eq_false_iff.mpr (h x hx)
  · intro h x hx
    rw [h x hx]; exact Bool.false_ne_true
theorem names_len {ns : List Str} {n : Nat} (h : areNamesS ns (n : Nat) = true) : ns.length = n := by
  unfold areNamesS at h
  simp only [Bool.and_eq_true, decide_eq_true_eq] at h
  omega
theorem names_name {ns : List Str} {n : Int} (h : areNamesS ns n = true) : ∀ x ∈ ns, isNameS x = true := by
  unfold areNamesS at h
  simp only [Bool.and_eq_true] at h
  intro x hx
  have := isE.mp h.1.2 x hx
  simpa using this
theorem tl_let : tl letS = [97, 98, 99, 100, 101, 102, 103, 104, 105, 106, 107, 108, 109, 110, 111, 112, 113, 114, 115, 116, 117, 118, 119, 120, 121, 122] := by decide +kernel
theorem tl_fig : tl figS = [48, 49, 50, 51, 52, 53, 54, 55, 56, 57] := by decide +kernel
theorem name_signs {x : Str} (h : isNameS x = true) : ∀ c ∈ tl x, 97 ≤ c ∧ c ≤ 122 := by
  unfold isNameS at h
  rw [Bool.and_eq_true] at h
  intro c hc
  have := isE.mp h.2 c hc
  unfold notIn at this
  simp only [Bool.not_eq_eq_eq_not, Bool.not_false, decide_eq_true_eq] at this
  rw [tl_let] at this
  simp only [List.mem_cons, List.not_mem_nil, or_false] at this
  omega
theorem name_len {x : Str} (h : isNameS x = true) : 1 ≤ x.length ∧ x.length ≤ 12 := by
  unfold isNameS at h
  simp only [Bool.and_eq_true, decide_eq_true_eq] at h
  omega
theorem wd_of {x : Str} (h : ∀ c ∈ tl x, 33 ≤ c ∧ c < 124) : Wd x := by
  refine ⟨fun c hc => ?_, fun z => ?_, fun z => ?_, fun c hc => ?_⟩
  · have := h c hc
    exact PySem.W.KXs.no_space c (by omega) this.1
  · have := h _ z; omega
  · have := h _ z; omega
  · have := h c hc; omega
theorem wd_name {x : Str} (h : isNameS x = true) : Wd x := wd_of fun c hc => by
  have := name_signs h c hc; omega
theorem num_signs (i : Int) : ∀ c ∈ tl (numS i), c = 45 ∨ (48 ≤ c ∧ c ≤ 57) := by
  rw [tl_numS]
  intro c hc
  split at hc
  · rcases List.mem_cons.mp hc with z | z
    · exact .inl z
    · exact .inr (numL_digits _ c z)
  · exact .inr (numL_digits _ c hc)
theorem wd_num (i : Int) : Wd (numS i) := wd_of fun c hc => by
  have := num_signs i c hc; omega
theorem num_ne (i : Int) : numS i ≠ nilS := fun z => by
  have e := congrArg tl z
  rw [tl_numS] at e
  split at e
  · cases e
  · exact numL_ne _ e
theorem name_ne {x : Str} (h : isNameS x = true) : x ≠ nilS := fun z => by
  have := (name_len h).1
  rw [z] at this
  exact absurd this (by decide)
theorem tl_all : tl ("all" : Str) = [97, 108, 108] := by decide +kernel
theorem wd_all : Wd ("all" : Str) := wd_of fun c hc => by
  rw [tl_all] at hc
  simp only [List.mem_cons, List.not_mem_nil, or_false] at hc
  omega
/-! ### the rows of words -/
section
variable {tab : List (List Int)} {rn cn : List Str}
theorem getD_mem {α : Type} {l : List α} {k : Nat} {d : α} (h : k < l.length) : l.getD k d ∈ l := by
  rw [List.getD_eq_getElem?_getD, List.getElem?_eq_getElem h]
  exact List.getElem_mem h
theorem getD_map {α β : Type} {f : α → β} {l : List α} {k : Nat} {d : β} {e : α} (h : k < l.length) : (l.map f).getD k d = f (l.getD k e) := by
  rw [List.getD_eq_getElem?_getD, List.getD_eq_getElem?_getD, List.getElem?_map, List.getElem?_eq_getElem h]
  rfl
theorem Gd.row {k : Nat} (h : Gd tab rn cn) (hk : k < tab.length) : (tab.getD k []).length = (tab.getD 0 []).length := h.same _ (getD_mem hk)
theorem Gd.sums (h : Gd tab rn cn) : (sumsS tab (tab.getD 0 []).length).length = (tab.getD 0 []).length := by
  unfold sumsS; rw [List.length_map, List.length_range]
theorem rowS_len (x : Str) (r : List Int) : (rowS x r).length = r.length + 2 := by
  unfold rowS
  simp
theorem rowS_cut (x : Str) (r : List Int) : (rowS x r).tail.dropLast = r.map numS := by
  unfold rowS
  show (r.map numS ++ [numS r.sum]).dropLast = _
  rw [List.dropLast_concat]
theorem rowS_head (x : Str) (r : List Int) : (rowS x r).getD 0 nilS = x := rfl
theorem rowS_wd {x : Str} (hx : Wd x) (r : List Int) : ∀ w ∈ rowS x r, Wd w := by
  unfold rowS
  intro w hw
  rcases List.mem_append.mp hw with z | z
  · rcases List.mem_append.mp z with z | z
    · rw [List.mem_singleton.mp z]; exact hx
    · obtain ⟨i, _, rfl⟩ := List.mem_map.mp z
      exact wd_num i
  · rw [List.mem_singleton.mp z]; exact wd_num _
theorem rowS_mid (x : Str) (r : List Int) (k : Nat) (h1 : 1 ≤ k) (h2 : k + 1 < (rowS x r).length) : (rowS x r).getD k nilS ≠ nilS := by
  rw [rowS_len] at h2
  obtain ⟨j, rfl⟩ : ∃ j, k = j + 1 := ⟨k - 1, by omega⟩
  have e : (rowS x r).getD (j + 1) nilS = numS (r.getD j 0) := by
    show (r.map numS ++ [numS r.sum]).getD j nilS = _
    rw [List.getD_eq_getElem?_getD, List.getElem?_append_left (by simp; omega), ← List.getD_eq_getElem?_getD, getD_map (e := 0) (by omega)]
  rw [e]
  exact num_ne _
theorem top_mid (hn : ∀ x ∈ cn, isNameS x = true) (k : Nat) (h1 : 1 ≤ k) (h2 : k + 1 < ((([nilS] ++ cn) ++ [("all" : Str)])).length) : (([nilS] ++ cn) ++ [("all" : Str)]).getD k nilS ≠ nilS := by
  obtain ⟨j, rfl⟩ : ∃ j, k = j + 1 := ⟨k - 1, by omega⟩
  have h3 : j < cn.length := by simp at h2; omega
  have e : (([nilS] ++ cn) ++ [("all" : Str)]).getD (j + 1) nilS = cn.getD j nilS := by
    show (cn ++ [("all" : Str)]).getD j nilS = _
    rw [List.getD_eq_getElem?_getD, List.getElem?_append_left h3, ← List.getD_eq_getElem?_getD]
  rw [e]
  exact name_ne (hn _ (getD_mem h3))
theorem words_cases {r : List Str} (h : r ∈ wordsS tab rn cn) : r = ([nilS] ++ cn) ++ [("all" : Str)] ∨ (∃ k, k < tab.length ∧ r = rowS (rn.getD k nilS) (tab.getD k [])) ∨ r = rowS "all" (sumsS tab (tab.getD 0 []).length) := by
  unfold wordsS at h
  rcases List.mem_append.mp h with z | z
  · rcases List.mem_cons.mp z with z | z
    · exact .inl z
    · obtain ⟨k, hk, rfl⟩ := List.mem_map.mp z
      exact .inr (.inl ⟨k, List.mem_range.mp hk, rfl⟩)
  · exact .inr (.inr (List.mem_singleton.mp z))
theorem Gd.wlen (h : Gd tab rn cn) {r : List Str} (hr : r ∈ wordsS tab rn cn) : r.length = (tab.getD 0 []).length + 2 := by
  rcases words_cases hr with e | ⟨k, hk, e⟩ | e
  · have := names_len h.nc
    rw [e]; simp [this]
  · rw [e, rowS_len, h.row hk]
  · rw [e, rowS_len, h.sums]
theorem Gd.wwd (h : Gd tab rn cn) {r : List Str} (hr : r ∈ wordsS tab rn cn) : ∀ w ∈ r, Wd w := by
  rcases words_cases hr with e | ⟨k, hk, e⟩ | e
  · intro w hw
    rw [e] at hw
    rcases List.mem_append.mp hw with z | z
    · rcases List.mem_append.mp z with z | z
      · rw [List.mem_singleton.mp z]; exact wd_nil
      · exact wd_name (names_name h.nc w z)
    · rw [List.mem_singleton.mp z]; exact wd_all
  · rw [e]
    exact rowS_wd (wd_name (names_name h.nr _ (getD_mem (by rw [names_len h.nr]; exact hk)))) _
  · rw [e]; exact rowS_wd wd_all _
theorem Gd.wmid (h : Gd tab rn cn) {r : List Str} (hr : r ∈ wordsS tab rn cn) : ∀ k, 1 ≤ k → k + 1 < r.length → r.getD k nilS ≠ nilS := by
  rcases words_cases hr with e | ⟨k, hk, e⟩ | e
  · rw [e]; exact top_mid (names_name h.nc)
  · rw [e]; exact rowS_mid _ _
  · rw [e]; exact rowS_mid _ _
theorem words_length : (wordsS tab rn cn).length = tab.length + 2 := by
  unfold wordsS; simp
theorem words_body : (wordsS tab rn cn).tail.dropLast = (List.range tab.length).map fun k => rowS (rn.getD k nilS) (tab.getD k []) := by
  unfold wordsS
  show ((List.range tab.length).map (fun k => rowS (rn.getD k nilS) (tab.getD k [])) ++ [_]).dropLast = _
  rw [List.dropLast_concat]
theorem range_getD {α : Type} (l : List α) (d : α) : (List.range l.length).map (fun k => l.getD k d) = l := by
  refine List.ext_getElem (by simp) fun i h1 h2 => ?_
  simp
  rw [List.getElem?_eq_getElem h2]
  rfl
theorem digits_in {l : List Nat} (h : NumText.AllDigits l) : (l.filter (notIn figS)).isEmpty = true := by
  refine isE.mpr fun c hc => ?_
  have := h c hc
  unfold notIn
  rw [tl_fig]
  simp only [Bool.not_eq_eq_eq_not, Bool.not_false, decide_eq_true_eq, List.mem_cons, List.not_mem_nil, or_false]
  omega
theorem numL_head {n : Nat} (h : 0 < n) : (numL n).headD 0 ≠ 48 := by
  induction n using Nat.strongRecOn with
  | _ n ih =>
    by_cases c : n < 10
    · rw [numL_lt c]
      show 48 + n ≠ 48
      omega
    · rw [numL_step (by omega)]
      have := ih (n / 10) (by omega) (by omega)
      have ne := numL_ne (n / 10)
      cases e : numL (n / 10) with
      | nil => exact absurd e ne
      | cons a r =>
        rw [e] at this
        exact this
theorem count_num {w : Str} {n : Nat} (e : tl w = numL n) (h : n < 10 ^ 60) : readCountS w = some (n : Int) := by
  have hl : w.length ≤ 60 := by rw [len_tl, e]; exact numL_len (by decide) h
  have hw : w ≠ nilS := fun z => by
    rw [z] at e
    exact numL_ne n e.symm
  have b : badC w = false := by
    unfold badC
    rw [decide_eq_false hw, decide_eq_false (by omega), e, digits_in (numL_digits n)]
    rfl
  unfold readCountS
  rw [b, if_neg Bool.false_ne_true]
  have t : (decide (w = "0") || !decide (headS w = "0")) = true := by
    by_cases z : n = 0
    · have : w = "0" := ext_tl (by rw [e, z]; decide +kernel)
      rw [decide_eq_true this]; rfl
    · have : headS w ≠ "0" := fun y => by
        have y2 := congrArg tl y
        have y3 : [(tl w).headD 0] = [48] := y2
        rw [e] at y3
        injection y3 with y4
        exact numL_head (by omega) y4
      rw [decide_eq_false this]; simp
  rw [if_pos t]
  have z := PySem.intText_digits (x := w) (by rw [show w.cps.toList = numL n from e]; exact numL_digits n) (by rw [show w.cps.toList = numL n from e]; exact numL_ne n) (by omega)
  rw [z, show w.cps.toList = numL n from e, numL_val]
theorem whole_num {i : Int} (h : i.natAbs < 10 ^ 60) : readWholeS (numS i) = some i := by
  have e := tl_numS i
  unfold readWholeS
  by_cases c : i < 0
  · rw [if_pos c] at e
    have s : Txt.startswith (numS i) "-" = true := by
      refine (starts_one (c := 45)).trans ?_
      rw [e]; rfl
    rw [if_pos s]
    have l : 0 < (numS i).length := by rw [len_tl, e]; exact Nat.succ_pos _
    have t := cut_tail l
    rw [e] at t
    rw [count_num (n := i.natAbs) t h]
    dsimp only
    rw [if_neg (by omega)]
    congr 1
    omega
  · rw [if_neg c] at e
    have s : Txt.startswith (numS i) "-" = false := by
      refine (starts_one (c := 45)).trans ?_
      rw [e]
      refine beq_eq_false_iff_ne.mpr fun z => ?_
      have := numL_digits i.natAbs 45 (List.mem_of_head? z)
      omega
    rw [if_neg (by rw [s]; exact Bool.false_ne_true), count_num (n := i.natAbs) e h]
    congr 1
    omega
theorem Gd.grid (h : Gd tab rn cn) : isGridS (tab.map fun r => r.map some) = true := by
  have e0 : (tab.map fun r => r.map (some : Int → Option Int)).getD 0 [] = (tab.getD 0 []).map some := by
    rw [getD_map (e := []) h.rows]
  unfold isGridS
  rw [e0, List.length_map, List.length_map]
  simp only [Bool.and_eq_true, Bool.not_eq_true', decide_eq_false_iff_not]
  refine ⟨⟨?_, ?_, ?_⟩, ?_⟩
  · cases htab : tab with
    | nil => have := h.rows; rw [htab] at this; cases this
    | cons a r => rfl
  · refine isE.mpr fun r hr => ?_
    obtain ⟨q, hq, rfl⟩ := List.mem_map.mp hr
    have := h.same q hq
    rw [List.length_map, this, decide_eq_true rfl]
    have c := h.cols
    rw [← this] at c
    cases q with
    | nil => cases c
    | cons a r => rfl
  · have := h.size
    have : ((tab.length : Nat) : Int) * (((tab.getD 0 []).length : Nat) : Int) ≤ 60 := by
      rw [← Int.natCast_mul]; omega
    omega
  · refine isE.mpr fun o ho => ?_
    obtain ⟨l, hl, ho⟩ := List.mem_flatten.mp ho
    obtain ⟨q, hq, rfl⟩ := List.mem_map.mp hl
    obtain ⟨i, _, rfl⟩ := List.mem_map.mp ho
    rfl
/-- a drawing is read back -/
theorem Gd.back (h : Gd tab rn cn) : rowsOf (drawS tab rn cn) = (wordsS tab rn cn).map some ∧ sameO (wordsS tab rn cn) = true ∧ okO (wordsS tab rn cn) = true ∧ rnO (wordsS tab rn cn) = rn ∧ cnO (wordsS tab rn cn) = cn ∧ tabO (wordsS tab rn cn) = tab.map fun r => r.map some := by
  have hr : rnO (wordsS tab rn cn) = rn := by
    unfold rnO
    rw [words_body, List.map_map]
    refine Eq.trans (List.map_congr_left fun k hk => rowS_head _ _) ?_
    rw [← names_len h.nr]
    exact range_getD rn nilS
  have hc : cnO (wordsS tab rn cn) = cn := by
    unfold cnO
    show (cn ++ [("all" : Str)]).dropLast = cn
    rw [List.dropLast_concat]
  have ht : tabO (wordsS tab rn cn) = tab.map fun r => r.map some := by
    unfold tabO
    rw [words_body, List.map_map]
    have : ∀ k ∈ List.range tab.length, ((fun r : List Str => r.tail.dropLast.map readWholeS) ∘ fun k => rowS (rn.getD k nilS) (tab.getD k [])) k = ((fun r : List Int => r.map (some : Int → Option Int)) ∘ fun k => tab.getD k []) k := fun k hk => by
      show (rowS (rn.getD k nilS) (tab.getD k [])).tail.dropLast.map readWholeS = (tab.getD k []).map some
      rw [rowS_cut, List.map_map]
      exact List.map_congr_left fun i hi => whole_num (h.ent _ (getD_mem (List.mem_range.mp hk)) i hi)
    rw [List.map_congr_left this, ← List.map_map, range_getD]
  refine ⟨?_, ?_, ?_, hr, hc, ht⟩
  · unfold rowsOf drawS
    rw [ended_text (fun r hr => h.wwd hr) (by unfold wordsS; simp)]
    dsimp only
    rw [List.map_map]
    refine List.map_congr_left fun r hr => ?_
    exact parts_line (h.wwd hr) (by rw [h.wlen hr]; have := h.cols; omega) (h.wmid hr)
  · unfold sameO
    refine isE.mpr fun r hr => ?_
    have e : ((wordsS tab rn cn).getD 0 []).length = (tab.getD 0 []).length + 2 := h.wlen (getD_mem (by rw [words_length]; omega))
    rw [e, h.wlen hr, decide_eq_true rfl]
    rfl
  · unfold okO
    rw [hr, hc, ht, h.grid, List.length_map, h.nr, getD_map (e := []) h.rows, List.length_map, h.nc]
    rfl
end
end K65
/-! B6: rules for texts; the reading's parts evaluated. -/
namespace K65
open PySem L2 PyProof.Rows DL TL
/-- a text that is not too long, of proper signs -/
structure Tx (x : Str) : Prop where
  len : x.length ≤ 2 ^ 20
  ok : ∀ c ∈ tl x, c < 0x110000
theorem Tx.sub {p x : Str} (h : Tx x) (s : Sb p x) : Tx p := ⟨Nat.le_trans s.len h.len, fun c hc => h.ok c (s.mem hc)⟩
theorem Tx.strOk {x : Str} (h : Tx x) : PyData.strOk x = true := by
  unfold PyData.strOk
  rw [← Array.all_toList, List.all_eq_true]
  exact fun c hc => decide_eq_true (h.ok c hc)
/-- what may be compared -/
def LD (k : Nat) (d : D) : Prop := d.canLay0 = true ∧ d.depth ≤ k
theorem LD.str {x : Str} (h : Tx x) (k : Nat) : LD k (.str x) := ⟨by simpa [PyData.canLay0] using h.strOk, by simp [PyData.depth]⟩
theorem LD.int (i : Int) (k : Nat) : LD k (.int i) := ⟨by simp [PyData.canLay0], by simp [PyData.depth]⟩
theorem LD.none (k : Nat) : LD k .none := ⟨by simp [PyData.canLay0], by simp [PyData.depth]⟩
theorem lay_all {k : Nat} : ∀ {ds : List D}, (∀ d ∈ ds, LD k d) → PyData.canLayAll0 ds = true ∧ PyData.depthAll ds ≤ k
  | [], _ => ⟨rfl, by simp [PyData.depthAll]⟩
  | x :: l, h => by
    obtain ⟨a, b⟩ := lay_all (ds := l) fun y hy => h y (List.mem_cons_of_mem _ hy)
    obtain ⟨c, e⟩ := h x List.mem_cons_self
    exact ⟨by simp only [PyData.canLayAll0, a, c, Bool.and_self], by simp only [PyData.depthAll]; omega⟩
theorem LD.list {k : Nat} {ds : List D} (h : ∀ d ∈ ds, LD k d) : LD (k + 1) (.list ds) := by
  obtain ⟨a, b⟩ := lay_all h
  exact ⟨by simpa [PyData.canLay0] using a, by simp only [PyData.depth]; omega⟩
theorem LD.tuple {k : Nat} {ds : List D} (h : ∀ d ∈ ds, LD k d) : LD (k + 1) (.tuple ds) := by
  obtain ⟨a, b⟩ := lay_all h
  exact ⟨by simpa [PyData.canLay0] using a, by simp only [PyData.depth]; omega⟩
theorem LD.shaped {k : Nat} {d : D} (h : LD k d) (hk : k ≤ 60) : SeqAt.shaped d = true := by
  unfold SeqAt.shaped
  rw [h.1, decide_eq_true (show d.depth ≤ 64 by have := h.2; omega)]
  rfl
def optD : Option Int → D
  | none => .none
  | some i => .int i
theorem LD.opt (o : Option Int) (k : Nat) : LD k (optD o) := by
  cases o with
  | none => exact .none k
  | some i => exact .int i k
section
variable {ρ : DL.Env} {fa fb fc : DL.Env → RE} {i j : Int} {a b x : Str} {d e : D} {ds : List D}
theorem ev_lenS (ha : Ev fa ρ (.str x)) (h : x.length ≤ 2 ^ 20) : Ev (bndA (fCons fa (fNil)) gLen) ρ (.int (x.length : Nat)) := by
  refine Ev.bndA (w := .pu (.int (x.length : Nat))) (.cons ha .nil) ?_
  show (if x.length ≤ sizeLine then some (W.pu (.int (x.length : Nat))) else none) = _
  rw [if_pos (Nat.le_trans h (by decide))]
theorem ev_eqS (ha : Ev fa ρ (.str a)) (hb : Ev fb ρ (.str b)) : Ev (fOp2 gEq fa fb) ρ (.bool (decide (a = b))) := Ev.op2 (w := .pu (.bool (decide (a = b)))) ha hb rfl
theorem ev_neS (ha : Ev fa ρ (.str a)) (hb : Ev fb ρ (.str b)) : Ev (fOp2 gNe fa fb) ρ (.bool (!decide (a = b))) := Ev.op2 (w := .pu (.bool (!decide (a = b)))) ha hb rfl
theorem ev_addS (ha : Ev fa ρ (.str a)) (hb : Ev fb ρ (.str b)) (h : a.length + b.length ≤ 16777216) : Ev (fOp2 gAdd fa fb) ρ (.str (a ++ b)) := by
  refine Ev.op2 (w := .pu (.str (a ++ b))) ha hb ?_
  show (if a.length + b.length ≤ sizeLine then some (W.pu (.str (a ++ b))) else none) = _
  rw [if_pos (Nat.le_trans h (by decide))]
theorem evl_addL {es : List D} (ha : Ev fa ρ (.list ds)) (hb : Ev fb ρ (.list es)) (h : ds.length + es.length ≤ 16777216) : Evl (fOp2 gAdd fa fb) ρ (ds ++ es) := by
  refine Evl.op2 ha hb ?_
  show (if ds.length + es.length ≤ sizeLine then some (W.frs (ds ++ es)) else none) = _
  rw [if_pos (Nat.le_trans h (by decide))]
theorem isNil_of {k : Nat} (hk : k ≤ 10) (hs : ∀ d ∈ ds, LD k d) (ha : Ev fa ρ (.list ds)) : Ev (fOp2 gEq fa (bndA (fNil) gMkL)) ρ (.bool ds.isEmpty) ∧ Ev (fOp2 gNe fa (bndA (fNil) gMkL)) ρ (.bool (!ds.isEmpty)) :=
  ev_isNil (fun d hd => ⟨(hs d hd).1, Nat.le_trans (hs d hd).2 hk⟩) ha
theorem ev_m1 {g : Str → D → Option W} {w : W} (ha : Ev fa ρ (.str x)) (hb : Ev fb ρ d) (h : g x d = some w) : Ev (fM1 g fa fb) ρ w.d := by
  obtain ⟨wa, h1, h2⟩ := ha
  obtain ⟨wb, h3, rfl⟩ := hb
  refine ⟨w, ?_, rfl⟩
  unfold fM1 bndE
  rw [h1]
  dsimp only
  rw [h2]
  dsimp only
  rw [h3]
  dsimp only
  rw [h]
  rfl
theorem evl_m1 {g : Str → D → Option W} {es : List D} (ha : Ev fa ρ (.str x)) (hb : Ev fb ρ d) (h : g x d = some (.frs es)) : Evl (fM1 g fa fb) ρ es := by
  obtain ⟨wa, h1, h2⟩ := ha
  obtain ⟨wb, h3, rfl⟩ := hb
  unfold Evl fM1 bndE
  rw [h1]
  dsimp only
  rw [h2]
  dsimp only
  rw [h3]
  dsimp only
  rw [h]
  rfl
theorem ev_m0 {g : Str → Option W} {w : W} (ha : Ev fa ρ (.str x)) (h : g x = some w) : Ev (fM0 g fa) ρ w.d := by
  obtain ⟨wa, h1, h2⟩ := ha
  refine ⟨w, ?_, rfl⟩
  unfold fM0 bndE
  rw [h1]
  dsimp only
  rw [h2]
  dsimp only
  rw [h]
  rfl
theorem split_ok {y : Str} (hy : (y.length == 0) = false) (h : x.length ≤ 2 ^ 20) : gSplit x (.str y) = some (.frs ((Txt.split x y).map .str)) := by
  show (if (y.length == 0) = false ∧ x.length + 2 ≤ sizeLine then some (W.frs ((Txt.split x y).map .str)) else none) = _
  rw [if_pos ⟨hy, Nat.le_trans (Nat.add_le_add_right h 2) (by decide)⟩]
theorem words_ok (h : x.length ≤ 2 ^ 20) : gWords x = some (.frs ((Txt.words x).map .str)) := by
  unfold gWords
  rw [if_pos (Nat.le_trans (Nat.add_le_add_right h 2) (by decide))]
theorem strip_ok (h : x.length ≤ 2 ^ 20) : gStrip x = some (.pu (.str (Txt.strip x))) := by
  unfold gStrip
  rw [if_pos (Nat.le_trans h (by decide))]
theorem ev_ixL {k : Nat} (ha : Ev fa ρ (.list ds)) (hb : Ev fb ρ (.int (k : Nat))) (h : ds[k]? = some d) : Ev (fOp2 gIx fa fb) ρ d := by
  refine Ev.op2 (w := .pu d) ha hb ?_
  show (atI ds (k : Int)).map W.pu = _
  rw [DL.atI_nat h]
  rfl
theorem ev_ixT {k : Nat} (ha : Ev fa ρ (.tuple ds)) (hb : Ev fb ρ (.int (k : Nat))) (h : ds[k]? = some d) : Ev (fOp2 gIx fa fb) ρ d := by
  refine Ev.op2 (w := .pu d) ha hb ?_
  show (atI ds (k : Int)).map W.pu = _
  rw [DL.atI_nat h]
  rfl
theorem cut_last (l : List D) : DL.cutD l none (some (-1)) = l.dropLast := by
  have e : HT.sIx l.length l.length (some (-1)) = l.length - 1 := by
    show (if (-1 : Int) < 0 then ((-1 : Int) + (l.length : Int)).toNat else min (-1 : Int).toNat l.length) = _
    rw [if_pos (by decide)]; omega
  unfold DL.cutD
  rw [e, HT.sIx_none, List.drop_zero, Nat.sub_zero, List.dropLast_eq_take]
theorem cut_mid (l : List D) : DL.cutD l (some 1) (some (-1)) = l.tail.dropLast := by
  have e : HT.sIx l.length l.length (some (-1)) = l.length - 1 := by
    show (if (-1 : Int) < 0 then ((-1 : Int) + (l.length : Int)).toNat else min (-1 : Int).toNat l.length) = _
    rw [if_pos (by decide)]; omega
  have e2 : HT.sIx l.length 0 (some 1) = min 1 l.length := HT.sIx_nat _ _ 1
  unfold DL.cutD
  rw [e, e2, List.dropLast_eq_take, List.length_tail]
  cases l with
  | nil => rfl
  | cons a r =>
    rw [Nat.min_eq_left (by simp)]
    rfl
theorem evl_cut {lo hi : Option Int} (ha : Ev fa ρ (.list ds)) : Evl (fOp1 (gCut lo hi) fa) ρ (DL.cutD ds lo hi) := by
  obtain ⟨w, h1, h2⟩ := ha
  unfold Evl fOp1 bndE
  rw [h1]
  dsimp only
  rw [h2]
  rfl
theorem ev_cutSL {l : Int} (ha : Ev fa ρ (.str x)) (hb : Ev fb ρ (.int l)) (h : x.length ≤ 2 ^ 20) : Ev (fOp2 gCutSL fa fb) ρ (.str (cutS x (some l) none)) := by
  refine Ev.op2 (w := .pu (.str (cutS x (some l) none))) ha hb ?_
  show (if x.length ≤ sizeLine then some (W.pu (.str (cutS x (some l) none))) else none) = _
  rw [if_pos (Nat.le_trans h (by decide))]
theorem ev_cutSH {l : Int} (ha : Ev fa ρ (.str x)) (hb : Ev fb ρ (.int l)) (h : x.length ≤ 2 ^ 20) : Ev (fOp2 gCutSH fa fb) ρ (.str (cutS x none (some l))) := by
  refine Ev.op2 (w := .pu (.str (cutS x none (some l)))) ha hb ?_
  show (if x.length ≤ sizeLine then some (W.pu (.str (cutS x none (some l)))) else none) = _
  rw [if_pos (Nat.le_trans h (by decide))]
theorem _root_.DL.Ev.bl {f : DL.Env → RE} {x y : Bool} (h : Ev f ρ (.bool x)) (e : x = y) : Ev f ρ (.bool y) := e ▸ h
theorem _root_.DL.Ev.to {f : DL.Env → RE} {d e : D} (h : Ev f ρ d) (z : d = e) : Ev f ρ e := z ▸ h
theorem _root_.DL.Evl.to {f : DL.Env → RE} {ds es : List D} (h : Evl f ρ ds) (z : ds = es) : Evl f ρ es := z ▸ h
/-- signs of a text that are not among some -/
theorem evl_bad {w z : Str} (h : Tx w) : Evl (fLc (srcE (fVar 0) itemsS) (bName 1) (fOp2 gNotInS (fVar 1) (fC (.str z))) (fVar 1) [1]) [some (.pu (.str w)), none] (((tl w).filter (notIn z)).map fun c => .str ⟨#[c]⟩) :=
  evl_gen (fun c => .str ⟨#[c]⟩) (fun c => .str ⟨#[c]⟩) (notIn z) (tl w) (srcE_ok (Ev.var rfl) rfl) rfl (by rw [← len_tl]; exact Nat.le_trans h.len (by decide)) fun c hc =>
    ⟨[some (.pu (.str w)), some (.pu (.str ⟨#[c]⟩))], rfl, Ev.op2 (w := .pu (.bool (notIn z c))) (Ev.var rfl) .k rfl, fun _ => Ev.var rfl, rfl⟩
theorem one_ld {w z : Str} (h : Tx w) : ∀ d ∈ ((tl w).filter (notIn z)).map (fun c => PyData.str ⟨#[c]⟩), LD 0 d := fun d hd => by
  obtain ⟨c, hc, rfl⟩ := List.mem_map.mp hd
  exact .str ⟨by show 1 ≤ _; decide, fun c' hc' => by
    have : c' = c := by simpa using hc'
    rw [this]; exact h.ok c (List.mem_filter.mp hc).1⟩ 0
theorem emp_map {α β : Type} {f : α → β} {l : List α} : (l.map f).isEmpty = l.isEmpty := by cases l <;> rfl
end
theorem fr_is_whole_i (i : Int) : Fr F_is_whole [.int i] (.bool true) := ⟨_, rfl, rfl⟩
theorem fr_is_whole (o : Option Int) : Fr F_is_whole [optD o] (.bool o.isSome) := by
  cases o with
  | none => exact ⟨_, rfl, rfl⟩
  | some i => exact ⟨_, rfl, rfl⟩
theorem fr_read_count {w : Str} (h : Tx w) : Fr F_read_count [.str w] (optD (readCountS w)) := by
  refine fr_of (n := 2) (g := g_read_count) (ds := [.str w]) ?_
  show Rt g_read_count [some (.pu (.str w)), none] _
  have c1 : Ev (fOr (fOp2 gEq (fVar 0) (fC (.str ""))) (fOr (fOp2 gGt (bndA (fCons (fVar 0) (fNil)) gLen) (fC (.int 60))) (fOp2 gNe (fLc (srcE (fVar 0) itemsS) (bName 1) (fOp2 gNotInS (fVar 1) (fC (.str "0123456789"))) (fVar 1) [1]) (bndA (fNil) gMkL)))) [some (.pu (.str w)), none] (.bool (badC w)) :=
    .or (ev_eqS (Ev.var rfl) .k) fun _ => .or (ev_gt (ev_lenS (Ev.var rfl) h.len) .k) fun _ => Ev.bl (isNil_of (by decide) (one_ld h) (evl_bad h).ev).2 (by rw [emp_map])
  refine Rt.guard c1 (fun b => ?_) fun b => ?_
  · unfold readCountS
    rw [if_pos b]
    exact .ret .k rfl
  · unfold readCountS
    rw [if_neg (by rw [b]; exact Bool.false_ne_true)]
    unfold badC at b
    simp only [Bool.or_eq_false_iff, decide_eq_false_iff_not, Bool.not_eq_eq_eq_not, Bool.not_false] at b
    obtain ⟨b1, b2, b3⟩ := b
    have ne : tl w ≠ [] := fun z => b1 (ext_tl z)
    obtain ⟨c, r, e⟩ : ∃ c r, tl w = c :: r := by
      cases q : tl w with
      | nil => exact absurd q ne
      | cons c r => exact ⟨c, r, rfl⟩
    have hd : Ev (fOp2 gIx (fVar 0) (fC (.int 0))) [some (.pu (.str w)), none] (.str (headS w)) := by
      refine Ev.op2 (w := .pu (.str (headS w))) (Ev.var rfl) .k ?_
      show (if w.length ≤ sizeLine then (atI (tl w) 0).map (fun c => W.pu (.str ⟨#[c]⟩)) else none) = _
      rw [if_pos (Nat.le_trans h.len (by decide))]
      unfold headS
      rw [e, show (0 : Int) = ((0 : Nat) : Int) from rfl, DL.atI_nat (x := c) rfl]
      rfl
    have ad : NumText.AllDigits (tl w) := fun c hc => by
      have := isE.mp b3 c hc
      unfold notIn at this
      rw [tl_fig] at this
      simp only [Bool.not_eq_eq_eq_not, Bool.not_false, decide_eq_true_eq, List.mem_cons, List.not_mem_nil, or_false] at this
      omega
    refine .ret (Ev.if (x := decide (w = "0") || !decide (headS w = "0")) (.or (ev_eqS (Ev.var rfl) .k) fun _ => ev_neS hd .k) (fun q => ?_) fun q => ?_) rfl
    · rw [if_pos q]
      have z := PySem.intText_digits (x := w) ad ne (by omega)
      rw [z]
      refine Ev.bndA (w := .pu (.int (NumText.digitsVal w.cps.toList : Nat))) (.cons (Ev.var rfl) .nil) ?_
      show (match PySem.intText? w with
        | some n => if w.length ≤ 640 then some (W.pu (.int n)) else none
        | none => none) = _
      rw [z]
      dsimp only
      rw [if_pos (by omega)]
    · rw [if_neg (by rw [q]; exact Bool.false_ne_true)]
      exact .k
theorem fr_read_whole {w : Str} (h : Tx w) : Fr F_read_whole [.str w] (optD (readWholeS w)) := by
  refine fr_of (n := 2) (g := g_read_whole) (ds := [.str w]) ?_
  show Rt g_read_whole [some (.pu (.str w)), none] _
  refine Rt.guard (x := !Txt.startswith w "-") (.not (ev_m1 (w := .pu (.bool (Txt.startswith w "-"))) (Ev.var rfl) .k rfl)) (fun b => ?_) fun b => ?_
  · have b : Txt.startswith w "-" = false := by simpa using b
    unfold readWholeS
    rw [if_neg (by rw [b]; exact Bool.false_ne_true)]
    exact .ret (.call (.cons (Ev.var rfl) .nil) (fr_read_count h) rfl) rfl
  · have b : Txt.startswith w "-" = true := by simpa using b
    unfold readWholeS
    rw [if_pos b]
    refine .seq (.put (.call (.cons (ev_cutSL (Ev.var rfl) .k h.len) .nil) (fr_read_count (h.sub (cut_sub w (some 1) none))) rfl)) ?_
    show Rt _ [some (.pu (.str w)), some (.pu (optD (readCountS (cutS w (some 1) none))))] _
    generalize readCountS (cutS w (some 1) none) = o
    cases o with
    | none => exact .ret (.if (x := true) (.or (x := true) (y := true) (ev_isN (d := .none) (Ev.var rfl)) fun z => nomatch z) (fun _ => .k) fun z => nomatch z) rfl
    | some i =>
      refine .ret (.if (x := false || decide (i = 0)) (.or (ev_isN (d := .int i) (Ev.var rfl)) fun _ => ev_eqI (Ev.var rfl) .k) (fun q => ?_) fun q => ?_) rfl
      · have q : i = 0 := by simpa using q
        dsimp only
        rw [if_pos q]
        exact .k
      · have q : i ≠ 0 := by simpa using q
        dsimp only
        rw [if_neg q]
        exact ev_neg (Ev.var rfl)
theorem fr_ended {x : Str} (h : Tx x) : Fr F_ended_lines [.str x] (match endedS x with
  | none => .none
  | some ls => .list (sDs ls)) := by
  refine fr_of (n := 1) (g := g_ended_lines) (ds := [.str x]) ?_
  show Rt g_ended_lines [some (.pu (.str x))] _
  refine Rt.guard (x := !true || !Txt.endswith x "\n") (.or (.not (ev_isi (d := .str x) (n := "str") (Ev.var rfl) rfl)) fun _ => .not (ev_m1 (w := .pu (.bool (Txt.endswith x "\n"))) (Ev.var rfl) .k rfl)) (fun b => ?_) fun b => ?_
  · have b : Txt.endswith x "\n" = false := by simpa using b
    unfold endedS
    rw [if_neg (by rw [b]; exact Bool.false_ne_true)]
    exact .ret .k rfl
  · have b : Txt.endswith x "\n" = true := by simpa using b
    unfold endedS
    rw [if_pos b]
    have z := evl_cut (lo := none) (hi := some (-1)) (evl_m1 (ρ := [some (.pu (.str x))]) (Ev.var (i := 0) rfl) (Ev.k (d := .str "\n")) (split_ok (y := "\n") (by decide +kernel) h.len)).ev
    rw [cut_last, ← List.map_dropLast] at z
    exact .ret z.ev rfl
theorem fr_parts {x : Str} (h : Tx x) : Fr F_parts_in [.str x] (match partsS x with
  | none => .none
  | some ls => .list (sDs ls)) := by
  refine fr_of (n := 2) (g := g_parts_in) (ds := [.str x]) ?_
  show Rt g_parts_in [some (.pu (.str x)), none] _
  have kb : ((" | " : Str).cps.all (· < 256)) = true := by decide +kernel
  refine .seq (.put (evl_m1 (Ev.var (i := 0) rfl) (Ev.k (d := .str " | ")) (split_ok (y := " | ") (by decide +kernel) h.len)).ev) ?_
  show Rt _ [some (.pu (.str x)), some (.pu (.list (sDs (Txt.split x " | "))))] _
  have hs : ∀ p ∈ Txt.split x " | ", Tx p := fun p hp => h.sub (split_sub (by rw [tl_bar]; decide) kb hp)
  unfold partsS
  generalize Txt.split x " | " = ps at hs
  have hl : Ev (bndA (fCons (fVar 1) fNil) gLen) [some (.pu (.str x)), some (.pu (.list (sDs ps)))] (.int (ps.length : Nat)) := Ev.to (ev_len (ds := sDs ps) (Ev.var rfl)) (by rw [List.length_map])
  refine Rt.guard (ev_neI hl .k) (fun b => ?_) fun b => ?_
  · have b : (ps.length : Int) ≠ 3 := by simpa using b
    rw [if_neg (by omega)]
    exact .ret .k rfl
  · have b : (ps.length : Int) = 3 := by simpa using b
    rw [if_pos (by omega)]
    have b3 : ps.length = 3 := by omega
    obtain ⟨p, q, r, rfl⟩ : ∃ p q r, ps = [p, q, r] := by
      match ps, b3 with
      | [p, q, r], _ => exact ⟨p, q, r, rfl⟩
    have hp := hs p (by simp)
    have hq := hs q (by simp)
    have hr := hs r (by simp)
    have e0 := ev_m0 (ρ := [some (.pu (.str x)), some (.pu (.list (sDs [p, q, r])))]) (ev_ixL (k := 0) (Ev.var (i := 1) rfl) Ev.k rfl) (strip_ok hp.len)
    have e1 : Evl (fM0 gWords (fOp2 gIx (fVar 1) (fC (.int 1)))) [some (.pu (.str x)), some (.pu (.list (sDs [p, q, r])))] ((Txt.words q).map .str) := by
      obtain ⟨wa, h1, h2⟩ := ev_ixL (ρ := [some (.pu (.str x)), some (.pu (.list (sDs [p, q, r])))]) (k := 1) (Ev.var (i := 1) rfl) Ev.k rfl
      unfold Evl fM0 bndE
      rw [show fOp2 gIx (fVar 1) (fC (.int 1)) _ = _ from h1]
      dsimp only
      rw [h2]
      dsimp only
      rw [words_ok hq.len]
      rfl
    have e2 := ev_m0 (ρ := [some (.pu (.str x)), some (.pu (.list (sDs [p, q, r])))]) (ev_ixL (k := 2) (Ev.var (i := 1) rfl) Ev.k rfl) (strip_ok hr.len)
    have wl := words_le q
    have z := evl_addL (evl_addL (ev_mkL (.cons e0 .nil) (by simp)).ev e1.ev (by
      simp only [List.length_cons, List.length_nil, List.length_map]
      have := hq.len; omega)).ev (ev_mkL (.cons e2 .nil) (by simp)).ev (by
      simp only [List.length_cons, List.length_nil, List.length_map, List.length_append]
      have := hq.len; omega)
    refine .ret (z.ev.to ?_) rfl
    show PyData.list _ = PyData.list (sDs _)
    unfold sDs
    rw [List.map_append, List.map_append]
    rfl
end K65
/-! B7: is_grid, is_name, are_names_of. -/
namespace K65
open PySem L2 PyProof.Rows DL TL
abbrev tabOD (t : List (List (Option Int))) : D := .list (t.map fun r => .list (r.map optD))
theorem fr_is_name {x : Str} (h : Tx x) : Fr F_is_name [.str x] (.bool (isNameS x)) := by
  refine fr_of (n := 2) (g := g_is_name) (ds := [.str x]) ?_
  show Rt g_is_name [some (.pu (.str x)), none] _
  have c1 : Ev (fChain gLe gLe (fC (.int 1)) (bndA (fCons (fVar 0) (fNil)) gLen) (fC (.int 12))) [some (.pu (.str x)), none] (.bool (decide ((1 : Int) ≤ (x.length : Nat)) && decide (((x.length : Nat) : Int) ≤ 12))) :=
    Ev.to (Ev.chain (x := decide ((1 : Int) ≤ (x.length : Nat))) (w := .pu (.bool (decide (((x.length : Nat) : Int) ≤ 12)))) .k (ev_lenS (Ev.var rfl) h.len) rfl fun _ => ⟨.k, rfl⟩) (by
      generalize decide ((1 : Int) ≤ (x.length : Nat)) = p
      cases p <;> rfl)
  refine Rt.guard (x := !true || !(decide ((1 : Int) ≤ (x.length : Nat)) && decide (((x.length : Nat) : Int) ≤ 12))) (.or (.not (ev_isi (d := .str x) (n := "str") (Ev.var rfl) rfl)) fun _ => .not c1) (fun b => ?_) fun b => ?_
  · have b : (decide ((1 : Int) ≤ (x.length : Nat)) && decide (((x.length : Nat) : Int) ≤ 12)) = false := by
      rw [Bool.not_true, Bool.false_or, Bool.not_eq_true'] at b
      exact b
    unfold isNameS
    rw [b]
    exact .ret .k rfl
  · have b : (decide ((1 : Int) ≤ (x.length : Nat)) && decide (((x.length : Nat) : Int) ≤ 12)) = true := by
      rw [Bool.not_true, Bool.false_or, Bool.not_eq_false'] at b
      exact b
    unfold isNameS
    rw [b, Bool.true_and]
    exact .ret (Ev.bl (isNil_of (by decide) (one_ld h) (evl_bad (z := letS) h).ev).1 (by rw [emp_map])) rfl
theorem str_ld {ns : List Str} (h : ∀ n ∈ ns, Tx n) : ∀ d ∈ sDs ns, LD 0 d := fun d hd => by
  obtain ⟨n, hn, rfl⟩ := List.mem_map.mp hd
  exact .str (h n hn) 0
theorem plain_strs : ∀ ns : List Str, PyData.plainAll (sDs ns) = true
  | [] => rfl
  | n :: ns => by
    show (PyData.plain (.str n) && PyData.plainAll (sDs ns)) = true
    rw [plain_strs ns]
    rfl
theorem fr_names {ns : List Str} {m : Int} (h : ∀ n ∈ ns, Tx n) (hl : ns.length ≤ 2 ^ 21) : Fr F_are_names_of [.list (sDs ns), .int m] (.bool (areNamesS ns m)) := by
  refine fr_of (n := 3) (g := g_are_names_of) (ds := [.list (sDs ns), .int m]) ?_
  show Rt g_are_names_of [some (.pu (.list (sDs ns))), some (.pu (.int m)), none] _
  have hz : ns.length ≤ sizeLine := Nat.le_trans hl (by decide)
  have sh : SeqAt.shaped (.list (sDs ns)) = true := (LD.list (str_ld h)).shaped (by decide)
  have ln : Ev (bndA (fCons (fVar 0) fNil) gLen) [some (.pu (.list (sDs ns))), some (.pu (.int m)), none] (.int (ns.length : Nat)) := Ev.to (ev_len (ds := sDs ns) (Ev.var rfl)) (by rw [List.length_map])
  have l1 := evl_gen (ρ := [some (.pu (.list (sDs ns))), some (.pu (.int m)), none]) (bind := bName 2) (ft := fNot (fCall 1 F_is_name (fCons (fVar 2) (fNil)))) (fe := fVar 2) (vs := [2]) (fun n => PyData.str n) (fun n => PyData.str n) (fun n => !isNameS n) ns (src_list (Ev.var (i := 0) rfl)) rfl hz fun n hn =>
    ⟨[some (.pu (.list (sDs ns))), some (.pu (.int m)), some (.pu (.str n))], rfl, .not (.call (.cons (Ev.var rfl) .nil) (fr_is_name (h n hn)) rfl), fun _ => Ev.var rfl, rfl⟩
  have l2 := evl_gen (ρ := [some (.pu (.list (sDs ns))), some (.pu (.int m)), none]) (bind := bName 2) (ft := fOp2 gGt (fL1 gCntD (fVar 0) (fVar 2)) (fC (.int 1))) (fe := fVar 2) (vs := [2]) (fun n => PyData.str n) (fun n => PyData.str n) (fun n => decide ((1 : Int) < ((ns.countP fun z => z == n : Nat) : Int))) ns (src_list (Ev.var (i := 0) rfl)) rfl hz fun n hn =>
    ⟨[some (.pu (.list (sDs ns))), some (.pu (.int m)), some (.pu (.str n))], rfl, ev_gt (by
      refine ⟨.pu (.int ((ns.countP fun z => z == n : Nat) : Int)), ?_, rfl⟩
      show resW (gCntD (.list (sDs ns)) (.str n)) _ = _
      have e : gCntD (.list (sDs ns)) (.str n) = some (.pu (.int (((sDs ns).countP fun z => PyData.eqv z (.str n) : Nat) : Int))) := by
        unfold gCntD
        dsimp only
        rw [if_pos]
        rw [sh, (LD.str (h n hn) 0).shaped (by decide), plain_strs]
        rfl
      rw [e]
      unfold sDs
      rw [List.countP_map]
      rfl) .k, fun _ => Ev.var rfl, rfl⟩
  have ev1 := (isNil_of (ρ := [some (.pu (.list (sDs ns))), some (.pu (.int m)), none]) (k := 0) (by decide) (str_ld fun n hn => h n (List.mem_filter.mp hn).1) l1.ev).2
  have ev2 := (isNil_of (ρ := [some (.pu (.list (sDs ns))), some (.pu (.int m)), none]) (k := 0) (by decide) (str_ld fun n hn => h n (List.mem_filter.mp hn).1) l2.ev).1
  rw [emp_map] at ev1 ev2
  have t3 : Ev (fOp2 gNotInD (fC (.str "all")) (fVar 0)) [some (.pu (.list (sDs ns))), some (.pu (.int m)), none] (.bool (!(ns.any fun z => z == ("all" : Str)))) := by
    refine Ev.op2 (w := .pu (.bool (!(ns.any fun z => z == ("all" : Str))))) .k (Ev.var rfl) ?_
    show (if SeqAt.shaped (.str "all") && SeqAt.shaped (.list (sDs ns)) then some (W.pu (.bool (!(sDs ns).any fun z => PyData.eqv z (.str "all")))) else none) = _
    rw [if_pos (by rw [sh]; decide +kernel)]
    unfold sDs
    rw [List.any_map]
    rfl
  refine Rt.guard (.or (.not (ev_isi (d := .list (sDs ns)) (n := "list") (Ev.var rfl) rfl)) fun _ => .or (ev_neI ln (Ev.var rfl)) fun _ => ev1) (fun b => ?_) fun b => ?_
  · have b : decide (((ns.length : Nat) : Int) = m) = false ∨ (ns.filter fun n => !isNameS n).isEmpty = false := by
      rw [show isA "list" (.list (sDs ns)) = true from rfl, Bool.not_true, Bool.false_or, Bool.or_eq_true, Bool.not_eq_true', Bool.not_eq_true'] at b
      exact b
    have e : areNamesS ns m = false := by
      unfold areNamesS
      rcases b with b | b
      · rw [b]; rfl
      · rw [b]; simp
    rw [e]
    exact .ret .k rfl
  · have b : decide (((ns.length : Nat) : Int) = m) = true ∧ (ns.filter fun n => !isNameS n).isEmpty = true := by
      rw [show isA "list" (.list (sDs ns)) = true from rfl, Bool.not_true, Bool.false_or, Bool.or_eq_false_iff, Bool.not_eq_false', Bool.not_eq_false'] at b
      exact b
    unfold areNamesS
    rw [b.1, b.2, Bool.true_and, Bool.true_and]
    exact .ret (.and ev2 fun _ => t3) rfl
theorem row_ld (r : List (Option Int)) : ∀ d ∈ r.map optD, LD 0 d := fun d hd => by
  obtain ⟨o, _, rfl⟩ := List.mem_map.mp hd
  exact .opt o 0
theorem tab_ld (t : List (List (Option Int))) : ∀ d ∈ t.map (fun r => PyData.list (r.map optD)), LD 1 d := fun d hd => by
  obtain ⟨r, _, rfl⟩ := List.mem_map.mp hd
  exact .list (row_ld r)
theorem evl_none {α : Type} {src : DL.Env → RI} {bind : D → DL.Env → Option DL.Env} {ft fe : DL.Env → RE} {vs : List Nat} {ρ : DL.Env} (φ : α → D) (xs : List α) (hs : src ρ = .ok (xs.map φ) ρ) (hw : wipeE ρ vs = ρ) (hl : xs.length ≤ sizeLine)
    (h : ∀ x ∈ xs, ∃ ρ1, bind (φ x) ρ = some ρ1 ∧ Ev ft ρ1 (.bool false) ∧ wipeE ρ1 vs = ρ) : Evl (fLc src bind ft fe vs) ρ [] := by
  have z := evl_gen (src := src) (bind := bind) (ft := ft) (fe := fe) (vs := vs) (ρ := ρ) φ φ (fun _ => false) xs hs hw hl fun x hx => by
    obtain ⟨ρ1, h1, h2, h3⟩ := h x hx
    exact ⟨ρ1, h1, h2, (fun z => absurd z Bool.false_ne_true), h3⟩
  rw [List.filter_eq_nil_iff.mpr fun _ _ => Bool.false_ne_true] at z
  exact z
theorem fr_is_grid {t : List (List (Option Int))} (hl : t.length ≤ 2 ^ 21) : Fr F_is_grid [tabOD t] (.bool (isGridS t)) := by
  refine fr_of (n := 3) (g := g_is_grid) (ds := [tabOD t]) ?_
  show Rt g_is_grid [some (.pu (tabOD t)), none, none] _
  have hz : t.length ≤ sizeLine := Nat.le_trans hl (by decide)
  have v0 : Ev (fVar 0) [some (.pu (tabOD t)), none, none] (tabOD t) := Ev.var rfl
  have e1 := (isNil_of (by decide) (tab_ld t) v0).1
  rw [emp_map] at e1
  have l1 := evl_none (ρ := [some (.pu (tabOD t)), none, none]) (bind := bName 1) (ft := fNot (fOp1 (gIsi "list") (fVar 1))) (fe := fVar 1) (vs := [1]) (fun r => PyData.list (r.map optD)) t (src_list v0) rfl hz fun r _ =>
    ⟨[some (.pu (tabOD t)), some (.pu (.list (r.map optD))), none], rfl, .not (ev_isi (d := .list (r.map optD)) (n := "list") (Ev.var rfl) rfl), rfl⟩
  have e2 := ev_neNil l1.ev rfl
  refine Rt.guard (.or (.not (ev_isi (d := tabOD t) (n := "list") v0 rfl)) fun _ => .or e1 fun _ => e2) (fun b => ?_) fun b => ?_
  · rw [show isA "list" (tabOD t) = true from rfl, Bool.not_true, Bool.false_or, Bool.or_false] at b
    unfold isGridS
    rw [b]
    exact .ret .k rfl
  · rw [show isA "list" (tabOD t) = true from rfl, Bool.not_true, Bool.false_or, Bool.or_false] at b
    obtain ⟨r0, t', rfl⟩ : ∃ r0 t', t = r0 :: t' := by
      cases t with
      | nil => cases b
      | cons r0 t' => exact ⟨r0, t', rfl⟩
    have ln : Ev (bndA (fCons (fVar 0) fNil) gLen) [some (.pu (tabOD (r0 :: t'))), none, none] (.int ((r0 :: t').length : Nat)) := Ev.to (ev_len v0) (by rw [List.length_map])
    have l0 : ∀ ρ : DL.Env, ρ[0]? = some (some (.pu (tabOD (r0 :: t')))) → Ev (bndA (fCons (fOp2 gIx (fVar 0) (fC (.int 0))) (fNil)) gLen) ρ (.int (r0.length : Nat)) := fun ρ q => Ev.to (ev_len (ev_ixL (k := 0) (d := .list (r0.map optD)) (Ev.var q) .k rfl)) (by rw [List.length_map])
    have l2 := evl_gen (ρ := [some (.pu (tabOD (r0 :: t'))), none, none]) (bind := bName 1) (ft := fOr (fOp2 gEq (fVar 1) (bndA (fNil) gMkL)) (fOp2 gNe (bndA (fCons (fVar 1) (fNil)) gLen) (bndA (fCons (fOp2 gIx (fVar 0) (fC (.int 0))) (fNil)) gLen))) (fe := fVar 1) (vs := [1]) (fun r => PyData.list (r.map optD)) (fun r => PyData.list (r.map optD)) (fun r => r.isEmpty || !decide ((r.length : Int) = (r0.length : Nat))) (r0 :: t') (src_list v0) rfl hz fun r _ =>
      ⟨[some (.pu (tabOD (r0 :: t'))), some (.pu (.list (r.map optD))), none], rfl, .or (Ev.bl (isNil_of (by decide) (row_ld r) (Ev.var rfl)).1 emp_map) fun _ => ev_neI (Ev.to (ev_len (ds := r.map optD) (Ev.var rfl)) (by rw [List.length_map])) (l0 _ rfl), fun _ => Ev.var rfl, rfl⟩
    have e3 := (isNil_of (by decide) (tab_ld _) l2.ev).2
    rw [emp_map] at e3
    have small : (r0 :: t').length < 2 ^ 64 := Nat.lt_of_le_of_lt hl (by decide)
    refine Rt.guard (.or e3 fun _ => ev_gt (ev_mul ln (l0 _ rfl) (.inl (by omega))) .k) (fun c => ?_) fun c => ?_
    · rw [Bool.or_eq_true, Bool.not_eq_true'] at c
      have z : isGridS (r0 :: t') = false := by
        unfold isGridS
        show (!(r0 :: t').isEmpty && (((r0 :: t').filter fun r => r.isEmpty || !decide ((r.length : Int) = (r0.length : Nat))).isEmpty && !decide ((60 : Int) < ((r0 :: t').length : Nat) * (r0.length : Nat))) && _) = false
        rcases c with c | c
        · rw [c]; simp
        · rw [c]; simp
      rw [z]
      exact .ret .k rfl
    · rw [Bool.or_eq_false_iff, Bool.not_eq_false'] at c
      have z : isGridS (r0 :: t') = ((r0 :: t').flatten.filter fun o => o.isNone).isEmpty := by
        unfold isGridS
        show (!(r0 :: t').isEmpty && (((r0 :: t').filter fun r => r.isEmpty || !decide ((r.length : Int) = (r0.length : Nat))).isEmpty && !decide ((60 : Int) < ((r0 :: t').length : Nat) * (r0.length : Nat))) && _) = _
        rw [c.1, c.2]
        rfl
      have fl : (r0 :: t').flatten.length ≤ 60 := by
        have s := isE.mp c.1
        have all : ∀ r ∈ (r0 :: t'), r.length = r0.length := fun r hr => by
          have := s r hr
          rw [Bool.or_eq_false_iff, Bool.not_eq_false', decide_eq_true_eq] at this
          omega
        have gen : ∀ (l : List (List (Option Int))) (n : Nat), (∀ r ∈ l, r.length = n) → l.flatten.length = l.length * n := by
          intro l n
          induction l with
          | nil => intro _; simp
          | cons a r ih =>
            intro h
            rw [List.flatten_cons, List.length_append, ih fun y hy => h y (List.mem_cons_of_mem _ hy), h a List.mem_cons_self, List.length_cons, Nat.succ_mul]
            omega
        rw [gen _ _ all]
        have := c.2
        rw [decide_eq_false_iff_not, ← Int.natCast_mul] at this
        omega
      have sm : Ev (bndA (fCons (fVar 0) (fCons (bndA (fNil) gMkL) (fNil))) gSumL) [some (.pu (tabOD (r0 :: t'))), none, none] (.list ((r0 :: t').flatten.map optD)) := by
        refine Ev.bndA (w := .frs ((r0 :: t').flatten.map optD)) (.cons v0 (.cons (ev_mkL .nil (by simp)).ev .nil)) ?_
        show (match listsOf ((r0 :: t').map fun r => PyData.list (r.map optD)) with
          | some ls => if 0 < ls.length ∧ ls.flatten.length ≤ sizeLine then some (W.frs ls.flatten) else none
          | none => none) = _
        have e : listsOf ((r0 :: t').map fun r => PyData.list (r.map optD)) = some ((r0 :: t').map fun r => r.map optD) := by
          have := listsOf_map ((r0 :: t').map fun r => r.map optD)
          rw [List.map_map] at this
          exact this
        rw [e]
        dsimp only
        have e2 : ((r0 :: t').map fun r => r.map optD).flatten = (r0 :: t').flatten.map optD := by rw [List.map_flatten]
        rw [e2, if_pos ⟨by simp, by rw [List.length_map]; exact Nat.le_trans fl (by decide)⟩]
      have l3 := evl_gen (ρ := [some (.pu (tabOD (r0 :: t'))), none, none]) (bind := bName 2) (ft := fNot (fCall 1 F_is_whole (fCons (fVar 2) (fNil)))) (fe := fVar 2) (vs := [2]) optD optD (fun o => !o.isSome) (r0 :: t').flatten (src_list sm) rfl (Nat.le_trans fl (by decide)) fun o _ =>
        ⟨[some (.pu (tabOD (r0 :: t'))), none, some (.pu (optD o))], rfl, .not (.call (.cons (Ev.var rfl) .nil) (fr_is_whole o) rfl), fun _ => Ev.var rfl, rfl⟩
      have e4 := (isNil_of (by decide) (row_ld _) l3.ev).1
      rw [emp_map] at e4
      rw [z]
      refine .ret (Ev.bl e4 ?_) rfl
      congr 2
      funext o
      cases o <;> rfl
end K65
/-! B8: rules with slots that change; words_of. -/
namespace DL
open PySem L2 PyProof.Rows
theorem lc_inv {α : Type} {bind : D → Env → Option Env} {fe : Env → RE} {vs : List Nat} (φ ψ : α → D) (I : Env → Prop) : ∀ (xs : List α) (acc : List D) (ρ : Env), acc.length + xs.length ≤ sizeLine → I ρ →
    (∀ x ∈ xs, ∀ ρ, I ρ → ∃ ρ1 ρ3, bind (φ x) ρ = some ρ1 ∧ EvS fe ρ1 ρ3 (ψ x) ∧ I (wipeE ρ3 vs)) →
    ∃ ρ', lcGo bind (fC (.bool true)) fe vs (xs.map φ) acc ρ = .ok (.frs (acc ++ xs.map ψ)) ρ' ∧ I ρ'
  | [], acc, ρ, _, hI, _ => ⟨ρ, by simp [lcGo], hI⟩
  | x :: r, acc, ρ, hl, hI, h => by
    obtain ⟨ρ1, ρ3, h1, ⟨w, h2, h2'⟩, h3⟩ := h x List.mem_cons_self ρ hI
    have hl2 : acc.length + r.length + 1 ≤ sizeLine := by simpa [Nat.add_assoc] using hl
    obtain ⟨ρ', q1, q2⟩ := lc_inv φ ψ I r (acc ++ [w.d]) (wipeE ρ3 vs) (by simp; omega) h3 fun y hy => h y (List.mem_cons_of_mem _ hy)
    refine ⟨ρ', ?_, q2⟩
    rw [List.map_cons]
    unfold lcGo
    rw [h1]
    show (match fe ρ1 with
      | .ok w3 ρ3 => if acc.length < sizeLine then lcGo bind (fC (.bool true)) fe vs (r.map φ) (acc ++ [w3.d]) (wipeE ρ3 vs) else .st
      | _ => .st) = _
    rw [h2]
    dsimp only
    rw [if_pos (by omega), q1, h2']
    simp
theorem lcS {α : Type} {src : Env → RI} {bind : D → Env → Option Env} {fe : Env → RE} {vs : List Nat} {ρ ρ1 : Env} (φ ψ : α → D) (I : Env → Prop) (xs : List α) (hs : src ρ = .ok (xs.map φ) ρ1) (hI : I (wipeE ρ1 vs)) (hl : xs.length ≤ sizeLine)
    (h : ∀ x ∈ xs, ∀ ρ, I ρ → ∃ ρ1 ρ3, bind (φ x) ρ = some ρ1 ∧ EvS fe ρ1 ρ3 (ψ x) ∧ I (wipeE ρ3 vs)) : ∃ ρ', fLc src bind (fC (.bool true)) fe vs ρ = .ok (.frs (xs.map ψ)) ρ' ∧ I ρ' := by
  obtain ⟨ρ', h1, h2⟩ := lc_inv φ ψ I xs [] (wipeE ρ1 vs) (by simpa using hl) hI h
  refine ⟨ρ', ?_, h2⟩
  unfold fLc
  rw [hs]
  dsimp only
  rw [h1]
  rfl
/-- the same, the slots known: after the wiping they stay -/
theorem lcK {α : Type} {src : Env → RI} {bind : D → Env → Option Env} {fe : Env → RE} {vs : List Nat} {ρ ρ1 ρ2 : Env} (φ ψ : α → D) (xs : List α) (hs : src ρ = .ok (xs.map φ) ρ1) (hw : wipeE ρ1 vs = ρ2) (hl : xs.length ≤ sizeLine)
    (h : ∀ x ∈ xs, ∃ ρ3, bind (φ x) ρ2 = some ρ3 ∧ Ev fe ρ3 (ψ x) ∧ wipeE ρ3 vs = ρ2) : fLc src bind (fC (.bool true)) fe vs ρ = .ok (.frs (xs.map ψ)) ρ2 := by
  obtain ⟨ρ', h1, h2⟩ := lcS (fe := fe) φ ψ (fun z => z = ρ2) xs hs hw hl fun x hx ρ e => by
    subst e
    obtain ⟨ρ3, a, b, c⟩ := h x hx
    exact ⟨ρ3, ρ3, a, b, c⟩
  rw [h1, h2]
theorem for_acc {α : Type} {bind : D → Env → Option Env} {body : Env → RS} (φ : α → D) (I : List α → Env → Prop) : ∀ (xs done : List α) (ρ : Env), I done ρ →
    (∀ a x b, done ++ xs = a ++ x :: b → ∀ ρ, I a ρ → ∃ ρ1 ρ2, bind (φ x) ρ = some ρ1 ∧ Nx body ρ1 ρ2 ∧ I (a ++ [x]) ρ2) → ∃ ρ', forGo bind body (xs.map φ) ρ = .nx ρ' ∧ I (done ++ xs) ρ'
  | [], done, ρ, hI, _ => ⟨ρ, rfl, by rw [List.append_nil]; exact hI⟩
  | x :: r, done, ρ, hI, h => by
    obtain ⟨ρ1, ρ2, h1, h2, h3⟩ := h done x r rfl ρ hI
    obtain ⟨ρ', q1, q2⟩ := for_acc φ I r (done ++ [x]) ρ2 h3 fun a y b e => h a y b (by rw [← e, List.append_assoc]; rfl)
    refine ⟨ρ', ?_, by rw [List.append_assoc] at q2; exact q2⟩
    rw [List.map_cons]
    exact for_cons h1 h2 q1
theorem for_nx {α : Type} {src : Env → RI} {bind : D → Env → Option Env} {body : Env → RS} {ρ ρ1 : Env} (φ : α → D) (I : List α → Env → Prop) (xs : List α) (hs : src ρ = .ok (xs.map φ) ρ1) (hI : I [] ρ1)
    (h : ∀ a x b, xs = a ++ x :: b → ∀ ρ, I a ρ → ∃ ρ1 ρ2, bind (φ x) ρ = some ρ1 ∧ Nx body ρ1 ρ2 ∧ I (a ++ [x]) ρ2) : ∃ ρ', Nx (sFor src bind body) ρ ρ' ∧ I xs ρ' := by
  obtain ⟨ρ', h1, h2⟩ := for_acc φ I xs [] ρ1 hI h
  refine ⟨ρ', ?_, by simpa using h2⟩
  unfold Nx sFor
  rw [hs]
  exact h1
theorem Nx.app {ρ : Env} {fa : Env → RE} {i t : Nat} {ds : List D} {d : D} (h : ρ[i]? = some (some (.own t ds))) (ha : Ev fa ρ d) (hl : ds.length < sizeLine) : Nx (sApp i fa) ρ (ρ.set i (some (.own t (ds ++ [d])))) := by
  obtain ⟨w, h1, rfl⟩ := ha
  unfold Nx sApp sE
  rw [h]
  dsimp only
  rw [h1]
  dsimp only
  rw [h]
  dsimp only
  rw [if_pos hl]
theorem Nx.own {ρ : Env} {fa : Env → RE} {i : Nat} {ds : List D} (ha : Evl fa ρ ds) (hn : noN ρ = true) : Nx (sOwn i fa) ρ (ρ.set i (some (.own 0 ds))) := by
  unfold Nx sOwn sE
  rw [show fa ρ = _ from ha]
  dsimp only
  rw [if_pos hn]
theorem EvS.share {ρ : Env} {i t : Nat} {ds : List D} (h : ρ[i]? = some (some (.own t ds))) : EvS (fVar i) ρ (ρ.set i (some (.pu (.list ds)))) (.list ds) := by
  refine ⟨.pu (.list ds), ?_, rfl⟩
  unfold fVar
  rw [h]
theorem Nx.putS {ρ ρ' : Env} {fa : Env → RE} {i : Nat} {w : W} (h : fa ρ = .ok w ρ') : Nx (sPut i fa) ρ (ρ'.set i (some (.pub 0 w.d))) := by
  unfold Nx sPut sE
  rw [h]
theorem srcAS {fs : Env → RL} {k : List D → Option (List D)} {ρ ρ1 : Env} {ds items : List D} (h : fs ρ = .ok ds ρ1) (e : k ds = some items) : srcA fs k ρ = .ok items ρ1 := by
  unfold srcA
  rw [h]
  dsimp only
  rw [e]
theorem rngS {fs : Env → RL} {ρ ρ1 : Env} {n : Nat} (h : fs ρ = .ok [.int (n : Nat)] ρ1) (hn : n < 2 ^ 62) : srcA fs kRng1 ρ = .ok ((List.range n).map fun k : Nat => .int (k : Nat)) ρ1 := srcAS h (rng1 hn)
end DL
namespace K65
open PySem L2 PyProof.Rows DL TL
abbrev rowD (r : List Str) : D := .list (sDs r)
abbrev rowsD (ws : List (List Str)) : D := .list (ws.map rowD)
theorem sD_at {r : List Str} {k : Nat} (h : k < r.length) : (sDs r)[k]? = some (.str (r.getD k nilS)) := by
  rw [List.getElem?_map, List.getElem?_eq_getElem h, List.getD_eq_getElem?_getD, List.getElem?_eq_getElem h]
  rfl
/-! ### bounds -/
theorem sum_le : ∀ {l : List Int} {B : Nat}, (∀ i ∈ l, i.natAbs ≤ B) → l.sum.natAbs ≤ l.length * B
  | [], B, _ => by simp
  | i :: l, B, h => by
    have h1 := h i List.mem_cons_self
    have h2 := sum_le fun j hj => h j (List.mem_cons_of_mem _ hj)
    rw [List.sum_cons, List.length_cons, Nat.succ_mul]
    omega
theorem num_len {i : Int} {k : Nat} (hk : 0 < k) (h : i.natAbs < 10 ^ k) : (numS i).length ≤ k + 1 := by
  rw [len_tl, tl_numS]
  have := numL_len hk h
  split
  · rw [List.length_cons]; omega
  · omega
theorem ev_str {ρ : DL.Env} {fa : DL.Env → RE} {i : Int} (ha : Ev fa ρ (.int i)) (h : i.natAbs < 10 ^ 66) : Ev (bndA (fCons fa (fNil)) gStr1) ρ (.str (numS i)) := by
  refine Ev.bndA (w := .pu (.str (numS i))) (.cons ha .nil) ?_
  show (if i.natAbs.log2 < 1920 then some (W.pu (.str (numS i))) else none) = _
  rw [if_pos (Nat.lt_trans (log2_lt' (k := 220) (Nat.lt_of_lt_of_le h (by decide)) (by decide)) (by decide))]
section
variable {tab : List (List Int)} {rn cn : List Str}
theorem Gd.c60 (h : Gd tab rn cn) : (tab.getD 0 []).length ≤ 60 := by
  have h1 := h.size
  have h2 := h.rows
  have : 1 * (tab.getD 0 []).length ≤ tab.length * (tab.getD 0 []).length := Nat.mul_le_mul_right _ h2
  omega
theorem Gd.r60 (h : Gd tab rn cn) : tab.length ≤ 60 := by
  have h1 := h.size
  have h2 := h.cols
  have : tab.length * 1 ≤ tab.length * (tab.getD 0 []).length := Nat.mul_le_mul_left _ h2
  omega
theorem Gd.at (h : Gd tab rn cn) {r : List Int} (hr : r ∈ tab) (k : Nat) : (r.getD k 0).natAbs ≤ 10 ^ 60 := by
  by_cases c : k < r.length
  · exact Nat.le_of_lt (h.ent r hr _ (getD_mem c))
  · rw [List.getD_eq_getElem?_getD, List.getElem?_eq_none (by omega)]
    decide
theorem Gd.rsum (h : Gd tab rn cn) {r : List Int} (hr : r ∈ tab) : r.sum.natAbs ≤ 60 * 10 ^ 60 := by
  have h1 := sum_le fun i hi => Nat.le_of_lt (h.ent r hr i hi)
  have h2 : r.length ≤ 60 := by rw [h.same r hr]; exact h.c60
  exact Nat.le_trans h1 (Nat.mul_le_mul_right _ h2)
theorem Gd.csum (h : Gd tab rn cn) {i : Int} {c : Nat} (hi : i ∈ sumsS tab c) : i.natAbs ≤ 60 * 10 ^ 60 := by
  unfold sumsS at hi
  obtain ⟨k, hk, rfl⟩ := List.mem_map.mp hi
  have h1 := sum_le (l := tab.map fun r => r.getD k 0) (B := 10 ^ 60) fun i hi => by
    obtain ⟨r, hr, rfl⟩ := List.mem_map.mp hi
    exact h.at hr k
  rw [List.length_map] at h1
  exact Nat.le_trans h1 (Nat.mul_le_mul_right _ h.r60)
theorem Gd.tot (h : Gd tab rn cn) : (sumsS tab (tab.getD 0 []).length).sum.natAbs ≤ 60 * (60 * 10 ^ 60) := by
  have h1 := sum_le fun i hi => h.csum (c := (tab.getD 0 []).length) hi
  rw [h.sums] at h1
  exact Nat.le_trans h1 (Nat.mul_le_mul_right _ h.c60)
theorem rowS_bd {x : Str} {r : List Int} (hx : x.length ≤ 12) (h : ∀ i ∈ r, i.natAbs ≤ 60 * 10 ^ 60) (h2 : r.sum.natAbs ≤ 60 * (60 * 10 ^ 60)) : ∀ w ∈ rowS x r, w.length ≤ 70 := by
  unfold rowS
  intro w hw
  rcases List.mem_append.mp hw with z | z
  · rcases List.mem_append.mp z with z | z
    · rw [List.mem_singleton.mp z]; omega
    · obtain ⟨i, hi, rfl⟩ := List.mem_map.mp z
      exact Nat.le_trans (num_len (k := 66) (by decide) (Nat.lt_of_le_of_lt (h i hi) (by decide))) (by decide)
  · rw [List.mem_singleton.mp z]
    exact Nat.le_trans (num_len (k := 66) (by decide) (Nat.lt_of_le_of_lt h2 (by decide))) (by decide)
/-- rows of words that are drawn -/
structure Bd (ws : List (List Str)) (c : Nat) : Prop where
  pos : 0 < ws.length
  few : ws.length ≤ 62
  len : ∀ r ∈ ws, r.length = c + 2
  c1 : 0 < c
  c60 : c ≤ 60
  wd : ∀ r ∈ ws, ∀ w ∈ r, w.length ≤ 70
theorem Gd.bd (h : Gd tab rn cn) : Bd (wordsS tab rn cn) (tab.getD 0 []).length := by
  refine ⟨?_, ?_, fun r hr => h.wlen hr, h.cols, h.c60, fun r hr => ?_⟩
  · rw [words_length]; omega
  · rw [words_length]; have := h.r60; omega
  · rcases words_cases hr with e | ⟨k, hk, e⟩ | e
    · intro w hw
      rw [e] at hw
      rcases List.mem_append.mp hw with z | z
      · rcases List.mem_append.mp z with z | z
        · rw [List.mem_singleton.mp z]; decide
        · have := (name_len (names_name h.nc w z)).2; omega
      · rw [List.mem_singleton.mp z]; decide +kernel
    · rw [e]
      have m := getD_mem (l := tab) (d := []) hk
      refine rowS_bd (name_len (names_name h.nr _ (getD_mem (by rw [names_len h.nr]; exact hk)))).2 (fun i hi => Nat.le_trans (Nat.le_of_lt (h.ent _ m i hi)) (by decide)) (Nat.le_trans (h.rsum m) (by decide))
    · rw [e]
      exact rowS_bd (by decide +kernel) (fun i hi => h.csum hi) h.tot
/-! ### words_of -/
theorem tab_at {k : Nat} (h : k < tab.length) : (tab.map fun r => PyData.list (r.map .int))[k]? = some (iL (tab.getD k [])) := by
  rw [List.getElem?_map, List.getElem?_eq_getElem h, List.getD_eq_getElem?_getD, List.getElem?_eq_getElem h]
  rfl
theorem ev_strs {ρ ρ2 : DL.Env} {i v : Nat} {ns : List Int} (h : ρ[i]? = some (some (.pu (iL ns)))) (hw : wipeE ρ [v] = ρ) (hv : i ≠ v) (hv2 : v < ρ.length) (hb : ∀ n ∈ ns, n.natAbs < 10 ^ 66) (hl : ns.length ≤ 100) : Evl (fLc (srcE (fVar i) itemsL) (bName v) (fC (.bool true)) (bndA (fCons (fVar v) (fNil)) gStr1) [v]) ρ (sDs (ns.map numS)) := by
  have z := evl_map (ρ := ρ) (bind := bName v) (fe := bndA (fCons (fVar v) (fNil)) gStr1) (vs := [v]) PyData.int (fun n => PyData.str (numS n)) ns (src_list (Ev.var h)) hw (Nat.le_trans hl (by decide)) fun n hn =>
    ⟨ρ.set v (some (.pu (.int n))), rfl, ev_str (Ev.var (List.getElem?_set_self hv2)) (hb n hn), by
      show (ρ.set v _).set v none = ρ
      rw [List.set_set]
      exact hw⟩
  refine Evl.to z ?_
  unfold sDs
  rw [List.map_map]
  rfl
/-- [x] + [str(n) for n in ns] + [str(sum(ns))] -/
theorem ev_row {ρ : DL.Env} {fx : DL.Env → RE} {i v : Nat} {ns : List Int} {x : Str} (hx : Ev fx ρ (.str x)) (h : ρ[i]? = some (some (.pu (iL ns)))) (hw : wipeE ρ [v] = ρ) (hv : i ≠ v) (hv2 : v < ρ.length) (hb : ∀ n ∈ ns, n.natAbs < 10 ^ 66) (hs : ns.sum.natAbs < 10 ^ 66) (hl : ns.length ≤ 100) :
    Evl (fOp2 gAdd (fOp2 gAdd (bndA (fCons fx (fNil)) gMkL) (fLc (srcE (fVar i) itemsL) (bName v) (fC (.bool true)) (bndA (fCons (fVar v) (fNil)) gStr1) [v])) (bndA (fCons (bndA (fCons (bndA (fCons (fVar i) (fNil)) gSum) (fNil)) gStr1) (fNil)) gMkL)) ρ (sDs (rowS x ns)) := by
  have a := ev_strs (ρ2 := ρ) h hw hv hv2 hb hl
  have b := ev_str (ev_sum (Ev.var h)) hs
  have z := evl_addL (evl_addL (ev_mkL (.cons hx .nil) (by simp)).ev a.ev (by simp; omega)).ev (ev_mkL (.cons b .nil) (by simp)).ev (by simp; omega)
  refine Evl.to z ?_
  unfold sDs rowS
  rw [List.map_append, List.map_append]
  rfl
abbrev T0 (tab : List (List Int)) : Option Sl := some (.pu (tabD tab))
abbrev N0 (rn cn : List Str) : Option Sl := some (.pu (namesD rn cn))
def wHead (cn : List Str) : List Str := ([nilS] ++ cn) ++ [("all" : Str)]
def wRow (tab : List (List Int)) (rn : List Str) (k : Nat) : List Str := rowS (rn.getD k nilS) (tab.getD k [])
theorem wr_head (h : Gd tab rn cn) {ρ : DL.Env} (h1 : ρ[1]? = some (N0 rn cn)) : Evl (bndA (fCons (fOp2 gAdd (fOp2 gAdd (bndA (fCons (fC (.str "")) (fNil)) gMkL) (fOp2 gIx (fVar 1) (fC (.int 1)))) (bndA (fCons (fC (.str "all")) (fNil)) gMkL)) (fNil)) gMkL) ρ [rowD (wHead cn)] := by
  have hc : cn.length ≤ 60 := by rw [names_len h.nc]; exact h.c60
  have e0 : Ev (fOp2 gIx (fVar 1) (fC (.int 1))) ρ (.list (sDs cn)) := ev_ixT (k := 1) (Ev.var h1) .k rfl
  have z := evl_addL (evl_addL (ev_mkL (ρ := ρ) (.cons (Ev.k (d := .str nilS)) .nil) (by simp)).ev e0 (by simp; omega)).ev (ev_mkL (ρ := ρ) (.cons (Ev.k (d := .str "all")) .nil) (by simp)).ev (by simp; omega)
  refine Evl.to (ev_mkL (.cons z.ev .nil) (by simp)) ?_
  unfold rowD wHead sDs
  rw [List.map_append, List.map_append]
  rfl
theorem src_tab {ρ : DL.Env} (h0 : ρ[0]? = some (T0 tab)) : srcA (fCons (fVar 0) (fNil)) kEnum ρ = .ok ((List.range tab.length).map fun k : Nat => .tuple [.int (k : Nat), iL (tab.getD k [])]) ρ := by
  refine srcA_ok (.cons (Ev.var h0) .nil) ?_
  show some (enumD 0 (tab.map fun r => PyData.list (r.map .int))) = _
  rw [enumD_eq, List.length_map]
  congr 1
  refine List.map_congr_left fun i hi => ?_
  rw [Nat.zero_add, List.getD_eq_getElem?_getD, tab_at (List.mem_range.mp hi)]
  rfl
theorem wr_row (h : Gd tab rn cn) {ρ : DL.Env} {k : Nat} (hk : k < tab.length) (h1 : ρ[1]? = some (N0 rn cn)) (h3 : ρ[3]? = some (some (.pu (.int (k : Nat))))) (h4 : ρ[4]? = some (some (.pu (iL (tab.getD k []))))) (hw : wipeE ρ [5] = ρ) (hl : 5 < ρ.length) :
    Ev (fOp2 gAdd (fOp2 gAdd (bndA (fCons (fOp2 gIx (fOp2 gIx (fVar 1) (fC (.int 0))) (fVar 3)) (fNil)) gMkL) (fLc (srcE (fVar 4) itemsL) (bName 5) (fC (.bool true)) (bndA (fCons (fVar 5) (fNil)) gStr1) [5])) (bndA (fCons (bndA (fCons (bndA (fCons (fVar 4) (fNil)) gSum) (fNil)) gStr1) (fNil)) gMkL)) ρ (rowD (wRow tab rn k)) := by
  have m := getD_mem (l := tab) (d := []) hk
  have e0 : Ev (fOp2 gIx (fOp2 gIx (fVar 1) (fC (.int 0))) (fVar 3)) ρ (.str (rn.getD k nilS)) := ev_ixL (ev_ixT (k := 0) (Ev.var h1) .k rfl) (Ev.var h3) (sD_at (by rw [names_len h.nr]; exact hk))
  exact (ev_row e0 h4 hw (by decide) hl (fun n hn => Nat.lt_of_lt_of_le (h.ent _ m n hn) (by decide)) (Nat.lt_of_le_of_lt (h.rsum m) (by decide)) (by rw [h.same _ m]; have := h.c60; omega)).ev
abbrev sumsD (tab : List (List Int)) : List Int := sumsS tab (tab.getD 0 []).length
theorem w34 (z : DL.Env) (a : Option Sl) : ((((z.set 3 a).set 4 none).set 3 none).set 4 none).set 3 none = (z.set 4 none).set 3 none := by
  refine List.ext_getElem? fun i => ?_
  by_cases h3 : i = 3
  · subst h3
    simp only [List.getElem?_set, List.length_set]
    simp
  · by_cases h4 : i = 4
    · subst h4
      simp only [List.getElem?_set, List.length_set]
      simp
    · simp only [List.getElem?_set, List.length_set, if_neg (fun z => h3 (Eq.symm z)), if_neg (fun z => h4 (Eq.symm z))]
theorem wr_sums (h : Gd tab rn cn) {ρ ρ2 : DL.Env} {b : Option Sl} (h0 : ρ[0]? = some (T0 tab)) (h4 : ρ[4]? = some b) (hb : isPub b) (hw : wipeE ρ [3, 4] = ρ2) (hl : 5 < ρ.length) :
    ∃ b', isPub b' ∧ fLc (srcA (fCons (bndA (fCons (fOp2 gIx (fVar 0) (fC (.int 0))) (fNil)) gLen) (fNil)) kRng1) (bName 3) (fC (.bool true)) (bndA (fCons (fLc (srcE (fVar 0) itemsL) (bName 4) (fC (.bool true)) (fOp2 gIx (fVar 4) (fVar 3)) [4]) (fNil)) gSum) [3] ρ = .ok (.frs (isD (sumsD tab))) (ρ2.set 4 b') := by
  have ln : Ev (bndA (fCons (fOp2 gIx (fVar 0) (fC (.int 0))) (fNil)) gLen) ρ (.int ((tab.getD 0 []).length : Nat)) := ev_lenI (ev_ixL (k := 0) (Ev.var h0) .k (tab_at h.rows))
  have sr := rngS (ρ := ρ) (ρ1 := ρ) (show EvL (fCons _ fNil) ρ [.int ((tab.getD 0 []).length : Nat)] from .cons ln .nil) (by have := h.c60; omega)
  obtain ⟨ρ3, e1, e2, _, e4, e5, b', hb', e6⟩ := lcS (bind := bName 3) (fe := bndA (fCons (fLc (srcE (fVar 0) itemsL) (bName 4) (fC (.bool true)) (fOp2 gIx (fVar 4) (fVar 3)) [4]) (fNil)) gSum) (vs := [3]) (fun k : Nat => .int (k : Nat)) (fun k : Nat => .int ((tab.map fun r => r.getD k 0).sum)) (fun z => wipeE z [3, 4] = ρ2 ∧ z[0]? = some (T0 tab) ∧ 5 < z.length ∧ z[3]? = some none ∧ ∃ b', isPub b' ∧ z[4]? = some b') (List.range (tab.getD 0 []).length) sr (by
    refine ⟨?_, ?_, ?_, ?_, b, hb, ?_⟩
    · rw [← hw]
      show (((ρ.set 3 none).set 4 none)).set 3 none = (ρ.set 4 none).set 3 none
      rw [List.set_comm none none (by decide : 3 ≠ 4), List.set_set]
    · show (ρ.set 3 none)[0]? = _
      rw [List.getElem?_set_ne (by decide)]
      exact h0
    · show 5 < (ρ.set 3 none).length
      rw [List.length_set]; exact hl
    · show (ρ.set 3 none)[3]? = _
      rw [List.getElem?_set_self (by omega)]
    · show (ρ.set 3 none)[4]? = _
      rw [List.getElem?_set_ne (by decide)]
      exact h4) (by rw [List.length_range]; have := h.c60; exact Nat.le_trans this (by decide)) fun k hk z ⟨z1, z2, z3, z4, z5⟩ => by
    have hk := List.mem_range.mp hk
    let z' := z.set 3 (some (.pu (.int (k : Nat))))
    have q0 : z'[0]? = some (T0 tab) := by rw [List.getElem?_set_ne (by decide)]; exact z2
    have inner := lcK (ρ := z') (ρ1 := z') (ρ2 := z'.set 4 none) (bind := bName 4) (fe := fOp2 gIx (fVar 4) (fVar 3)) (vs := [4]) (fun r : List Int => iL r) (fun r : List Int => PyData.int (r.getD k 0)) tab (src_list (Ev.var q0)) rfl (by have := h.r60; exact Nat.le_trans this (by decide)) fun r hr => by
      refine ⟨(z'.set 4 none).set 4 (some (.pu (iL r))), rfl, ?_, ?_⟩
      · refine ev_ixI (Ev.var (List.getElem?_set_self (by rw [List.length_set, List.length_set]; omega))) (Ev.var (m := 0) ?_) (by rw [h.same r hr]; exact hk)
        rw [List.set_set, List.getElem?_set_ne (by decide), List.getElem?_set_self (by omega)]
      · show (((z'.set 4 none).set 4 _).set 4 none) = _
        rw [List.set_set, List.set_set]
    refine ⟨z', z'.set 4 none, rfl, ?_, ?_, ?_, ?_, ?_, none, (fun _ _ z => nomatch z), ?_⟩
    · have := EvS.bndA (ρ := z') (ρ1 := z'.set 4 none) (fs := fCons (fLc (srcE (fVar 0) itemsL) (bName 4) (fC (.bool true)) (fOp2 gIx (fVar 4) (fVar 3)) [4]) fNil) (ds := [iL (tab.map fun r => r.getD k 0)]) (w := .pu (.int ((tab.map fun r => r.getD k 0).sum))) (k := gSum) (.cons ⟨_, inner, by
        show PyData.list _ = PyData.list _
        rw [List.map_map]; rfl⟩ .nil) (sum_map _)
      exact this
    · rw [← z1]
      exact w34 z _
    · show (((z.set 3 _).set 4 none).set 3 none)[0]? = _
      rw [List.getElem?_set_ne (by decide), List.getElem?_set_ne (by decide), List.getElem?_set_ne (by decide)]
      exact z2
    · show 5 < (((z.set 3 _).set 4 none).set 3 none).length
      simp only [List.length_set]; exact z3
    · show (((z.set 3 _).set 4 none).set 3 none)[3]? = _
      rw [List.getElem?_set_self (by rw [List.length_set, List.length_set]; omega)]
    · show (((z.set 3 _).set 4 none).set 3 none)[4]? = _
      rw [List.getElem?_set_ne (by decide), List.getElem?_set_self (by rw [List.length_set]; omega)]
  refine ⟨b', hb', ?_⟩
  have e7 : ρ3 = ρ2.set 4 b' := by
    rw [← e2]
    show ρ3 = ((ρ3.set 4 none).set 3 none).set 4 b'
    refine List.ext_getElem? fun i => ?_
    by_cases c3 : i = 3
    · subst c3
      rw [List.getElem?_set_ne (by decide), List.getElem?_set_self (by rw [List.length_set]; omega), e5]
    · by_cases c4 : i = 4
      · subst c4
        rw [List.getElem?_set_self (by rw [List.length_set, List.length_set]; omega), e6]
      · rw [List.getElem?_set_ne (fun z => c4 z.symm), List.getElem?_set_ne (fun z => c3 z.symm), List.getElem?_set_ne (fun z => c4 z.symm)]
  rw [e1, ← e7]
  congr 2
  unfold isD sumsD sumsS
  rw [List.map_map]
  rfl
end
end K65
/-! B9: words_of. -/
namespace K65
open PySem L2 PyProof.Rows DL TL
section
variable {tab : List (List Int)} {rn cn : List Str}
abbrev wAcc (tab : List (List Int)) (rn cn : List Str) (done : List Nat) : Option Sl := some (.own 0 (rowD (wHead cn) :: done.map fun k => rowD (wRow tab rn k)))
theorem colE_pub {ρ : DL.Env} (h : ∀ o ∈ ρ, isPub o) : colE ρ = [] := colE_pubs fun o ho t ds => h o ho t ds
theorem pub_none : isPub none := fun _ _ z => nomatch z
theorem pub_pu (d : D) : isPub (some (.pu d)) := fun _ _ z => nomatch z
theorem wordsD_eq : (rowD (wHead cn) :: (List.range tab.length).map fun k => rowD (wRow tab rn k)) ++ [rowD (rowS "all" (sumsD tab))] = (wordsS tab rn cn).map rowD := by
  unfold wordsS
  rw [List.map_append, List.map_cons, List.map_map]
  rfl
theorem in_range {n : Nat} {a b : List Nat} {x : Nat} (e : List.range n = a ++ x :: b) : x < n ∧ a.length < n := by
  have h1 : x ∈ List.range n := by rw [e]; simp
  have h2 := congrArg List.length e
  rw [List.length_range, List.length_append, List.length_cons] at h2
  exact ⟨List.mem_range.mp h1, by omega⟩
/-- the loop over the table's rows -/
abbrev eRow : DL.Env → RE := fOp2 gAdd (fOp2 gAdd (bndA (fCons (fOp2 gIx (fOp2 gIx (fVar 1) (fC (.int 0))) (fVar 3)) (fNil)) gMkL) (fLc (srcE (fVar 4) itemsL) (bName 5) (fC (.bool true)) (bndA (fCons (fVar 5) (fNil)) gStr1) [5])) (bndA (fCons (bndA (fCons (bndA (fCons (fVar 4) (fNil)) gSum) (fNil)) gStr1) (fNil)) gMkL)
theorem wr_loop (h : Gd tab rn cn) (tl : DL.Env) :
    ∃ a b, isPub a ∧ isPub b ∧ Nx (sFor (srcA (fCons (fVar 0) (fNil)) kEnum) (bTup [bName 3, bName 4]) (sApp 2 eRow)) (T0 tab :: N0 rn cn :: wAcc tab rn cn [] :: none :: none :: none :: tl) (T0 tab :: N0 rn cn :: wAcc tab rn cn (List.range tab.length) :: a :: b :: none :: tl) := by
  obtain ⟨ρ', h1, a, b, ha, hb, rfl⟩ := for_nx (body := sApp 2 eRow) (bind := bTup [bName 3, bName 4]) (fun k : Nat => .tuple [.int (k : Nat), iL (tab.getD k [])]) (fun done ρ => ∃ a b, isPub a ∧ isPub b ∧ ρ = T0 tab :: N0 rn cn :: wAcc tab rn cn done :: a :: b :: none :: tl) (List.range tab.length) (src_tab (ρ := T0 tab :: N0 rn cn :: wAcc tab rn cn [] :: none :: none :: none :: tl) rfl) ⟨none, none, pub_none, pub_none, rfl⟩ fun done k rest e ρ ⟨a, b, ha, hb, eρ⟩ => by
    subst eρ
    obtain ⟨hk, hd⟩ := in_range e
    have q := wr_row h (ρ := T0 tab :: N0 rn cn :: wAcc tab rn cn done :: some (.pu (.int (k : Nat))) :: some (.pu (iL (tab.getD k []))) :: none :: tl) hk rfl rfl rfl rfl (by simp)
    have sz : (rowD (wHead cn) :: done.map fun k => rowD (wRow tab rn k)).length < sizeLine := by
      rw [List.length_cons, List.length_map]
      have := h.r60
      exact Nat.lt_of_lt_of_le (show done.length + 1 < 100 by omega) (by decide)
    refine ⟨_, _, rfl, Nx.app (i := 2) (t := 0) rfl q sz, some (.pu (.int (k : Nat))), some (.pu (iL (tab.getD k []))), pub_pu _, pub_pu _, ?_⟩
    show T0 tab :: N0 rn cn :: some (.own 0 _) :: _ = _
    rw [List.cons_append]
    unfold wAcc
    rw [List.map_append]
    rfl
  exact ⟨a, b, ha, hb, h1⟩
theorem frL_words (h : Gd tab rn cn) : FrL F_words_of [tabD tab, namesD rn cn] ((wordsS tab rn cn).map rowD) := by
  refine frL_of (n := 8) (g := g_words_of) (ds := [tabD tab, namesD rn cn]) ?_
  show RtL g_words_of [T0 tab, N0 rn cn, none, none, none, none, none, none] _
  refine RtL.seq (.own (wr_head h rfl) rfl) ?_
  show RtL _ [T0 tab, N0 rn cn, wAcc tab rn cn [], none, none, none, none, none] _
  obtain ⟨a, b, ha, hb, n1⟩ := wr_loop h [none, none]
  refine RtL.seq n1 ?_
  obtain ⟨b', hb', n2⟩ := wr_sums h (ρ := [T0 tab, N0 rn cn, wAcc tab rn cn (List.range tab.length), a, b, none, none, none]) (ρ2 := [T0 tab, N0 rn cn, wAcc tab rn cn (List.range tab.length), none, none, none, none, none]) rfl rfl hb rfl (by simp)
  refine RtL.seq (.putS n2) ?_
  show RtL _ [T0 tab, N0 rn cn, wAcc tab rn cn (List.range tab.length), none, b', none, some (.pu (iL (sumsD tab))), none] _
  have q := ev_row (ρ := [T0 tab, N0 rn cn, wAcc tab rn cn (List.range tab.length), none, b', none, some (.pu (iL (sumsD tab))), none]) (i := 6) (v := 7) (Ev.k (d := .str "all")) rfl rfl (by decide) (by simp) (fun n hn => Nat.lt_of_le_of_lt (h.csum hn) (by decide)) (Nat.lt_of_le_of_lt h.tot (by decide)) (by rw [h.sums]; have := h.c60; omega)
  have sz : (rowD (wHead cn) :: (List.range tab.length).map fun k => rowD (wRow tab rn k)).length < sizeLine := by
    rw [List.length_cons, List.length_map, List.length_range]
    have := h.r60
    exact Nat.lt_of_lt_of_le (show tab.length + 1 < 100 by omega) (by decide)
  refine RtL.seq (.app (i := 2) (t := 0) rfl q.ev sz) ?_
  show RtL (sRetOwn 2) [T0 tab, N0 rn cn, some (.own 0 ((rowD (wHead cn) :: (List.range tab.length).map fun k => rowD (wRow tab rn k)) ++ [rowD (rowS "all" (sumsD tab))])), none, b', none, some (.pu (iL (sumsD tab))), none] _
  rw [wordsD_eq]
  refine ⟨_, rfl, colE_pub fun o ho => ?_⟩
  have ho : o ∈ [T0 tab, N0 rn cn, none, none, b', none, some (.pu (iL (sumsD tab))), none] := ho
  simp only [List.mem_cons, List.not_mem_nil, or_false] at ho
  rcases ho with z | z | z | z | z | z | z | z <;> subst z
  · exact pub_pu _
  · exact pub_pu _
  · exact pub_none
  · exact pub_none
  · exact hb'
  · exact pub_none
  · exact pub_pu _
  · exact pub_none
end
end K65
/-! B10: drawn rows. -/
namespace K65
open PySem L2 PyProof.Rows DL TL
theorem joinL_len (S : List Nat) : ∀ ps : List (List Nat), (joinL S ps).length ≤ (ps.map (·.length)).sum + ps.length * S.length
  | [] => by simp [joinL]
  | [p] => by simp [joinL]
  | p :: q :: r => by
    show (p ++ (S ++ joinL S (q :: r))).length ≤ _
    have := joinL_len S (q :: r)
    rw [List.length_append, List.length_append, List.map_cons, List.sum_cons, List.length_cons (a := p), Nat.succ_mul]
    omega
theorem sum_bd {B : Nat} : ∀ {l : List Nat}, (∀ n ∈ l, n ≤ B) → l.sum ≤ l.length * B
  | [], _ => by simp
  | a :: l, h => by
    have h1 := h a List.mem_cons_self
    have h2 := sum_bd fun n hn => h n (List.mem_cons_of_mem _ hn)
    rw [List.sum_cons, List.length_cons, Nat.succ_mul]
    omega
theorem map_lens (ys : List Str) : (ys.map tl).map (·.length) = ys.map (·.length) := by
  rw [List.map_map]
  exact List.map_congr_left fun y _ => (len_tl y).symm
theorem join_len {y : Str} {ys : List Str} {B : Nat} (h : ∀ x ∈ ys, x.length ≤ B) : (Txt.join y ys).length ≤ ys.length * B + ys.length * y.length := by
  have h1 := joinL_len (tl y) (ys.map tl)
  rw [map_lens, List.length_map] at h1
  have h2 := sum_bd (l := ys.map (·.length)) (B := B) fun n hn => by
    obtain ⟨x, hx, rfl⟩ := List.mem_map.mp hn
    exact h x hx
  rw [List.length_map] at h2
  rw [join_eq, len_tl, tl_join, len_tl y]
  omega
theorem ev_join {ρ : DL.Env} {fa fb : DL.Env → RE} {y : Str} {ys : List Str} {B : Nat} (ha : Ev fa ρ (.str y)) (hb : Ev fb ρ (.list (sDs ys))) (h : ∀ x ∈ ys, x.length ≤ B) (hz : ys.length * B + ys.length * y.length ≤ 16777216) : Ev (fM1 gJoin fa fb) ρ (.str (Txt.join y ys)) := by
  refine ev_m1 (w := .pu (.str (Txt.join y ys))) ha hb ?_
  show (match strsOf (ys.map .str) with
    | some ys => if (ys.map Str.length).sum + ys.length * y.length ≤ 16777216 then some (W.pu (.str (Txt.join y ys))) else none
    | none => none) = _
  rw [strsOf_map]
  dsimp only
  have h2 := sum_bd (l := ys.map Str.length) (B := B) fun n hn => by
    obtain ⟨x, hx, rfl⟩ := List.mem_map.mp hn
    exact h x hx
  rw [List.length_map] at h2
  rw [if_pos (by omega)]
theorem ev_last {ρ : DL.Env} {fa : DL.Env → RE} {ds : List D} {d : D} (ha : Ev fa ρ (.list ds)) (h : ds[ds.length - 1]? = some d) : Ev (fOp2 gIx fa (fOp1 gNeg (fC (.int 1)))) ρ d := by
  have hl : ds.length - 1 < ds.length := (List.getElem?_eq_some_iff.mp h).1
  refine Ev.op2 (w := .pu d) ha (ev_neg .k) ?_
  show (atI ds (-1)).map W.pu = _
  have e : atI ds (-1) = some d := by
    unfold atI ixN
    rw [if_neg (by omega), if_pos (by omega)]
    show ds[((-1 : Int) + (ds.length : Int)).toNat]? = _
    rw [show ((-1 : Int) + (ds.length : Int)).toNat = ds.length - 1 by omega]
    exact h
  rw [e]
  rfl
theorem mulS_ok {n : Int} (h1 : -100 ≤ n) (h2 : n ≤ 100) : gMulS (.str " ") (.int n) = some (.pu (.str (strRep " " n))) := by
  have l1 : Str.length " " = 1 := by decide
  show (if -(2 ^ 31) ≤ n ∧ n < 2 ^ 31 ∧ Str.length " " ≤ 1 ∧ Str.length " " * n.toNat ≤ sizeLine then some (W.pu (.str (strRep " " n))) else none) = _
  rw [if_pos ⟨by omega, by omega, by rw [l1]; exact Nat.le_refl _, by
    rw [l1, Nat.one_mul]
    exact Nat.le_trans (show n.toNat ≤ 100 by omega) (by decide)⟩]
section
variable {ws : List (List Str)} {c : Nat}
theorem Bd.getD (B : Bd ws c) {r : List Str} (hr : r ∈ ws) (k : Nat) : (r.getD k nilS).length ≤ 70 := by
  by_cases h : k < r.length
  · exact B.wd r hr _ (getD_mem h)
  · rw [List.getD_eq_getElem?_getD, List.getElem?_eq_none (by omega)]
    decide
theorem Bd.ne (B : Bd ws c) (k : Nat) : (ws.map fun r => ((r.getD k nilS).length : Int)) ≠ [] := fun z => by
  have := congrArg List.length z
  rw [List.length_map, List.length_nil] at this
  have := B.pos
  omega
theorem Bd.wid (B : Bd ws c) (k : Nat) : 0 ≤ widS ws k ∧ widS ws k ≤ 70 := by
  have := maxI_mem (B.ne k)
  obtain ⟨r, hr, e⟩ := List.mem_map.mp this
  have h := B.getD hr k
  unfold widS
  rw [← e]
  omega
theorem Bd.le (B : Bd ws c) {r : List Str} (hr : r ∈ ws) (k : Nat) : ((r.getD k nilS).length : Int) ≤ widS ws k := le_maxI (List.mem_map_of_mem (f := fun r : List Str => ((r.getD k nilS).length : Int)) hr)
theorem max_ok (B : Bd ws c) (k : Nat) : gMaxL [.list (ws.map fun r => PyData.int ((r.getD k nilS).length : Nat))] = some (.pu (.int (widS ws k))) := by
  have e : (ws.map fun r => PyData.int ((r.getD k nilS).length : Nat)) = (ws.map fun r => ((r.getD k nilS).length : Int)).map .int := by rw [List.map_map]; rfl
  rw [e]
  show (match intsOf ((ws.map fun r => ((r.getD k nilS).length : Int)).map .int) with
    | some ns => if 0 < ns.length then some (W.pu (.int (maxI ns))) else none
    | none => none) = _
  rw [intsOf_map]
  dsimp only
  rw [if_pos (by rw [List.length_map]; exact B.pos)]
  rfl
abbrev widesL (ws : List (List Str)) (c : Nat) : List Int := (List.range (c + 2)).map (widS ws)
theorem wides_at {k : Nat} (h : k < c + 2) : (isD (widesL ws c))[k]? = some (.int (widS ws k)) := by
  unfold isD widesL
  rw [List.map_map, List.getElem?_map, List.getElem?_range h]
  rfl
theorem pad_len (B : Bd ws c) {r : List Str} (hr : r ∈ ws) (k : Nat) : (padS ws r k).length ≤ 140 := by
  rw [len_tl, tl_pad, List.length_append, List.length_replicate, ← len_tl]
  have := B.getD hr k
  have := B.wid k
  omega
theorem ev_pad (B : Bd ws c) {r : List Str} (hr : r ∈ ws) {ρ : DL.Env} {fw fk fx : DL.Env → RE} {k : Nat} (hw : Ev fw ρ (iL (widesL ws c))) (hk : Ev fk ρ (.int (k : Nat))) (hx : Ev fx ρ (.str (r.getD k nilS))) (h : k < c + 2) :
    Ev (fOp2 gAdd (fOp2 gMulS (fC (.str " ")) (fOp2 gSub (fOp2 gIx fw fk) (bndA (fCons fx (fNil)) gLen))) fx) ρ (.str (padS ws r k)) := by
  have h1 := B.getD hr k
  have h2 := B.wid k
  have e1 : Ev (fOp2 gIx fw fk) ρ (.int (widS ws k)) := ev_ixL hw hk (wides_at h)
  have e2 := ev_subI e1 (ev_lenS hx (by omega))
  have e3 := Ev.op2 (Ev.k (d := .str " ")) e2 (mulS_ok (by omega) (by omega))
  refine ev_addS e3 hx ?_
  rw [strRep_len]
  have l1 : Str.length " " = 1 := by decide
  rw [l1]
  omega
abbrev padsL (ws : List (List Str)) (c : Nat) (r : List Str) : List Str := (List.range (c + 2)).map (padS ws r)
theorem pads_cut (r : List Str) (h : r.length = c + 2) : DL.cutD (sDs (padsL ws c r)) (some 1) (some (-1)) = sDs (midS ws r) := by
  rw [cut_mid]
  unfold sDs padsL midS
  rw [h, ← List.map_tail, ← List.map_dropLast, ← List.map_tail, ← List.map_dropLast, List.range_succ_eq_map, List.tail_cons, List.range_succ, List.map_append, List.map_singleton, List.dropLast_concat, Nat.add_sub_cancel, List.map_map, List.map_map, List.map_map]
  rfl
theorem pads_at {r : List Str} {k : Nat} (h : k < c + 2) : (sDs (padsL ws c r))[k]? = some (.str (padS ws r k)) := by
  unfold sDs padsL
  rw [List.getElem?_map, List.getElem?_map, List.getElem?_range h]
  rfl
theorem mid_len (B : Bd ws c) {r : List Str} (hr : r ∈ ws) : (∀ x ∈ midS ws r, x.length ≤ 140) ∧ (midS ws r).length ≤ 60 := by
  unfold midS
  refine ⟨fun x hx => ?_, ?_⟩
  · obtain ⟨k, _, rfl⟩ := List.mem_map.mp hx
    exact pad_len B hr _
  · rw [List.length_map, List.length_range, B.len r hr]
    have := B.c60
    omega
theorem join_mid (B : Bd ws c) {r : List Str} (hr : r ∈ ws) : (Txt.join " " (midS ws r)).length ≤ 8460 := by
  obtain ⟨h1, h2⟩ := mid_len B hr
  have := join_len (y := " ") h1
  rw [show Str.length " " = 1 by decide] at this
  omega
theorem app_len (x y : Str) : (x ++ y).length = x.length + y.length := by
  rw [len_tl, tl_append, List.length_append, ← len_tl, ← len_tl]
theorem bar_len : Str.length " | " = 3 := by decide +kernel
theorem line_len (B : Bd ws c) {r : List Str} (hr : r ∈ ws) : (lineS ws r).length ≤ 8800 := by
  unfold lineS
  have h1 := pad_len B hr 0
  have h2 := pad_len B hr (r.length - 1)
  have h3 := join_mid B hr
  rw [app_len, app_len, app_len, app_len, bar_len]
  omega
section
variable {ρ : DL.Env} {fp : DL.Env → RE} {r : List Str}
theorem p_first (hp : Ev fp ρ (.list (sDs (padsL ws c r)))) : Ev (fOp2 gIx fp (fC (.int 0))) ρ (.str (padS ws r 0)) := ev_ixL (k := 0) hp .k (pads_at (by omega))
theorem p_mid (B : Bd ws c) (hr : r ∈ ws) (hp : Ev fp ρ (.list (sDs (padsL ws c r)))) : Ev (fM1 gJoin (fC (.str " ")) (fOp1 (gCut (some 1) (some (-1))) fp)) ρ (.str (Txt.join " " (midS ws r))) := by
  obtain ⟨h1, h2⟩ := mid_len B hr
  have z := (evl_cut (lo := some 1) (hi := some (-1)) hp).ev
  rw [pads_cut r (B.len r hr)] at z
  refine ev_join .k z h1 ?_
  rw [show Str.length " " = 1 by decide]
  omega
theorem p_last (B : Bd ws c) (hr : r ∈ ws) (hp : Ev fp ρ (.list (sDs (padsL ws c r)))) : Ev (fOp2 gIx fp (fOp1 gNeg (fC (.int 1)))) ρ (.str (padS ws r (r.length - 1))) := by
  have hl : (sDs (padsL ws c r)).length = c + 2 := by
    unfold sDs padsL
    rw [List.length_map, List.length_map, List.length_range]
  refine ev_last hp ?_
  rw [hl, B.len r hr]
  exact pads_at (by omega)
theorem ev_line (B : Bd ws c) (hr : r ∈ ws) (hp : Ev fp ρ (.list (sDs (padsL ws c r)))) : Ev (fOp2 gAdd (fOp2 gAdd (fOp2 gAdd (fOp2 gAdd (fOp2 gIx fp (fC (.int 0))) (fC (.str " | "))) (fM1 gJoin (fC (.str " ")) (fOp1 (gCut (some 1) (some (-1))) fp))) (fC (.str " | "))) (fOp2 gIx fp (fOp1 gNeg (fC (.int 1))))) ρ (.str (lineS ws r)) := by
  have h1 := pad_len B hr 0
  have h2 := pad_len B hr (r.length - 1)
  have h3 := join_mid B hr
  refine ev_addS (ev_addS (ev_addS (ev_addS (p_first hp) .k ?_) (p_mid B hr hp) ?_) .k ?_) (p_last B hr hp) ?_
  · rw [bar_len]; omega
  · rw [app_len, bar_len]; omega
  · rw [app_len, app_len, bar_len]; omega
  · rw [app_len, app_len, app_len, bar_len]; omega
end
end
end K65
/-! B11: drawn_rows, _law_drawing. -/
namespace K65
open PySem L2 PyProof.Rows DL TL
section
variable {ws : List (List Str)} {c : Nat}
theorem ws_at (B : Bd ws c) : (ws.map rowD)[0]? = some (rowD (ws.getD 0 [])) := by
  rw [List.getElem?_map, List.getElem?_eq_getElem B.pos, List.getD_eq_getElem?_getD, List.getElem?_eq_getElem B.pos]
  rfl
theorem ws0 (B : Bd ws c) : (ws.getD 0 []).length = c + 2 := B.len _ (getD_mem B.pos)
theorem enum_row {ρ : DL.Env} {fa : DL.Env → RE} {r : List Str} (h : Ev fa ρ (rowD r)) : srcA (fCons fa (fNil)) kEnum ρ = .ok ((List.range r.length).map fun k : Nat => .tuple [.int (k : Nat), .str (r.getD k nilS)]) ρ := by
  refine srcA_ok (.cons h .nil) ?_
  show some (enumD 0 (sDs r)) = _
  rw [enumD_eq]
  unfold sDs
  rw [List.length_map]
  congr 1
  refine List.map_congr_left fun i hi => ?_
  rw [Nat.zero_add, List.getD_eq_getElem?_getD, show (List.map PyData.str r)[i]? = _ from sD_at (List.mem_range.mp hi)]
  rfl
theorem sz62 {n : Nat} (h : n ≤ 100) : n ≤ sizeLine := Nat.le_trans h (by decide)
abbrev linesD (ws : List (List Str)) (done : List (List Str)) : Option Sl := some (.own 0 (done.map fun r => .str (lineS ws r)))
theorem fr_drawn (B : Bd ws c) : Fr F_drawn_rows [rowsD ws] (.str (textS ws)) := by
  refine fr_of (n := 8) (g := g_drawn_rows) (ds := [rowsD ws]) ?_
  show Rt g_drawn_rows [some (.pu (rowsD ws)), none, none, none, none, none, none, none] _
  have ln : EvL (fCons (bndA (fCons (fOp2 gIx (fVar 0) (fC (.int 0))) (fNil)) gLen) fNil) [some (.pu (rowsD ws)), none, none, none, none, none, none, none] [.int (c + 2 : Nat)] := .cons (Ev.to (ev_len (ev_ixL (k := 0) (Ev.var rfl) .k (ws_at B))) (by rw [List.length_map, ws0 B])) .nil
  have bc := B.c60
  have w1 := evl_map (ρ := [some (.pu (rowsD ws)), none, none, none, none, none, none, none]) (bind := bName 3) (fe := bndA (fCons (fLc (srcE (fVar 0) itemsL) (bName 2) (fC (.bool true)) (bndA (fCons (fOp2 gIx (fVar 2) (fVar 3)) (fNil)) gLen) [2]) (fNil)) gMaxL) (vs := [3]) (fun k : Nat => .int (k : Nat)) (fun k : Nat => .int (widS ws k)) (List.range (c + 2)) (rngS ln (by omega)) rfl (by rw [List.length_range]; exact sz62 (by omega)) fun k hk => by
    have hk := List.mem_range.mp hk
    have i1 := evl_map (ρ := [some (.pu (rowsD ws)), none, none, some (.pu (.int (k : Nat))), none, none, none, none]) (bind := bName 2) (fe := bndA (fCons (fOp2 gIx (fVar 2) (fVar 3)) (fNil)) gLen) (vs := [2]) rowD (fun r => .int ((r.getD k nilS).length : Nat)) ws (src_list (Ev.var (i := 0) rfl)) rfl (sz62 (by have := B.few; omega)) fun r hr =>
      ⟨[some (.pu (rowsD ws)), none, some (.pu (rowD r)), some (.pu (.int (k : Nat))), none, none, none, none], rfl, ev_lenS (ev_ixL (ds := sDs r) (Ev.var rfl) (Ev.var rfl) (sD_at (by rw [B.len r hr]; exact hk))) (by have := B.getD hr k; omega), rfl⟩
    exact ⟨[some (.pu (rowsD ws)), none, none, some (.pu (.int (k : Nat))), none, none, none, none], rfl, Ev.bndA (w := .pu (.int (widS ws k))) (.cons i1.ev .nil) (max_ok B k), rfl⟩
  have w1 := Evl.to w1 (show _ = isD (widesL ws c) by unfold isD widesL; rw [List.map_map]; rfl)
  refine Rt.seq (.put w1.ev) ?_
  show Rt _ [some (.pu (rowsD ws)), some (.pu (iL (widesL ws c))), none, none, none, none, none, none] _
  refine Rt.seq (.own (ev_mkL .nil (by simp)) rfl) ?_
  show Rt _ [some (.pu (rowsD ws)), some (.pu (iL (widesL ws c))), none, none, linesD ws [], none, none, none] _
  obtain ⟨ρ', n1, a, b, ha, hb, rfl⟩ := for_nx (bind := bName 2) (body := sSeq (sPut 5 (fLc (srcA (fCons (fVar 2) (fNil)) kEnum) (bTup [bName 3, bName 6]) (fC (.bool true)) (fOp2 gAdd (fOp2 gMulS (fC (.str " ")) (fOp2 gSub (fOp2 gIx (fVar 1) (fVar 3)) (bndA (fCons (fVar 6) (fNil)) gLen))) (fVar 6)) [3, 6])) (sApp 4 (fOp2 gAdd (fOp2 gAdd (fOp2 gAdd (fOp2 gAdd (fOp2 gIx (fVar 5) (fC (.int 0))) (fC (.str " | "))) (fM1 gJoin (fC (.str " ")) (fOp1 (gCut (some 1) (some (-1))) (fVar 5)))) (fC (.str " | "))) (fOp2 gIx (fVar 5) (fOp1 gNeg (fC (.int 1))))))) rowD
    (fun done ρ => ∃ a b, isPub a ∧ isPub b ∧ ρ = [some (.pu (rowsD ws)), some (.pu (iL (widesL ws c))), a, none, linesD ws done, b, none, none]) ws
    (ρ := [some (.pu (rowsD ws)), some (.pu (iL (widesL ws c))), none, none, linesD ws [], none, none, none]) (src_list (Ev.var (i := 0) rfl)) ⟨none, none, pub_none, pub_none, rfl⟩ fun done r rest e ρ ⟨a, b, ha, hb, eρ⟩ => by
    subst eρ
    have hr : r ∈ ws := by rw [e]; simp
    have hd : done.length < 100 := by
      have := congrArg List.length e
      rw [List.length_append, List.length_cons] at this
      have := B.few
      omega
    have p1 := evl_map (ρ := [some (.pu (rowsD ws)), some (.pu (iL (widesL ws c))), some (.pu (rowD r)), none, linesD ws done, b, none, none]) (bind := bTup [bName 3, bName 6]) (fe := fOp2 gAdd (fOp2 gMulS (fC (.str " ")) (fOp2 gSub (fOp2 gIx (fVar 1) (fVar 3)) (bndA (fCons (fVar 6) (fNil)) gLen))) (fVar 6)) (vs := [3, 6]) (fun k : Nat => .tuple [.int (k : Nat), .str (r.getD k nilS)]) (fun k => .str (padS ws r k)) (List.range r.length) (enum_row (Ev.var (i := 2) rfl)) rfl (by rw [List.length_range, B.len r hr]; exact sz62 (by omega)) fun k hk => by
      have hk := List.mem_range.mp hk
      rw [B.len r hr] at hk
      exact ⟨[some (.pu (rowsD ws)), some (.pu (iL (widesL ws c))), some (.pu (rowD r)), some (.pu (.int (k : Nat))), linesD ws done, b, some (.pu (.str (r.getD k nilS))), none], rfl, ev_pad B hr (Ev.var rfl) (Ev.var rfl) (Ev.var rfl) hk, rfl⟩
    have p1 := Evl.to p1 (show _ = sDs (padsL ws c r) by unfold sDs padsL; rw [B.len r hr, List.map_map]; rfl)
    have sz : (done.map fun r => PyData.str (lineS ws r)).length < sizeLine := by
      rw [List.length_map]
      exact Nat.lt_of_lt_of_le hd (by decide)
    refine ⟨[some (.pu (rowsD ws)), some (.pu (iL (widesL ws c))), some (.pu (rowD r)), none, linesD ws done, b, none, none], _, rfl, Nx.seq (.put p1.ev) (.app (i := 4) (t := 0) (ds := done.map fun r => PyData.str (lineS ws r)) rfl (ev_line B hr (Ev.var rfl)) sz), some (.pu (rowD r)), some (.pu (.list (sDs (padsL ws c r)))), pub_pu _, pub_pu _, ?_⟩
    show ([some (.pu (rowsD ws)), some (.pu (iL (widesL ws c))), some (.pu (rowD r)), none, some (.own 0 ((done.map fun r => PyData.str (lineS ws r)) ++ [PyData.str (lineS ws r)])), some (.pu (.list (sDs (padsL ws c r)))), none, none] : DL.Env) = _
    unfold linesD
    rw [List.map_append]
    rfl
  refine Rt.seq n1 ?_
  let ρ1 : DL.Env := [some (.pu (rowsD ws)), some (.pu (iL (widesL ws c))), a, none, linesD ws ws, b, none, none]
  let ρ2 : DL.Env := [some (.pu (rowsD ws)), some (.pu (iL (widesL ws c))), a, none, some (.pu (.list (ws.map fun r => .str (lineS ws r)))), b, none, none]
  have s4 : srcE (fVar 4) itemsL ρ1 = .ok (ws.map fun r => .str (lineS ws r)) ρ2 := rfl
  have l1 := lcK (ρ := ρ1) (ρ1 := ρ2) (ρ2 := ρ2) (bind := bName 7) (fe := fOp2 gAdd (fVar 7) (fC (.str "\n"))) (vs := [7]) (fun r => PyData.str (lineS ws r)) (fun r => PyData.str (lineS ws r ++ ("\n" : Str))) ws s4 rfl (sz62 (by have := B.few; omega)) fun r hr =>
    ⟨[some (.pu (rowsD ws)), some (.pu (iL (widesL ws c))), a, none, some (.pu (.list (ws.map fun r => .str (lineS ws r)))), b, none, some (.pu (.str (lineS ws r)))], rfl, ev_addS (Ev.var rfl) .k (by
      have := line_len B hr
      rw [show Str.length "\n" = 1 by decide +kernel]
      omega), rfl⟩
  have jn : gJoin "" (.list (ws.map fun r => PyData.str (lineS ws r ++ ("\n" : Str)))) = some (.pu (.str (textS ws))) := by
    have e : (ws.map fun r => PyData.str (lineS ws r ++ ("\n" : Str))) = (ws.map fun r => lineS ws r ++ ("\n" : Str)).map .str := by rw [List.map_map]; rfl
    rw [e]
    show (match strsOf ((ws.map fun r => lineS ws r ++ ("\n" : Str)).map .str) with
      | some ys => if (ys.map Str.length).sum + ys.length * Str.length "" ≤ 16777216 then some (W.pu (.str (Txt.join "" ys))) else none
      | none => none) = _
    rw [strsOf_map]
    dsimp only
    have h2 := sum_bd (l := (ws.map fun r => lineS ws r ++ ("\n" : Str)).map Str.length) (B := 8801) fun n hn => by
      obtain ⟨x, hx, rfl⟩ := List.mem_map.mp hn
      obtain ⟨r, hr, rfl⟩ := List.mem_map.mp hx
      rw [app_len, show Str.length "\n" = 1 by decide +kernel]
      have := line_len B hr
      omega
    rw [List.length_map, List.length_map] at h2
    rw [show Str.length "" = 0 by decide, if_pos (by have := B.few; omega)]
    rfl
  refine ⟨.pu (.str (textS ws)), ρ2, ?_, rfl, colE_pub fun o ho => ?_⟩
  · show sRet (fM1 gJoin (fC (.str "")) (fLc (srcE (fVar 4) itemsL) (bName 7) (fC (.bool true)) (fOp2 gAdd (fVar 7) (fC (.str "\n"))) [7])) ρ1 = _
    have e : fM1 gJoin (fC (.str "")) (fLc (srcE (fVar 4) itemsL) (bName 7) (fC (.bool true)) (fOp2 gAdd (fVar 7) (fC (.str "\n"))) [7]) ρ1 = .ok (.pu (.str (textS ws))) ρ2 := by
      show bndE (fLc _ _ _ _ _) (fun d2 => resW (gJoin "" d2)) ρ1 = _
      unfold bndE
      rw [l1]
      show resW (gJoin "" (.list (ws.map fun r => PyData.str (lineS ws r ++ ("\n" : Str))))) ρ2 = _
      rw [jn]
      rfl
    unfold sRet sE
    rw [e]
  · have ho : o ∈ ρ2 := ho
    simp only [ρ2, List.mem_cons, List.not_mem_nil, or_false] at ho
    rcases ho with z | z | z | z | z | z | z | z <;> subst z
    · exact pub_pu _
    · exact pub_pu _
    · exact ha
    · exact pub_none
    · exact pub_pu _
    · exact hb
    · exact pub_none
    · exact pub_none
end
section
variable {tab : List (List Int)} {rn cn : List Str}
theorem fr_draw (h : Gd tab rn cn) : Fr F_drawn_rows [.list ((wordsS tab rn cn).map rowD)] (.str (drawS tab rn cn)) := fr_drawn h.bd
def accS (ws done : List (List Str)) : Str := textS ws |> fun _ => Txt.join "" (done.map fun r => lineS ws r ++ ("\n" : Str))
theorem tl_acc (ws done : List (List Str)) : tl (accS ws done) = (done.map fun r => tl (lineS ws r) ++ [10]).flatten := by
  unfold accS
  show tl (Txt.join "" (done.map fun r => lineS ws r ++ ("\n" : Str))) = _
  rw [join_eq, tl_join, show tl ("" : Str) = [] from rfl, joinL_nil, List.map_map]
  congr 1
  refine List.map_congr_left fun r _ => ?_
  show tl (lineS ws r ++ ("\n" : Str)) = _
  rw [tl_append, tl_nl]
theorem acc_step (ws done : List (List Str)) (r : List Str) : ((((((accS ws done ++ padS ws r 0) ++ (" | " : Str)) ++ Txt.join " " (midS ws r)) ++ (" | " : Str)) ++ padS ws r (r.length - 1)) ++ ("\n" : Str)) = accS ws (done ++ [r]) := by
  refine ext_tl ?_
  rw [tl_acc ws (done ++ [r]), List.map_append, List.flatten_append, List.map_singleton, List.flatten_singleton, ← tl_acc ws done]
  generalize accS ws done = a
  unfold lineS
  simp only [tl_append, tl_nl, List.append_assoc]
theorem acc_len {ws : List (List Str)} {c : Nat} (B : Bd ws c) {done : List (List Str)} (h : ∀ r ∈ done, r ∈ ws) : (accS ws done).length ≤ done.length * 8801 := by
  rw [len_tl, tl_acc, List.length_flatten, List.map_map]
  have := sum_bd (l := done.map (List.length ∘ fun r => tl (lineS ws r) ++ [10])) (B := 8801) fun n hn => by
    obtain ⟨r, hr, rfl⟩ := List.mem_map.mp hn
    show (tl (lineS ws r) ++ [10]).length ≤ _
    rw [List.length_append, ← len_tl]
    have := line_len B (h r hr)
    simp only [List.length_cons, List.length_nil]
    omega
  rwa [List.length_map] at this
theorem nx_bindS {ρ ρ' ρ1 : DL.Env} {fa : DL.Env → RE} {d : D} {bd : D → DL.Env → Option DL.Env} (ha : EvS fa ρ ρ' d) (h : bd d ρ' = some ρ1) : Nx (sBind bd fa) ρ ρ1 := by
  obtain ⟨w, h1, rfl⟩ := ha
  unfold Nx sBind sE
  rw [h1]
  dsimp only
  rw [h]
theorem fr_drawing (h : Gd tab rn cn) : Fr F_l_drawing [tabD tab, namesD rn cn] (.str (drawS tab rn cn)) := by
  refine fr_of (n := 10) (g := g_l_drawing) (ds := [tabD tab, namesD rn cn]) ?_
  show Rt g_l_drawing [T0 tab, N0 rn cn, none, none, none, none, none, none, none, none] _
  have B := h.bd
  have bc := B.c60
  refine Rt.seq (.own (wr_head h rfl) rfl) ?_
  show Rt _ [T0 tab, N0 rn cn, wAcc tab rn cn [], none, none, none, none, none, none, none] _
  obtain ⟨a, b, ha, hb, n1⟩ := wr_loop h [none, none, none, none]
  refine Rt.seq n1 ?_
  obtain ⟨b', hb', n2⟩ := wr_sums h (ρ := [T0 tab, N0 rn cn, wAcc tab rn cn (List.range tab.length), a, b, none, none, none, none, none]) (ρ2 := [T0 tab, N0 rn cn, wAcc tab rn cn (List.range tab.length), none, none, none, none, none, none, none]) rfl rfl hb rfl (by simp)
  refine Rt.seq (.putS n2) ?_
  show Rt _ [T0 tab, N0 rn cn, wAcc tab rn cn (List.range tab.length), none, b', none, some (.pu (iL (sumsD tab))), none, none, none] _
  have q := ev_row (ρ := [T0 tab, N0 rn cn, wAcc tab rn cn (List.range tab.length), none, b', none, some (.pu (iL (sumsD tab))), none, none, none]) (i := 6) (v := 5) (Ev.k (d := .str "all")) rfl rfl (by decide) (by simp) (fun n hn => Nat.lt_of_le_of_lt (h.csum hn) (by decide)) (Nat.lt_of_le_of_lt h.tot (by decide)) (by rw [h.sums]; have := h.c60; omega)
  have sz : (rowD (wHead cn) :: (List.range tab.length).map fun k => rowD (wRow tab rn k)).length < sizeLine := by
    rw [List.length_cons, List.length_map, List.length_range]
    have := h.r60
    exact Nat.lt_of_lt_of_le (show tab.length + 1 < 100 by omega) (by decide)
  refine Rt.seq (.app (i := 2) (t := 0) rfl q.ev sz) ?_
  show Rt _ [T0 tab, N0 rn cn, some (.own 0 ((rowD (wHead cn) :: (List.range tab.length).map fun k => rowD (wRow tab rn k)) ++ [rowD (rowS "all" (sumsD tab))])), none, b', none, some (.pu (iL (sumsD tab))), none, none, none] _
  rw [wordsD_eq]
  unfold drawS
  generalize wordsS tab rn cn = ws at B
  generalize (tab.getD 0 []).length = c at B bc
  generalize hS : some (Sl.pu (iL (sumsD tab))) = sS
  have hS : isPub sS := by rw [← hS]; exact pub_pu _
  have f62 := B.few
  let env : Option Sl → Option Sl → DL.Env := fun x3 x4 => [T0 tab, N0 rn cn, some (.pu (rowsD ws)), x3, x4, none, sS, none, none, none]
  have s1 : srcA (fCons (bndA (fCons (fOp2 gIx (fVar 2) (fC (.int 0))) (fNil)) gLen) (fNil)) kRng1 [T0 tab, N0 rn cn, some (.own 0 (ws.map rowD)), none, b', none, sS, none, none, none] = .ok ((List.range (c + 2)).map fun k : Nat => .int (k : Nat)) (env none b') := by
    refine rngS ?_ (by omega)
    have e0 : EvS (fVar 2) [T0 tab, N0 rn cn, some (.own 0 (ws.map rowD)), none, b', none, sS, none, none, none] (env none b') (rowsD ws) := EvS.share (i := 2) (t := 0) rfl
    have e1 : EvS (fOp2 gIx (fVar 2) (fC (.int 0))) [T0 tab, N0 rn cn, some (.own 0 (ws.map rowD)), none, b', none, sS, none, none, none] (env none b') (rowD (ws.getD 0 [])) := EvS.op2 (w := .pu (rowD (ws.getD 0 []))) e0 Ev.k.s (by
      show (atI (ws.map rowD) ((0 : Nat) : Int)).map W.pu = _
      rw [DL.atI_nat (ws_at B)]
      rfl)
    have e2 : EvS (bndA (fCons (fOp2 gIx (fVar 2) (fC (.int 0))) (fNil)) gLen) [T0 tab, N0 rn cn, some (.own 0 (ws.map rowD)), none, b', none, sS, none, none, none] (env none b') (.int (c + 2 : Nat)) := EvS.bndA (w := .pu (.int (c + 2 : Nat))) (.cons e1 .nil) (by
      show some (W.pu (.int ((sDs (ws.getD 0 [])).length : Nat))) = _
      rw [List.length_map, ws0 B])
    exact EvLS.cons e2 .nil
  obtain ⟨ρ3, w1, a4, ha4, e3⟩ := lcS (bind := bName 3) (fe := bndA (fCons (fLc (srcE (fVar 2) itemsL) (bName 4) (fC (.bool true)) (bndA (fCons (fOp2 gIx (fVar 4) (fVar 3)) (fNil)) gLen) [4]) (fNil)) gMaxL) (vs := [3]) (fun k : Nat => .int (k : Nat)) (fun k : Nat => .int (widS ws k)) (fun z => ∃ x, isPub x ∧ z = env none x) (List.range (c + 2)) s1 ⟨b', hb', rfl⟩ (by rw [List.length_range]; exact sz62 (by omega)) fun k hk z ⟨x, hx, ez⟩ => by
    have hk := List.mem_range.mp hk
    subst ez
    have i1 := lcK (ρ := env (some (.pu (.int (k : Nat)))) x) (ρ1 := env (some (.pu (.int (k : Nat)))) x) (ρ2 := env (some (.pu (.int (k : Nat)))) none) (bind := bName 4) (fe := bndA (fCons (fOp2 gIx (fVar 4) (fVar 3)) (fNil)) gLen) (vs := [4]) rowD (fun r => .int ((r.getD k nilS).length : Nat)) ws (src_list (Ev.var (i := 2) rfl)) rfl (sz62 (by omega)) fun r hr =>
      ⟨env (some (.pu (.int (k : Nat)))) (some (.pu (rowD r))), rfl, ev_lenS (ev_ixL (ds := sDs r) (Ev.var rfl) (Ev.var rfl) (sD_at (by rw [B.len r hr]; exact hk))) (by have := B.getD hr k; omega), rfl⟩
    exact ⟨env (some (.pu (.int (k : Nat)))) x, env (some (.pu (.int (k : Nat)))) none, rfl, EvS.bndA (w := .pu (.int (widS ws k))) (.cons ⟨_, i1, rfl⟩ .nil) (max_ok B k), none, pub_none, rfl⟩
  subst e3
  have ew : (List.range (c + 2)).map (fun k : Nat => PyData.int (widS ws k)) = isD (widesL ws c) := by unfold isD widesL; rw [List.map_map]; rfl
  rw [ew] at w1
  let envT : Option Sl → D → Option Sl → DL.Env := fun x4 t x9 => [T0 tab, N0 rn cn, some (.pu (rowsD ws)), none, x4, none, sS, some (.pu (iL (widesL ws c))), some (.pu t), x9]
  have n4 : ∀ g d, Rt g (envT a4 (.str nilS) none) d → Rt (sSeq (sBind (bTup [bName 7, bName 8]) (bndA (fCons (fLc (srcA (fCons (bndA (fCons (fOp2 gIx (fVar 2) (fC (.int 0))) (fNil)) gLen) (fNil)) kRng1) (bName 3) (fC (.bool true)) (bndA (fCons (fLc (srcE (fVar 2) itemsL) (bName 4) (fC (.bool true)) (bndA (fCons (fOp2 gIx (fVar 4) (fVar 3)) (fNil)) gLen) [4]) (fNil)) gMaxL) [3]) (fCons (fC (.str "")) (fNil))) gMkT)) g) [T0 tab, N0 rn cn, some (.own 0 (ws.map rowD)), none, b', none, sS, none, none, none] d := fun g d hg => by
    exact Rt.seq (nx_bindS (EvS.bndA (w := .pu (.tuple [iL (widesL ws c), .str nilS])) (.cons ⟨_, w1, rfl⟩ (.cons Ev.k.s .nil)) rfl) rfl) hg
  refine n4 _ _ ?_
  obtain ⟨ρ', n5, a, b9, ha, hb9, rfl⟩ := for_nx (bind := bName 4) (body := sSeq (sPut 9 (fLc (srcA (fCons (bndA (fCons (fVar 4) (fNil)) gLen) (fNil)) kRng1) (bName 3) (fC (.bool true)) (fOp2 gAdd (fOp2 gMulS (fC (.str " ")) (fOp2 gSub (fOp2 gIx (fVar 7) (fVar 3)) (bndA (fCons (fOp2 gIx (fVar 4) (fVar 3)) (fNil)) gLen))) (fOp2 gIx (fVar 4) (fVar 3))) [3])) (sPut 8 (fOp2 gAdd (fOp2 gAdd (fOp2 gAdd (fOp2 gAdd (fOp2 gAdd (fOp2 gAdd (fVar 8) (fOp2 gIx (fVar 9) (fC (.int 0)))) (fC (.str " | "))) (fM1 gJoin (fC (.str " ")) (fOp1 (gCut (some 1) (some (-1))) (fVar 9)))) (fC (.str " | "))) (fOp2 gIx (fVar 9) (fOp1 gNeg (fC (.int 1))))) (fC (.str "\n"))))) rowD
    (fun done ρ => ∃ a b, isPub a ∧ isPub b ∧ ρ = envT a (.str (accS ws done)) b) ws (ρ := envT a4 (.str nilS) none) (src_list (Ev.var (i := 2) rfl)) ⟨a4, none, ha4, pub_none, rfl⟩ fun done r rest e ρ ⟨x4, x9, hx4, hx9, eρ⟩ => by
    subst eρ
    have hr : r ∈ ws := by rw [e]; simp
    have hd : done.length < 62 := by
      have := congrArg List.length e
      rw [List.length_append, List.length_cons] at this
      omega
    have ln : EvL (fCons (bndA (fCons (fVar 4) (fNil)) gLen) fNil) (envT (some (.pu (rowD r))) (.str (accS ws done)) x9) [.int (c + 2 : Nat)] := .cons (Ev.to (ev_len (ds := sDs r) (Ev.var rfl)) (by rw [List.length_map, B.len r hr])) .nil
    have p1 := evl_map (ρ := envT (some (.pu (rowD r))) (.str (accS ws done)) x9) (bind := bName 3) (fe := fOp2 gAdd (fOp2 gMulS (fC (.str " ")) (fOp2 gSub (fOp2 gIx (fVar 7) (fVar 3)) (bndA (fCons (fOp2 gIx (fVar 4) (fVar 3)) (fNil)) gLen))) (fOp2 gIx (fVar 4) (fVar 3))) (vs := [3]) (fun k : Nat => .int (k : Nat)) (fun k => .str (padS ws r k)) (List.range (c + 2)) (rngS ln (by omega)) rfl (by rw [List.length_range]; exact sz62 (by omega)) fun k hk => by
      have hk := List.mem_range.mp hk
      exact ⟨[T0 tab, N0 rn cn, some (.pu (rowsD ws)), some (.pu (.int (k : Nat))), some (.pu (rowD r)), none, sS, some (.pu (iL (widesL ws c))), some (.pu (.str (accS ws done))), x9], rfl, ev_pad B hr (Ev.var rfl) (Ev.var rfl) (ev_ixL (ds := sDs r) (Ev.var rfl) (Ev.var rfl) (sD_at (by rw [B.len r hr]; exact hk))) hk, rfl⟩
    have p1 := Evl.to p1 (show _ = sDs (padsL ws c r) by unfold sDs padsL; rw [List.map_map]; rfl)
    have al := acc_len B (done := done) fun x hx => by rw [e]; exact List.mem_append_left _ hx
    have h1 := pad_len B hr 0
    have h2 := pad_len B hr (r.length - 1)
    have h3 := join_mid B hr
    have nl1 : Str.length "\n" = 1 := by decide +kernel
    let ρp := envT (some (.pu (rowD r))) (.str (accS ws done)) (some (.pu (.list (sDs (padsL ws c r)))))
    have hp : Ev (fVar 9) ρp (.list (sDs (padsL ws c r))) := Ev.var rfl
    have z := ev_addS (ρ := ρp) (ev_addS (ev_addS (ev_addS (ev_addS (ev_addS (Ev.var (i := 8) rfl) (p_first hp) (by omega)) (Ev.k (d := .str " | ")) (by rw [app_len, bar_len]; omega)) (p_mid B hr hp) (by rw [app_len, app_len, bar_len]; omega)) (Ev.k (d := .str " | ")) (by rw [app_len, app_len, app_len, bar_len]; omega)) (p_last B hr hp) (by rw [app_len, app_len, app_len, app_len, bar_len]; omega)) (Ev.k (d := .str "\n")) (by rw [app_len, app_len, app_len, app_len, app_len, bar_len, nl1]; omega)
    rw [acc_step] at z
    exact ⟨envT (some (.pu (rowD r))) (.str (accS ws done)) x9, envT (some (.pu (rowD r))) (.str (accS ws (done ++ [r]))) (some (.pu (.list (sDs (padsL ws c r))))), rfl, Nx.seq (.put p1.ev) (.put z), some (.pu (rowD r)), some (.pu (.list (sDs (padsL ws c r)))), pub_pu _, pub_pu _, rfl⟩
  refine Rt.seq n5 (.ret (Ev.var rfl) (colE_pub fun o ho => ?_))
  have ho : o ∈ [T0 tab, N0 rn cn, some (.pu (rowsD ws)), none, a, none, sS, some (.pu (iL (widesL ws c))), some (.pu (.str (accS ws ws))), b9] := ho
  simp only [List.mem_cons, List.not_mem_nil, or_false] at ho
  rcases ho with z | z | z | z | z | z | z | z | z | z <;> subst z
  · exact pub_pu _
  · exact pub_pu _
  · exact pub_pu _
  · exact pub_none
  · exact ha
  · exact pub_none
  · exact hS
  · exact pub_pu _
  · exact pub_pu _
  · exact hb9
end
end K65
/-! B12: grid_of_text. -/
namespace K65
open PySem L2 PyProof.Rows DL TL
abbrev optR : Option (List Str) → D
  | none => .none
  | some r => rowD r
/-- what a row of words is -/
structure Rw (r : List Str) : Prop where
  two : 2 ≤ r.length
  few : r.length ≤ 2 ^ 20 + 3
  tx : ∀ w ∈ r, Tx w
theorem tx_nil : Tx nilS := ⟨by decide, fun c hc => by rw [tl_nil] at hc; cases hc⟩
theorem tx_at {ls : List Str} (h : ∀ p ∈ ls, Tx p) (k : Nat) : Tx (ls.getD k nilS) := by
  rw [List.getD_eq_getElem?_getD]
  cases e : ls[k]? with
  | none => exact tx_nil
  | some w => exact h w (List.mem_of_getElem? e)
theorem parts_rw {l : Str} {r : List Str} (h : Tx l) (e : partsS l = some r) : Rw r := by
  have kb : ((" | " : Str).cps.all (· < 256)) = true := by decide +kernel
  have hs : ∀ p ∈ Txt.split l " | ", Tx p := fun p hp => h.sub (split_sub (by rw [tl_bar]; decide) kb hp)
  unfold partsS at e
  split at e
  · cases e
    have w1 := words_le ((Txt.split l " | ").getD 1 nilS)
    have t1 := tx_at hs 1
    refine ⟨?_, ?_, fun w hw => ?_⟩
    · simp
    · have := t1.len
      simp only [List.length_append, List.length_cons, List.length_nil]
      omega
    · rcases List.mem_append.mp hw with z | z
      · rcases List.mem_append.mp z with z | z
        · rw [List.mem_singleton.mp z]
          exact (tx_at hs 0).sub (strip_sub _)
        · exact t1.sub (words_sub z)
      · rw [List.mem_singleton.mp z]
        exact (tx_at hs 2).sub (strip_sub _)
  · cases e
theorem ended_tx {x : Str} {ls : List Str} (h : Tx x) (e : endedS x = some ls) : (∀ l ∈ ls, Tx l) ∧ ls.length ≤ 2 ^ 20 + 1 := by
  have kb : (("\n" : Str).cps.all (· < 256)) = true := by decide +kernel
  unfold endedS at e
  split at e
  · cases e
    refine ⟨fun l hl => h.sub (split_sub (by rw [tl_nl]; decide) kb ((List.dropLast_sublist _).subset hl)), ?_⟩
    have := split_len (x := x) (y := "\n") (by rw [tl_nl]; decide) kb
    have := h.len
    rw [List.length_dropLast]
    omega
  · cases e
theorem rows_rw {x : Str} (h : Tx x) : (∀ r, some r ∈ rowsOf x → Rw r) ∧ (rowsOf x).length ≤ 2 ^ 20 + 1 := by
  unfold rowsOf
  cases e : endedS x with
  | none => exact ⟨fun r hr => absurd hr (by simp), by simp⟩
  | some ls =>
    obtain ⟨h1, h2⟩ := ended_tx h e
    refine ⟨fun r hr => ?_, by rw [List.length_map]; exact h2⟩
    obtain ⟨l, hl, e2⟩ := List.mem_map.mp hr
    exact parts_rw (h1 l hl) e2
/-- a reading that is let through -/
structure GoodR (x : Str) (R : List (List Str)) : Prop where
  rows : rowsOf x = R.map some
  three : 3 ≤ R.length
  same : sameO R = true
  ok : okO R = true
  back : drawS (valO (tabO R)) (rnO R) (cnO R) = x
theorem row_str_ld {r : List Str} (h : Rw r) (k : Nat) : LD (k + 1) (rowD r) := .list fun d hd => by
  obtain ⟨w, hw, rfl⟩ := List.mem_map.mp hd
  exact .str (h.tx w hw) k
section
variable {x : Str}
abbrev lD (x : Str) : D := match endedS x with
  | none => .none
  | some ls => .list (sDs ls)
abbrev rD (x : Str) : D := .list ((rowsOf x).map optR)
theorem gt_a_ev (h : Tx x) : Ev gt_a [some (.pu (.str x)), none, none, none, none, none, none, none] (lD x) := .call (.cons (Ev.var rfl) .nil) (fr_ended h) rfl
theorem gt_b_ev (h : Tx x) : Ev gt_b [some (.pu (.str x)), some (.pu (lD x)), none, none, none, none, none, none] (rD x) := by
  unfold rD rowsOf lD
  cases e : endedS x with
  | none => exact Ev.if (x := true) (ev_isN (d := .none) (Ev.var rfl)) (fun _ => (ev_mkL .nil (by simp)).ev) fun z => nomatch z
  | some ls =>
    obtain ⟨h1, h2⟩ := ended_tx h e
    refine Ev.if (x := false) (ev_isN (d := .list (sDs ls)) (Ev.var rfl)) (fun z => nomatch z) fun _ => ?_
    have z := evl_map (ρ := [some (.pu (.str x)), some (.pu (.list (sDs ls))), none, none, none, none, none, none]) (bind := bName 3) (fe := fCall 1 F_parts_in (fCons (fVar 3) (fNil))) (vs := [3]) (fun l => PyData.str l) (fun l => optR (partsS l)) ls (src_list (Ev.var (i := 1) rfl)) rfl (Nat.le_trans h2 (by decide)) fun l hl =>
      ⟨[some (.pu (.str x)), some (.pu (.list (sDs ls))), none, some (.pu (.str l)), none, none, none, none], rfl, .call (.cons (Ev.var rfl) .nil) (by
        have q := fr_parts (h1 l hl)
        cases e2 : partsS l with
        | none => rw [e2] at q; exact q
        | some r => rw [e2] at q; exact q) rfl, rfl⟩
    refine z.ev.to ?_
    dsimp only
    rw [List.map_map]
    rfl
def badR (x : Str) : Bool := decide (((rowsOf x).length : Int) < 3) || ((rowsOf x).any (fun o => o.isNone) || !sameO ((rowsOf x).map fun o => o.getD []))
theorem opt_ld {o : Option (List Str)} (h : ∀ r, o = some r → Rw r) : LD 1 (optR o) := by
  cases o with
  | none => exact .none 1
  | some r => exact row_str_ld (h r rfl) 0
theorem any_none {l : List (Option (List Str))} (h : l.any (fun o => o.isNone) = false) : l = (l.map fun o => o.getD []).map some := by
  rw [List.map_map]
  refine (Eq.trans (List.map_congr_left fun o ho => ?_) (List.map_id l)).symm
  have := List.any_eq_false.mp h o ho
  cases o with
  | none => exact absurd rfl this
  | some r => rfl
theorem ne_int' {i j : Int} : gNe (.int i) (.int j) = some (.pu (.bool (!decide (i = j)))) := ne_intB
theorem evl_row {ρ : DL.Env} {R : List (List Str)} (q : ρ[2]? = some (some (.pu (rowsD R)))) (hw : wipeE ρ [4] = ρ) (h4 : 4 < ρ.length) (hz : R.length ≤ sizeLine) (hp : 0 < R.length) :
    Evl (fLc (srcE (fVar 2) itemsL) (bName 4) (fOp2 gNe (bndA (fCons (fVar 4) (fNil)) gLen) (bndA (fCons (fOp2 gIx (fVar 2) (fC (.int 0))) (fNil)) gLen)) (fVar 4) [4]) ρ ((R.filter fun r => !decide (((r.length : Nat) : Int) = ((R.getD 0 []).length : Nat))).map rowD) :=
  evl_gen rowD rowD (fun r => !decide (((r.length : Nat) : Int) = ((R.getD 0 []).length : Nat))) R (src_list (Ev.var q)) hw hz fun r hr => by
    have e4 : (ρ.set 4 (some (.pu (rowD r))))[4]? = some (some (.pu (rowD r))) := List.getElem?_set_self h4
    have e2 : (ρ.set 4 (some (.pu (rowD r))))[2]? = some (some (.pu (rowsD R))) := by rw [List.getElem?_set_ne (by decide)]; exact q
    have at0 : (R.map rowD)[0]? = some (rowD (R.getD 0 [])) := by
      rw [List.getElem?_map, List.getElem?_eq_getElem hp, List.getD_eq_getElem?_getD, List.getElem?_eq_getElem hp]
      rfl
    refine ⟨ρ.set 4 (some (.pu (rowD r))), rfl, ev_neI (Ev.to (ev_len (ds := sDs r) (Ev.var e4)) (by rw [List.length_map])) (Ev.to (ev_len (ds := sDs (R.getD 0 [])) (ev_ixL (k := 0) (Ev.var e2) .k at0)) (by rw [List.length_map])), fun _ => Ev.var e4, ?_⟩
    show (ρ.set 4 _).set 4 none = ρ
    rw [List.set_set]
    exact hw
theorem gt_c_ev (h : Tx x) {L : D} : Ev gt_c (rhoT x L (rD x)) (.bool (badR x)) := by
  obtain ⟨h1, h2⟩ := rows_rw h
  have hz : (rowsOf x).length ≤ sizeLine := Nat.le_trans h2 (by decide)
  have ld : ∀ d ∈ (rowsOf x).map optR, LD 1 d := fun d hd => by
    obtain ⟨o, ho, rfl⟩ := List.mem_map.mp hd
    exact opt_ld fun r e => h1 r (by rw [← e]; exact ho)
  refine .or (ev_lt (Ev.to (ev_len (ds := (rowsOf x).map optR) (Ev.var rfl)) (by rw [List.length_map])) .k) fun c3 => .or (x := (rowsOf x).any (fun o => o.isNone)) ?_ fun cn => ?_
  · refine Ev.op2 (w := .pu (.bool ((rowsOf x).any fun o => o.isNone))) .k (Ev.var rfl) ?_
    show (if SeqAt.shaped .none && SeqAt.shaped (.list ((rowsOf x).map optR)) then some (W.pu (.bool (((rowsOf x).map optR).any fun z => PyData.eqv z .none))) else none) = _
    rw [if_pos (by rw [(LD.list ld).shaped (by decide)]; rfl), List.any_map]
    congr 4
    funext o
    cases o <;> rfl
  · have e := any_none cn
    generalize hR : (rowsOf x).map (fun o => o.getD []) = R at e
    have er : rD x = rowsD R := by
      unfold rD
      rw [e, List.map_map]
      rfl
    have hl : R.length = (rowsOf x).length := by rw [← hR, List.length_map]
    have hp : 0 < R.length := by
      rw [decide_eq_false_iff_not] at c3
      omega
    rw [er]
    have z := evl_row (ρ := rhoT x L (rowsD R)) (R := R) rfl rfl (by simp) (by omega) hp
    have rl : ∀ d ∈ (R.filter fun r => !decide (((r.length : Nat) : Int) = ((R.getD 0 []).length : Nat))).map rowD, LD 1 d := fun d hd => by
      obtain ⟨r, hr, rfl⟩ := List.mem_map.mp hd
      refine row_str_ld (h1 r ?_) 0
      rw [e]
      exact List.mem_map_of_mem (List.mem_filter.mp hr).1
    refine Ev.bl (isNil_of (by decide) rl z.ev).2 ?_
    rw [emp_map]
    rfl
end
end K65
/-! B13: grid_of_text, the whole. -/
namespace K65
open PySem L2 PyProof.Rows DL TL
theorem fold_lt : ∀ (l : List Nat) (a : Nat), NumText.AllDigits l → l.foldl (fun acc c => acc * 10 + (c - 48)) a + 1 ≤ (a + 1) * 10 ^ l.length
  | [], a, _ => by simp
  | c :: r, a, h => by
    have hc := h.head
    have ih := fold_lt r (a * 10 + (c - 48)) h.tail
    rw [List.foldl_cons, List.length_cons]
    have : (a * 10 + (c - 48) + 1) * 10 ^ r.length ≤ ((a + 1) * 10) * 10 ^ r.length := Nat.mul_le_mul_right _ (by omega)
    have e : (a + 1) * 10 ^ (r.length + 1) = ((a + 1) * 10) * 10 ^ r.length := by rw [Nat.pow_succ, Nat.mul_assoc, Nat.mul_comm 10]
    omega
theorem val_lt {l : List Nat} (h : NumText.AllDigits l) : NumText.digitsVal l < 10 ^ l.length := by
  have := fold_lt l 0 h
  unfold NumText.digitsVal
  omega
theorem count_lt {w : Str} {i : Int} (h : readCountS w = some i) : i.natAbs < 10 ^ 60 := by
  unfold readCountS at h
  split at h
  · cases h
  · rename_i b
    split at h
    · have b : badC w = false := by simpa using b
      unfold badC at b
      simp only [Bool.or_eq_false_iff, decide_eq_false_iff_not, Bool.not_eq_eq_eq_not, Bool.not_false] at b
      obtain ⟨b1, b2, b3⟩ := b
      have ad : NumText.AllDigits (tl w) := fun c hc => by
        have := isE.mp b3 c hc
        unfold notIn at this
        rw [tl_fig] at this
        simp only [Bool.not_eq_eq_eq_not, Bool.not_false, decide_eq_true_eq, List.mem_cons, List.not_mem_nil, or_false] at this
        omega
      rw [PySem.intText_digits (x := w) ad (fun z => b1 (ext_tl z)) (by omega)] at h
      cases h
      have v := val_lt ad
      have l : (tl w).length ≤ 60 := by rw [← len_tl]; omega
      have : (10 : Nat) ^ (tl w).length ≤ 10 ^ 60 := Nat.pow_le_pow_right (by decide) l
      show NumText.digitsVal (tl w) < 10 ^ 60
      omega
    · cases h
theorem whole_lt {w : Str} {i : Int} (h : readWholeS w = some i) : i.natAbs < 10 ^ 60 := by
  unfold readWholeS at h
  split at h
  · split at h
    · cases h
    · rename_i n hn
      split at h
      · cases h
      · cases h
        have := count_lt hn
        omega
  · exact count_lt h
theorem val_some {t : List (List (Option Int))} (h : t.flatten.filter (fun o => o.isNone) = []) : t = (valO t).map fun r => r.map some := by
  unfold valO
  rw [List.map_map]
  refine (Eq.trans (List.map_congr_left fun r hr => ?_) (List.map_id t)).symm
  show (r.map fun o => o.getD 0).map some = r
  rw [List.map_map]
  refine Eq.trans (List.map_congr_left fun o ho => ?_) (List.map_id r)
  have := List.filter_eq_nil_iff.mp h o (List.mem_flatten.mpr ⟨r, hr, ho⟩)
  cases o with
  | none => exact absurd rfl this
  | some i => rfl
section
variable {x : Str} {R : List (List Str)}
/-- what is known of the rows when they are let through -/
structure Rok (x : Str) (R : List (List Str)) : Prop where
  rows : rowsOf x = R.map some
  three : 3 ≤ R.length
  same : sameO R = true
  rw : ∀ r ∈ R, Rw r
  few : R.length ≤ 2 ^ 20 + 1
theorem rok_of (h : Tx x) (b : badR x = false) : Rok x ((rowsOf x).map fun o => o.getD []) := by
  unfold badR at b
  simp only [Bool.or_eq_false_iff, decide_eq_false_iff_not, Bool.not_eq_eq_eq_not, Bool.not_false] at b
  obtain ⟨b1, b2, b3⟩ := b
  obtain ⟨h1, h2⟩ := rows_rw h
  have e := any_none b2
  refine ⟨e, by rw [List.length_map]; omega, b3, fun r hr => h1 r ?_, by rw [List.length_map]; exact h2⟩
  rw [e]
  exact List.mem_map_of_mem hr
theorem rok_good (h : Tx x) (e : rowsOf x = R.map some) (h3 : 3 ≤ R.length) (hs : sameO R = true) : badR x = false ∧ R = (rowsOf x).map fun o => o.getD [] := by
  have e2 : (rowsOf x).map (fun o => o.getD []) = R := by
    rw [e, List.map_map]
    exact Eq.trans (List.map_congr_left fun r _ => rfl) (List.map_id R)
  refine ⟨?_, e2.symm⟩
  unfold badR
  rw [e2, e, List.length_map, hs, decide_eq_false (by omega)]
  have : (R.map some).any (fun o => o.isNone) = false := List.any_eq_false.mpr fun o ho => by
    obtain ⟨r, _, rfl⟩ := List.mem_map.mp ho
    exact Bool.false_ne_true
  rw [this]
  rfl
theorem Rok.body (K : Rok x R) : R.tail.dropLast.length = R.length - 2 := by
  rw [List.length_dropLast, List.length_tail]; omega
theorem body_mem {r : List Str} (h : r ∈ R.tail.dropLast) : r ∈ R := (List.tail_sublist R).subset ((List.dropLast_sublist _).subset h)
theorem Rok.t_len (K : Rok x R) : (tabO R).length = R.length - 2 := by
  unfold tabO
  rw [List.length_map, K.body]
theorem Rok.t_pos (K : Rok x R) : 0 < (tabO R).length := by
  rw [K.t_len]
  have := K.three
  omega
theorem Rok.r0 (K : Rok x R) : R.getD 0 [] ∈ R := getD_mem (by have := K.three; omega)
theorem Rok.rn_tx (K : Rok x R) : ∀ w ∈ rnO R, Tx w := fun w hw => by
  unfold rnO at hw
  obtain ⟨r, hr, rfl⟩ := List.mem_map.mp hw
  exact tx_at (K.rw r (body_mem hr)).tx 0
theorem Rok.cn_tx (K : Rok x R) : ∀ w ∈ cnO R, Tx w := fun w hw => (K.rw _ K.r0).tx w ((List.tail_sublist _).subset ((List.dropLast_sublist _).subset hw))
theorem Rok.rn_len (K : Rok x R) : (rnO R).length ≤ 2 ^ 21 := by
  unfold rnO
  rw [List.length_map, K.body]
  have := K.few
  omega
theorem Rok.cn_len (K : Rok x R) : (cnO R).length ≤ 2 ^ 21 := by
  unfold cnO
  have := (K.rw _ K.r0).few
  rw [List.length_dropLast, List.length_tail]
  omega
theorem cut_rows {ρ : DL.Env} {i : Nat} (q : ρ[i]? = some (some (.pu (rowsD R)))) : srcE (fOp1 (gCut (some 1) (some (-1))) (fVar i)) itemsL ρ = .ok (R.tail.dropLast.map rowD) ρ := by
  have z := evl_cut (lo := some 1) (hi := some (-1)) (Ev.var (ρ := ρ) (i := i) (m := 0) (d := rowsD R) q)
  rw [cut_mid, ← List.map_tail, ← List.map_dropLast] at z
  exact src_list z.ev
theorem cut_words {ρ : DL.Env} {fa : DL.Env → RE} {r : List Str} (q : Ev fa ρ (rowD r)) : Evl (fOp1 (gCut (some 1) (some (-1))) fa) ρ (sDs r.tail.dropLast) := by
  have z := evl_cut (lo := some 1) (hi := some (-1)) q
  rw [cut_mid] at z
  unfold sDs at *
  rw [← List.map_tail, ← List.map_dropLast] at z
  exact z
theorem n1_ev (K : Rok x R) {L : D} : Evl gt_n1 (rhoT x L (rowsD R)) (sDs (rnO R)) := by
  have z := evl_map (ρ := rhoT x L (rowsD R)) (bind := bName 4) (fe := fOp2 gIx (fVar 4) (fC (.int 0))) (vs := [4]) rowD (fun r => PyData.str (r.getD 0 nilS)) R.tail.dropLast (cut_rows (i := 2) rfl) rfl (by rw [K.body]; have := K.few; exact Nat.le_trans (show R.length - 2 ≤ 2 ^ 20 by omega) (by decide)) fun r hr =>
    ⟨(rhoT x L (rowsD R)).set 4 (some (.pu (rowD r))), rfl, ev_ixL (k := 0) (ds := sDs r) (Ev.var rfl) .k (sD_at (by have := (K.rw r (body_mem hr)).two; omega)), rfl⟩
  refine z.to ?_
  unfold sDs rnO
  rw [List.map_map]
  rfl
theorem row0_at (K : Rok x R) : (R.map rowD)[0]? = some (rowD (R.getD 0 [])) := by
  have hp : 0 < R.length := by have := K.three; omega
  rw [List.getElem?_map, List.getElem?_eq_getElem hp, List.getD_eq_getElem?_getD, List.getElem?_eq_getElem hp]
  rfl
theorem n2_ev (K : Rok x R) {L : D} : Evl gt_n2 (rhoT x L (rowsD R)) (sDs (cnO R)) := cut_words (ev_ixL (k := 0) (ds := R.map rowD) (Ev.var rfl) .k (row0_at K))
theorem fe_ev (K : Rok x R) {L n : D} {r : List Str} (hr : r ∈ R) : Evl gt_fe ((rhoN x L (rowsD R) n).set 4 (some (.pu (rowD r)))) ((r.tail.dropLast.map readWholeS).map optD) := by
  have hw : ∀ w ∈ r.tail.dropLast, Tx w := fun w hw => (K.rw r hr).tx w ((List.tail_sublist _).subset ((List.dropLast_sublist _).subset hw))
  have hl : r.tail.dropLast.length ≤ 2 ^ 21 := by
    have := (K.rw r hr).few
    rw [List.length_dropLast, List.length_tail]
    omega
  have z := evl_map (ρ := (rhoN x L (rowsD R) n).set 4 (some (.pu (rowD r)))) (bind := bName 7) (fe := fCall 1 F_read_whole (fCons (fVar 7) (fNil))) (vs := [7]) (fun w => PyData.str w) (fun w => optD (readWholeS w)) r.tail.dropLast (src_list (cut_words (Ev.var (i := 4) (m := 0) rfl)).ev) rfl (Nat.le_trans hl (by decide)) fun w hw' =>
    ⟨(((rhoN x L (rowsD R) n).set 4 (some (.pu (rowD r))))).set 7 (some (.pu (.str w))), rfl, .call (.cons (Ev.var rfl) .nil) (fr_read_whole (hw w hw')) rfl, rfl⟩
  refine z.to ?_
  rw [List.map_map]
  rfl
theorem tab_ev (K : Rok x R) {L n : D} : Evl (fLc gt_src (bName 4) (fC (.bool true)) gt_fe [4]) (rhoN x L (rowsD R) n) ((tabO R).map fun r => .list (r.map optD)) := by
  have z := evl_map (ρ := rhoN x L (rowsD R) n) (bind := bName 4) (fe := gt_fe) (vs := [4]) rowD (fun r => PyData.list ((r.tail.dropLast.map readWholeS).map optD)) R.tail.dropLast (cut_rows (i := 2) rfl) rfl (by rw [K.body]; have := K.few; exact Nat.le_trans (show R.length - 2 ≤ 2 ^ 20 by omega) (by decide)) fun r hr =>
    ⟨(rhoN x L (rowsD R) n).set 4 (some (.pu (rowD r))), rfl, (fe_ev K (body_mem hr)).ev, rfl⟩
  refine z.to ?_
  unfold tabO
  rw [List.map_map]
  rfl
theorem t6_ev (K : Rok x R) {L Rd : D} : Ev gt_t6 (rhoB x L Rd (namesD (rnO R) (cnO R)) (tabOD (tabO R))) (.bool (!okO R)) := by
  have tl21 : (tabO R).length ≤ 2 ^ 21 := by rw [K.t_len]; have := K.few; omega
  have at0 : ((tabO R).map fun r => PyData.list (r.map optD))[0]? = some (.list (((tabO R).getD 0 []).map optD)) := by
    have hp := K.t_pos
    rw [List.getElem?_map, List.getElem?_eq_getElem hp, List.getD_eq_getElem?_getD, List.getElem?_eq_getElem hp]
    rfl
  have v6 : Ev (fVar 6) (rhoB x L Rd (namesD (rnO R) (cnO R)) (tabOD (tabO R))) (tabOD (tabO R)) := Ev.var rfl
  have l6 : Ev (bndA (fCons (fVar 6) (fNil)) gLen) (rhoB x L Rd (namesD (rnO R) (cnO R)) (tabOD (tabO R))) (.int ((tabO R).length : Nat)) := Ev.to (ev_len v6) (by rw [List.length_map])
  have l7 : Ev (bndA (fCons (fOp2 gIx (fVar 6) (fC (.int 0))) (fNil)) gLen) (rhoB x L Rd (namesD (rnO R) (cnO R)) (tabOD (tabO R))) (.int (((tabO R).getD 0 []).length : Nat)) := Ev.to (ev_len (ev_ixL (k := 0) v6 .k at0)) (by rw [List.length_map])
  have a0 : Ev (fOp2 gIx (fVar 5) (fC (.int 0))) (rhoB x L Rd (namesD (rnO R) (cnO R)) (tabOD (tabO R))) (.list (sDs (rnO R))) := ev_ixT (k := 0) (Ev.var rfl) .k rfl
  have a1 : Ev (fOp2 gIx (fVar 5) (fC (.int 1))) (rhoB x L Rd (namesD (rnO R) (cnO R)) (tabOD (tabO R))) (.list (sDs (cnO R))) := ev_ixT (k := 1) (Ev.var rfl) .k rfl
  have z := Ev.or (Ev.not (Ev.call (n := 1) (.cons v6 .nil) (fr_is_grid tl21) rfl)) fun _ => Ev.or (Ev.not (Ev.call (n := 2) (.cons a0 (.cons l6 .nil)) (fr_names K.rn_tx K.rn_len) rfl)) fun _ => Ev.not (Ev.call (n := 2) (.cons a1 (.cons l7 .nil)) (fr_names K.cn_tx K.cn_len) rfl)
  refine Ev.bl z ?_
  unfold okO
  rw [Bool.not_and, Bool.not_and]
theorem Rok.gd (K : Rok x R) (h : okO R = true) : Gd (valO (tabO R)) (rnO R) (cnO R) ∧ tabO R = (valO (tabO R)).map fun r => r.map some := by
  unfold okO at h
  rw [Bool.and_eq_true, Bool.and_eq_true] at h
  obtain ⟨g, n1, n2⟩ := h
  unfold isGridS at g
  rw [Bool.and_eq_true, Bool.and_eq_true, Bool.and_eq_true] at g
  obtain ⟨⟨g1, g2, g3⟩, g4⟩ := g
  have e := val_some (List.isEmpty_iff.mp g4)
  have hl : (valO (tabO R)).length = (tabO R).length := by unfold valO; rw [List.length_map]
  have h0 : ((valO (tabO R)).getD 0 []).length = ((tabO R).getD 0 []).length := by
    unfold valO
    rw [getD_map (e := []) K.t_pos, List.length_map]
  have same : ∀ q ∈ tabO R, q.isEmpty = false ∧ q.length = ((tabO R).getD 0 []).length := fun q hq => by
    have := isE.mp g2 q hq
    rw [Bool.or_eq_false_iff, Bool.not_eq_false', decide_eq_true_eq] at this
    exact ⟨this.1, by omega⟩
  refine ⟨⟨?_, ?_, fun r hr => ?_, ?_, fun r hr i hi => ?_, by rw [hl]; exact n1, by rw [h0]; exact n2⟩, e⟩
  · rw [hl]; exact K.t_pos
  · rw [h0]
    have m := getD_mem (l := tabO R) (d := []) K.t_pos
    have := (same _ m).1
    cases q : (tabO R).getD 0 [] with
    | nil => rw [q] at this; cases this
    | cons a b => simp
  · unfold valO at hr
    obtain ⟨q, hq, rfl⟩ := List.mem_map.mp hr
    rw [List.length_map, h0]
    exact (same q hq).2
  · rw [hl, h0]
    rw [Bool.not_eq_true', decide_eq_false_iff_not, ← Int.natCast_mul] at g3
    omega
  · unfold valO at hr
    obtain ⟨q, hq, rfl⟩ := List.mem_map.mp hr
    obtain ⟨o, ho, rfl⟩ := List.mem_map.mp hi
    have hn : o.isNone = false := isE.mp g4 o (List.mem_flatten.mpr ⟨q, hq, ho⟩)
    unfold tabO at hq
    obtain ⟨r, hr, rfl⟩ := List.mem_map.mp hq
    obtain ⟨w, hw, rfl⟩ := List.mem_map.mp ho
    cases e : readWholeS w with
    | none => rw [e] at hn; cases hn
    | some i => exact whole_lt e
theorem tabOD_eq (tab : List (List Int)) : tabOD (tab.map fun r => r.map some) = tabD tab := by
  unfold tabOD tabD
  rw [List.map_map]
  congr 1
  refine List.map_congr_left fun r _ => ?_
  show PyData.list ((r.map some).map optD) = _
  rw [List.map_map]
  rfl
theorem t7_ev {L Rd : D} {tab : List (List Int)} {rn cn : List Str} (g : Gd tab rn cn) : Ev gt_t7 (rhoB x L Rd (namesD rn cn) (tabD tab)) (.bool (!decide (drawS tab rn cn = x))) :=
  ev_neS (.call (.cons (.call (.cons (Ev.var rfl) (.cons (Ev.var rfl) .nil)) (frL_words g).fr rfl) .nil) (fr_draw g) rfl) (Ev.var rfl)
end
/-- what a reading goes through -/
def GtEx (x : Str) (tab : List (List Int)) (rn cn : List Str) : Prop :=
  ∃ (L R : D) (items : List D), Ev gt_a [some (.pu (.str x)), none, none, none, none, none, none, none] L ∧ Ev gt_b [some (.pu (.str x)), some (.pu L), none, none, none, none, none, none] R ∧ Ev gt_c (rhoT x L R) (.bool false) ∧
    Evl gt_n1 (rhoT x L R) (sDs rn) ∧ Evl gt_n2 (rhoT x L R) (sDs cn) ∧ gt_src (rhoN x L R (namesD rn cn)) = .ok items (rhoN x L R (namesD rn cn)) ∧ items.length = tab.length ∧
    (∀ (i : Nat) (d : D) (r : List Int), items[i]? = some d → tab[i]? = some r → Evl gt_fe ((rhoN x L R (namesD rn cn)).set 4 (some (.pu d))) (r.map .int)) ∧
    Ev gt_t6 (rhoB x L R (namesD rn cn) (tabD tab)) (.bool false) ∧ Ev gt_t7 (rhoB x L R (namesD rn cn) (tabD tab)) (.bool false)
theorem gt_pre (ca : Str → Addr) {x : Str} (h : Tx x) {g : DL.Env → RS} : sSeq (sPut 1 gt_a) (sSeq (sPut 2 gt_b) g) [some (.pu (.str x)), none, none, none, none, none, none, none] = g (rhoT x (lD x) (rD x)) := by
  rw [seq_nx (.put (gt_a_ev h))]
  exact seq_nx (.put (gt_b_ev h))
abbrev gt_raise (ca : Str → Addr) : DL.Env → RS := sRaise (ca "InvalidText") (fCons (fVar 0) (fNil))
abbrev gt_r7 (ca : Str → Addr) : DL.Env → RS := sSeq (sIf gt_t7 (gt_raise ca) .nx) (sRet (bndA (fCons (fVar 6) (fCons (fVar 5) (fNil))) gMkT))
abbrev gt_r6 (ca : Str → Addr) : DL.Env → RS := sSeq (sIf gt_t6 (gt_raise ca) .nx) (gt_r7 ca)
abbrev gt_r3 (ca : Str → Addr) : DL.Env → RS := sSeq (sPut 5 (bndA (fCons gt_n1 (fCons gt_n2 (fNil))) gMkT)) (sSeq (sPut 6 (fLc gt_src (bName 4) (fC (.bool true)) gt_fe [4])) (gt_r6 ca))
theorem raise_er (ca : Str → Addr) {x : Str} {ρ : DL.Env} (h : ρ[0]? = some (some (.pu (.str x)))) : Er (gt_raise ca) ρ (ca "InvalidText") (.str x) := .raise (.cons (Ev.var h) .nil)
theorem r6_ok (ca : Str → Addr) {ρ : DL.Env} (h : Ev gt_t6 ρ (.bool false)) : gt_r6 ca ρ = gt_r7 ca ρ := seq_nx (.if (x := false) h (fun z => nomatch z) fun _ => .nx)
theorem r7_ok (ca : Str → Addr) {ρ : DL.Env} (h : Ev gt_t7 ρ (.bool false)) : gt_r7 ca ρ = sRet (bndA (fCons (fVar 6) (fCons (fVar 5) (fNil))) gMkT) ρ := seq_nx (.if (x := false) h (fun z => nomatch z) fun _ => .nx)
theorem r6_er (ca : Str → Addr) {ρ : DL.Env} {x : Str} (h : Ev gt_t6 ρ (.bool true)) (q : ρ[0]? = some (some (.pu (.str x)))) : Er (gt_r6 ca) ρ (ca "InvalidText") (.str x) := Er.now (.if (x := true) h (fun _ => raise_er ca q) fun z => nomatch z)
theorem r7_er (ca : Str → Addr) {ρ : DL.Env} {x : Str} (h : Ev gt_t7 ρ (.bool true)) (q : ρ[0]? = some (some (.pu (.str x)))) : Er (gt_r7 ca) ρ (ca "InvalidText") (.str x) := Er.now (.if (x := true) h (fun _ => raise_er ca q) fun z => nomatch z)
theorem gt_all (ca : Str → Addr) (x : Str) : g_grid_of_text ca [some (.pu (.str x)), none, none, none, none, none, none, none] = sSeq (sPut 1 gt_a) (sSeq (sPut 2 gt_b) (sSeq (sIf gt_c (gt_raise ca) .nx) (gt_r3 ca))) [some (.pu (.str x)), none, none, none, none, none, none, none] := rfl
theorem rok_d {x : Str} {R : List (List Str)} (K : Rok x R) : rD x = rowsD R := by
  unfold rD
  rw [K.rows, List.map_map]
  rfl
theorem gt_mid (ca : Str → Addr) {x : Str} {R : List (List Str)} (K : Rok x R) {L : D} : gt_r3 ca (rhoT x L (rowsD R)) = gt_r6 ca (rhoB x L (rowsD R) (namesD (rnO R) (cnO R)) (tabOD (tabO R))) := by
  refine (seq_nx (.put (ev_mkT (.cons (n1_ev K).ev (.cons (n2_ev K).ev .nil)) (by simp)))).trans ?_
  exact seq_nx (.put (tab_ev K).ev)
theorem read_good (ca : Str → Addr) {x : Str} {R : List (List Str)} (h : Tx x) (G : GoodR x R) : Gd (valO (tabO R)) (rnO R) (cnO R) ∧ GtEx x (valO (tabO R)) (rnO R) (cnO R) ∧ Fr (F_grid_of_text ca) [.str x] (.tuple [tabD (valO (tabO R)), namesD (rnO R) (cnO R)]) := by
  obtain ⟨b, e⟩ := rok_good h G.rows G.three G.same
  have K := rok_of h b
  rw [← e] at K
  obtain ⟨gd, et⟩ := K.gd G.ok
  have ed : tabOD (tabO R) = tabD (valO (tabO R)) := by
    conv => lhs; rw [et]
    exact tabOD_eq _
  have t6 := t6_ev K (L := lD x) (Rd := rowsD R)
  rw [G.ok, ed] at t6
  have t7 := t7_ev (x := x) (L := lD x) (Rd := rowsD R) gd
  rw [decide_eq_true G.back] at t7
  have c := gt_c_ev h (L := lD x)
  rw [b, rok_d K] at c
  refine ⟨gd, ⟨lD x, rowsD R, R.tail.dropLast.map rowD, gt_a_ev h, ?_, c, n1_ev K, n2_ev K, cut_rows (i := 2) rfl, ?_, fun i d r hi hr => ?_, t6, t7⟩, ?_⟩
  · rw [← rok_d K]; exact gt_b_ev h
  · unfold valO
    rw [List.length_map, List.length_map]
    unfold tabO
    rw [List.length_map]
  · rw [List.getElem?_map] at hi
    cases q : R.tail.dropLast[i]? with
    | none => rw [q] at hi; cases hi
    | some w =>
      rw [q] at hi
      cases hi
      have m := body_mem (List.mem_of_getElem? q)
      refine (fe_ev K m).to ?_
      have : (tabO R)[i]? = some (w.tail.dropLast.map readWholeS) := by
        unfold tabO
        rw [List.getElem?_map, q]
        rfl
      rw [et, List.getElem?_map, hr] at this
      injection this with this
      rw [← this, List.map_map]
      rfl
  · refine fr_of (n := 8) (g := g_grid_of_text ca) (ds := [.str x]) ?_
    show Rt (g_grid_of_text ca) [some (.pu (.str x)), none, none, none, none, none, none, none] _
    unfold Rt
    rw [gt_all, gt_pre ca h, rok_d K, seq_nx (.if (x := false) c (fun z => nomatch z) fun _ => .nx), gt_mid ca K, ed, r6_ok ca t6, r7_ok ca t7]
    exact Rt.ret (ev_mkT (.cons (Ev.var rfl) (.cons (Ev.var rfl) .nil)) (by simp)) rfl
theorem read_bad (ca : Str → Addr) {x : Str} (h : Tx x) (G : ∀ R, ¬ GoodR x R) : FrE (F_grid_of_text ca) [.str x] (ca "InvalidText") (.str x) := by
  refine frE_of (n := 8) (g := g_grid_of_text ca) (ds := [.str x]) ?_
  show Er (g_grid_of_text ca) [some (.pu (.str x)), none, none, none, none, none, none, none] _ _
  unfold Er
  rw [gt_all, gt_pre ca h]
  have c := gt_c_ev h (L := lD x)
  by_cases b : badR x = true
  · rw [b] at c
    exact Er.now (.if (x := true) c (fun _ => raise_er ca rfl) fun z => nomatch z)
  · have b : badR x = false := by simpa using b
    have K := rok_of h b
    generalize (rowsOf x).map (fun o => o.getD []) = R at K
    rw [b, rok_d K] at c
    rw [rok_d K, seq_nx (.if (x := false) c (fun z => nomatch z) fun _ => .nx), gt_mid ca K]
    have t6 := t6_ev K (L := lD x) (Rd := rowsD R)
    by_cases o : okO R = true
    · obtain ⟨gd, et⟩ := K.gd o
      have ed : tabOD (tabO R) = tabD (valO (tabO R)) := by
        conv => lhs; rw [et]
        exact tabOD_eq _
      rw [o, ed] at t6
      rw [ed, r6_ok ca t6]
      have t7 := t7_ev (x := x) (L := lD x) (Rd := rowsD R) gd
      rw [decide_eq_false fun z => G R ⟨K.rows, K.three, K.same, o, z⟩] at t7
      exact r7_er ca t7 rfl
    · have o : okO R = false := by simpa using o
      rw [o] at t6
      exact r6_er ca t6 rfl
/-- a drawing is read -/
theorem Gd.good {tab : List (List Int)} {rn cn : List Str} (g : Gd tab rn cn) : GoodR (drawS tab rn cn) (wordsS tab rn cn) ∧ valO (tabO (wordsS tab rn cn)) = tab ∧ rnO (wordsS tab rn cn) = rn ∧ cnO (wordsS tab rn cn) = cn := by
  obtain ⟨h1, h2, h3, h4, h5, h6⟩ := g.back
  have hv : valO (tabO (wordsS tab rn cn)) = tab := by
    rw [h6]
    unfold valO
    rw [List.map_map]
    refine Eq.trans (List.map_congr_left fun r _ => ?_) (List.map_id tab)
    show (r.map some).map _ = r
    rw [List.map_map]
    exact Eq.trans (List.map_congr_left fun i _ => rfl) (List.map_id r)
  exact ⟨⟨h1, by rw [words_length]; have := g.rows; omega, h2, h3, by rw [hv, h4, h5]⟩, hv, h4, h5⟩
end K65
/-! B14: draws; text_of_grid. -/
namespace K65
open PySem L2 PyProof.Rows DL TL
theorem nx_par {ρ : DL.Env} {fa fb : DL.Env → RE} {a b : D} {i j : Nat} (ha : Ev fa ρ a) (hb : ∃ u, fb ρ = .ok (.pu u) ρ ∧ u = b) : Nx (sPar i j fa fb) ρ ((ρ.set i (some (.pu a))).set j (some (.pu b))) := by
  obtain ⟨w, h1, rfl⟩ := ha
  obtain ⟨u, h2, rfl⟩ := hb
  unfold Nx sPar sE
  rw [h1]
  dsimp only
  rw [h2]
theorem ev_pu {ρ : DL.Env} {fa : DL.Env → RE} {i : Int} (ha : Ev fa ρ (.int i)) : ∃ u, fa ρ = .ok (.pu u) ρ ∧ u = .int i := by
  obtain ⟨w, h, e⟩ := ha
  cases w with
  | pu d => exact ⟨d, h, e⟩
  | frs ds => cases e
def Gen (m : Nat) (ds : List D) : Prop := ∃ a s c : Int, ds = [.int a, .int s, .int c] ∧ 0 ≤ a ∧ 0 ≤ s ∧ s < 2147483647 ∧ 0 ≤ c ∧ c ≤ (m : Nat)
theorem fr_l_hash {s c : Int} (hs : 0 ≤ s) (hs2 : s < 2147483647) (hc : 0 ≤ c) (hc2 : c < 2 ^ 60) : ∃ z : Int, Fr F_l_hash [.int s, .int c] (.int z) := by
  refine ⟨_, fr_of (Rt.seq (Nx.put (ev_mod (ev_int (ev_addI (ev_addI (ev_addI (ev_mul (.var rfl) .k (.inl ?_)) (ev_mul (ev_mul .k (.var rfl) (.inl (by decide))) (.var rfl) (.inr ?_))) (ev_mul .k (.var rfl) (.inl (by decide)))) .k)) .k (by decide))) (Rt.seq (Nx.put (ev_mod (ev_int (ev_addI (ev_addI (ev_mul (.var rfl) (.var rfl) (.inl ?_)) (ev_mul .k (.var rfl) (.inl (by decide)))) .k)) .k (by decide))) (.ret (ev_mod (ev_int (ev_mul (.var rfl) .k (.inr (by decide)))) .k (by decide)) rfl)))⟩
  · omega
  · omega
  · have := fmod_range (i := s * 1140671 + 27644437 * c * c + 131 * c + 19) (j := 2147483629) (by decide)
    omega

def rBody : DL.Env → RS := sSeq (sSetO 0 (fOp2 gAdd (fIxO 0 (fC (.int 2))) (fC (.int 1))) (fC (.int 2))) (sPut 2 (fOp2 gAdd (fOp2 gMul (fVar 2) (fC (.int 2147483587))) (fCall 2 F_l_hash (fCons (fIxO 0 (fC (.int 1))) (fCons (fIxO 0 (fC (.int 2))) (fNil))))))
theorem rnd_loop {a s b : Int} (hs : 0 ≤ s) (hs2 : s < 2147483647) : ∀ (l : List D) (c z : Int) (x : Option Sl), 0 ≤ c → c + (l.length : Nat) < 2 ^ 60 → isPub x →
    ∃ (z' : Int) (x' : Option Sl), isPub x' ∧ forGo (bName 3) rBody l [some (.own 1 [.int a, .int s, .int c]), some (.pu (.int b)), some (.pu (.int z)), x] = .nx [some (.own 1 [.int a, .int s, .int (c + (l.length : Nat))]), some (.pu (.int b)), some (.pu (.int z')), x']
  | [], c, z, x, _, _, hx => ⟨z, x, hx, by simp [forGo]⟩
  | d :: l, c, z, x, hc, hc2, hx => by
    rw [List.length_cons, Int.natCast_add, Int.natCast_one] at hc2 ⊢
    obtain ⟨hz, fh⟩ := fr_l_hash (s := s) (c := c + 1) hs hs2 (by omega) (by omega)
    obtain ⟨z', x', p1, h1⟩ := rnd_loop (a := a) (b := b) hs hs2 l (c + 1) (z * 2147483587 + hz) (some (.pu d)) (by omega) (by omega) (fun _ _ w => nomatch w)
    refine ⟨z', x', p1, ?_⟩
    rw [show c + ((l.length : Nat) + 1) = c + 1 + (l.length : Nat) by omega]
    refine for_cons (ρ1 := [some (.own 1 [.int a, .int s, .int c]), some (.pu (.int b)), some (.pu (.int z)), some (.pu d)]) rfl ?_ h1
    exact Nx.seq (ρ1 := [some (.own 1 [.int a, .int s, .int (c + 1)]), some (.pu (.int b)), some (.pu (.int z)), some (.pu d)]) (Nx.setO (j := 2) (t := 1) (ds := [.int a, .int s, .int c]) rfl (ev_addI (.ixO (j := 2) rfl .k rfl) .k) .k (by show 2 < 3; decide))
      (Nx.put (ev_addI (ev_mul (.var rfl) .k (.inr (by decide))) (.call (.cons (.ixO (j := 1) (d := .int s) rfl .k rfl) (.cons (.ixO (j := 2) (d := .int (c + 1)) rfl .k rfl) .nil)) fh rfl)))
theorem bits_le {b : Int} (h1 : 1 ≤ b) (h2 : b.natAbs < 2 ^ 149) : Builtin.Int.intBits b ≤ 149 := by
  unfold Builtin.Int.intBits
  have : (b == 0) = false := by
    rw [beq_eq_false_iff_ne]; omega
  rw [this]
  have := (Nat.log2_lt (show b.natAbs ≠ 0 by omega)).mpr h2
  simp only [Bool.false_eq_true, if_false]
  omega
theorem random_ok {ds : List D} {m : Nat} {b : Int} (G : Gen m ds) (hm : m + 6 < 2 ^ 50) (h1 : 1 ≤ b) (h2 : b.natAbs < 2 ^ 149) : ∃ (r : Nat) (ds2 : List D), FrO F_l_random ds [.int b] ds2 (.int (r : Nat)) ∧ (r : Int) < b ∧ Gen (m + 6) ds2 := by
  obtain ⟨a, s, c, rfl, ha, hs, hs2, hc, hc2⟩ := G
  have up : ∀ z : Int, 0 ≤ z → ∃ n : Nat, z = (n : Nat) := fun z hz => ⟨z.toNat, by rw [Int.toNat_of_nonneg hz]⟩
  have t1 : Ev (fOp2 gGt (fIxO 0 (fC (.int 0))) (fC (.int 0))) [some (.own 1 [.int a, .int s, .int c]), some (.pu (.int b)), none, none] (.bool (decide (0 < a))) := ev_gt (.ixO (j := 0) rfl .k rfl) .k
  have gb : Gt1 b := gt1_of (by decide) h2
  by_cases h : 0 < a
  · obtain ⟨n, hn⟩ := up (a % b) (Int.emod_nonneg _ (by omega))
    have lt := Int.emod_lt_of_pos a (show 0 < b by omega)
    have s1 : Nx (sPut 2 (fOp2 gMod (bndA (fCons (fIxO 0 (fC (.int 0))) (fNil)) gInt1) (fVar 1))) [some (.own 1 [.int a, .int s, .int c]), some (.pu (.int b)), none, none] [some (.own 1 [.int a, .int s, .int c]), some (.pu (.int b)), some (.pu (.int (a % b))), none] := Nx.put (ev_modB (ev_int (.ixO (j := 0) rfl .k rfl)) (.var rfl) (by omega))
    have s2 : Nx (sSetO 0 (fOp2 gDiv (fIxO 0 (fC (.int 0))) (fVar 1)) (fC (.int 0))) [some (.own 1 [.int a, .int s, .int c]), some (.pu (.int b)), some (.pu (.int (a % b))), none] [some (.own 1 [.int (a / b), .int s, .int c]), some (.pu (.int b)), some (.pu (.int (a % b))), none] :=
      Nx.setO (j := 0) (t := 1) (ds := [.int a, .int s, .int c]) (d := .int (a / b)) rfl (ev_divB (.ixO (j := 0) rfl .k rfl) (.var rfl) (by omega) gb) .k (by show 0 < 3; decide)
    refine ⟨n, [.int (a / b), .int s, .int c], frO_of (w := .pu (.int (a % b))) (ρ' := [some (.own 1 [.int (a / b), .int s, .int c]), some (.pu (.int b)), some (.pu (.int (a % b))), none]) ?_ (by rw [← hn]; rfl) rfl, by omega, a / b, s, c, rfl, ?_, hs, hs2, hc, by omega⟩
    · show g_l_random [some (.own 1 [.int a, .int s, .int c]), some (.pu (.int b)), none, none] = _
      unfold g_l_random
      refine seq_ret ?_
      rw [if_eq t1, decide_eq_true h]
      simp only [if_true]
      rw [seq_nx s1, seq_nx s2]
      rfl
    · exact Int.ediv_nonneg ha (by omega)
  · have hbits := bits_le h1 h2
    let e0 : DL.Env := [some (.own 1 [.int a, .int s, .int c]), some (.pu (.int b)), some (.pu (.int 0)), none]
    have s1 : Nx (sPut 2 (fC (.int 0))) [some (.own 1 [.int a, .int s, .int c]), some (.pu (.int b)), none, none] e0 := Nx.put .k
    have tq : Builtin.Int.intBits b / 30 ≤ 4 := by omega
    have rg : Ev (fOp2 gAdd (fC (.int 1)) (fOp2 gDiv (fOp1 gBits (fVar 1)) (fC (.int 30)))) e0 (.int ((1 + Builtin.Int.intBits b / 30 : Nat) : Int)) := by
      have z := ev_addI (fa := fC (.int 1)) (ρ := e0) (i := 1) .k (ev_divB (fa := fOp1 gBits (fVar 1)) (fb := fC (.int 30)) (ρ := e0) (i := (Builtin.Int.intBits b : Nat)) (j := 30) (Ev.op1 (w := .pu (.int (Builtin.Int.intBits b : Nat))) (.var rfl) rfl) .k (by decide) (gt1_of (k := 5) (by decide) (by decide)))
      rw [show (1 : Int) + ((Builtin.Int.intBits b : Nat) : Int) / 30 = ((1 + Builtin.Int.intBits b / 30 : Nat) : Int) by omega] at z
      exact z
    generalize hT : 1 + Builtin.Int.intBits b / 30 = T at rg
    obtain ⟨z', x', p1, hl⟩ := rnd_loop (a := a) (b := b) hs hs2 ((List.range T).map fun k : Nat => .int (k : Nat)) c 0 none hc (by rw [List.length_map, List.length_range]; omega) (fun _ _ w => nomatch w)
    rw [List.length_map, List.length_range] at hl
    have s2 := sFor_ok (bind := bName 3) (body := rBody) (src_rng rg (Nat.lt_of_le_of_lt (show T ≤ 5 by omega) (by decide))) hl
    unfold rBody at s2
    obtain ⟨n, hn⟩ := up (z' % b) (Int.emod_nonneg _ (by omega))
    have lt := Int.emod_lt_of_pos z' (show 0 < b by omega)
    let e1 : DL.Env := [some (.own 1 [.int a, .int s, .int (c + (T : Nat))]), some (.pu (.int b)), some (.pu (.int z')), x']
    have ce : colE e1 = [(1, [.int a, .int s, .int (c + (T : Nat))])] := colE_own (t := 0) (colE_pubs fun o ho => by
      simp only [List.mem_cons, List.not_mem_nil, or_false] at ho
      rcases ho with rfl | rfl | rfl
      · exact fun _ _ w => nomatch w
      · exact fun _ _ w => nomatch w
      · exact p1)
    have r : Ev (fOp2 gMod (bndA (fCons (fVar 2) (fNil)) gInt1) (fVar 1)) e1 (.int (z' % b)) := ev_modB (ev_int (.var rfl)) (.var rfl) (by omega)
    obtain ⟨w, q1, q2⟩ := ret_s (Ev.s r)
    refine ⟨n, [.int a, .int s, .int (c + (T : Nat))], frO_of (w := w) (ρ' := e1) ?_ (by rw [q2, ← hn]) ce, by omega, a, s, c + (T : Nat), rfl, ha, hs, hs2, by omega, by omega⟩
    show g_l_random [some (.own 1 [.int a, .int s, .int c]), some (.pu (.int b)), none, none] = _
    unfold g_l_random
    rw [seq_nx (show Nx _ _ _ from Nx.if t1 (fun z => absurd (of_decide_eq_true z) h) fun _ => .nx), seq_nx s1, seq_nx (show Nx _ _ _ from s2)]
    exact q1
/-- one of a list of ints -/
theorem pick_ok {ds : List D} {m : Nat} {ns : List Int} (G : Gen m ds) (hm : m + 6 < 2 ^ 50) (h1 : 1 ≤ ns.length) (h2 : ns.length ≤ 1000) : ∃ (z : Int) (ds2 : List D), FrO F_l_pick ds [iL ns] ds2 (.int z) ∧ z ∈ ns ∧ Gen (m + 6) ds2 := by
  obtain ⟨r, ds2, f1, f2, f3⟩ := random_ok (b := (ns.length : Nat)) G hm (by omega) (by
    have : (((ns.length : Nat) : Int)).natAbs = ns.length := by omega
    rw [this]
    exact Nat.lt_of_le_of_lt h2 (by decide))
  have hr : r < ns.length := by omega
  refine ⟨ns.getD r 0, ds2, ?_, getD_mem hr, f3⟩
  have q : EvS (fOp2 gIx (fVar 1) (fLend 2 0 F_l_random (fCons (bndA (fCons (fVar 1) (fNil)) gLen) (fNil)))) [some (.own 1 ds), some (.pu (iL ns))] [some (.own 1 ds2), some (.pu (iL ns))] (.int (ns.getD r 0)) :=
    EvS.op2 (w := .pu (.int (ns.getD r 0))) (Ev.s (.var rfl)) (EvS.lend (t := 1) (ds := ds) (es := [.int (ns.length : Nat)]) rfl (.cons (ev_lenI (.var rfl)) .nil) rfl f1) (ix_int hr)
  obtain ⟨w, q1, q2⟩ := ret_s q
  exact frO_of (ρ' := [some (.own 1 ds2), some (.pu (iL ns))]) q1 q2 rfl

theorem Gen.up {m n : Nat} {ds : List D} (G : Gen m ds) (h : m ≤ n) : Gen n ds := by
  obtain ⟨a, s, c, e, h1, h2, h3, h4, h5⟩ := G
  exact ⟨a, s, c, e, h1, h2, h3, h4, by omega⟩
theorem tx_name {x : Str} (h : isNameS x = true) : Tx x := ⟨by have := (name_len h).2; omega, fun c hc => by have := name_signs h c hc; omega⟩
section
variable {tab : List (List Int)} {rn cn : List Str}
theorem Gd.rtx (g : Gd tab rn cn) : ∀ w ∈ rn, Tx w := fun w hw => tx_name (names_name g.nr w hw)
theorem Gd.ctx (g : Gd tab rn cn) : ∀ w ∈ cn, Tx w := fun w hw => tx_name (names_name g.nc w hw)
theorem fr_check_grid (ca : Str → Addr) (g : Gd tab rn cn) : Fr (F_check_grid ca) [tabD tab] .none := by
  refine fr_nx (n := 1) (g := g_check_grid ca) (ds := [tabD tab]) (ρ1 := [T0 tab]) ?_ rfl
  show Nx (g_check_grid ca) [T0 tab] [T0 tab]
  have z := fr_is_grid (t := tab.map fun r => r.map some) (by rw [List.length_map]; have := g.r60; omega)
  rw [g.grid, tabOD_eq] at z
  exact Nx.if (x := !true) (.not (.call (.cons (Ev.var rfl) .nil) z rfl)) (fun z => nomatch z) fun _ => .nx
theorem fr_check_names (ca : Str → Addr) (g : Gd tab rn cn) : Fr (F_check_names ca) [namesD rn cn, tabD tab] .none := by
  refine fr_nx (n := 2) (g := g_check_names ca) (ds := [namesD rn cn, tabD tab]) (ρ1 := [N0 rn cn, T0 tab]) ?_ rfl
  show Nx (g_check_names ca) [N0 rn cn, T0 tab] [N0 rn cn, T0 tab]
  have t1 : Ev (fOr (fNot (fOp1 (gIsi "tuple") (fVar 0))) (fOp2 gNe (bndA (fCons (fVar 0) (fNil)) gLen) (fC (.int 2)))) [N0 rn cn, T0 tab] (.bool false) :=
    Ev.bl (.or (.not (ev_isi (d := namesD rn cn) (n := "tuple") (Ev.var rfl) rfl)) fun _ => ev_neI (i := 2) (Ev.bndA (w := .pu (.int 2)) (.cons (Ev.var rfl) .nil) rfl) .k) rfl
  refine Nx.seq (Nx.if (x := false) t1 (fun z => nomatch z) fun _ => .nx) ?_
  have c1 := g.c60
  have r1 := g.r60
  have n1 := fr_names (m := (tab.length : Nat)) g.rtx (by rw [names_len g.nr]; omega)
  have n2 := fr_names (m := ((tab.getD 0 []).length : Nat)) g.ctx (by rw [names_len g.nc]; omega)
  rw [g.nr] at n1
  rw [g.nc] at n2
  have l1 : Ev (bndA (fCons (fVar 1) (fNil)) gLen) [N0 rn cn, T0 tab] (.int (tab.length : Nat)) := Ev.to (ev_len (ds := tab.map fun r => .list (r.map .int)) (Ev.var rfl)) (by rw [List.length_map])
  have l2 : Ev (bndA (fCons (fOp2 gIx (fVar 1) (fC (.int 0))) (fNil)) gLen) [N0 rn cn, T0 tab] (.int ((tab.getD 0 []).length : Nat)) := ev_lenI (ev_ixL (k := 0) (ds := tab.map fun r => .list (r.map .int)) (Ev.var rfl) .k (tab_at g.rows))
  have t2 := Ev.or (Ev.not (Ev.call (n := 2) (.cons (ev_ixT (ρ := [N0 rn cn, T0 tab]) (k := 0) (Ev.var (i := 0) rfl) .k rfl) (.cons l1 .nil)) n1 rfl)) fun _ => Ev.not (Ev.call (n := 2) (.cons (ev_ixT (ρ := [N0 rn cn, T0 tab]) (k := 1) (Ev.var (i := 0) rfl) .k rfl) (.cons l2 .nil)) n2 rfl)
  exact Nx.if (x := false) t2 (fun z => nomatch z) fun _ => .nx
theorem fr_text (ca : Str → Addr) (g : Gd tab rn cn) : Fr (F_text_of_grid ca) [tabD tab, namesD rn cn] (.str (drawS tab rn cn)) := by
  refine fr_of (n := 2) (g := g_text_of_grid ca) (ds := [tabD tab, namesD rn cn]) ?_
  show Rt (g_text_of_grid ca) [T0 tab, N0 rn cn] _
  refine Rt.seq (.drop (.call (.cons (Ev.var rfl) .nil) (fr_check_grid ca g) rfl)) ?_
  refine Rt.seq (.drop (.call (.cons (Ev.var rfl) (.cons (Ev.var rfl) .nil)) (fr_check_names ca g) rfl)) ?_
  exact .ret (.call (.cons (.call (.cons (Ev.var rfl) (.cons (Ev.var rfl) .nil)) (frL_words g).fr rfl) .nil) (fr_draw g) rfl) rfl
theorem acc_all (ws : List (List Str)) : accS ws ws = textS ws := rfl
theorem Gd.tx (g : Gd tab rn cn) : Tx (drawS tab rn cn) := by
  refine ⟨?_, fun c hc => ?_⟩
  · have := acc_len g.bd (done := wordsS tab rn cn) fun r hr => hr
    have f := g.bd.few
    unfold drawS
    rw [acc_all] at this
    omega
  · unfold drawS at hc
    rw [tl_text] at hc
    obtain ⟨l, hl, hc⟩ := List.mem_flatten.mp hc
    obtain ⟨r, hr, rfl⟩ := List.mem_map.mp hl
    have wd := g.wwd hr
    have cz : ∀ k, ∀ c ∈ tl (padS (wordsS tab rn cn) r k), c < 0x110000 := fun k c hc => by
      rw [tl_pad] at hc
      rcases List.mem_append.mp hc with z | z
      · rw [rep_mem z]; decide
      · have := (wd_at wd k).lo c z; omega
    have bz : ∀ c ∈ barL, c < 0x110000 := by decide
    have jz : ∀ ps : List (List Nat), (∀ p ∈ ps, ∀ c ∈ p, c < 0x110000) → ∀ c ∈ joinL [32] ps, c < 0x110000 := by
      intro ps
      induction ps with
      | nil => intro _ c hc; cases hc
      | cons p r ih =>
        intro h c hc
        cases r with
        | nil => exact h p List.mem_cons_self c hc
        | cons q r =>
          have hc : c ∈ p ++ ([32] ++ joinL [32] (q :: r)) := hc
          rw [List.mem_append, List.mem_append] at hc
          rcases hc with z | z | z
          · exact h p List.mem_cons_self c z
          · rw [List.mem_singleton.mp z]; decide
          · exact ih (fun y hy => h y (List.mem_cons_of_mem _ hy)) c z
    rcases List.mem_append.mp hc with z | z
    · rw [tl_line] at z
      simp only [List.mem_append] at z
      rcases z with z | z | z | z | z
      · exact cz _ c z
      · exact bz c z
      · refine jz _ (fun p hp => ?_) c z
        obtain ⟨w, hw, rfl⟩ := List.mem_map.mp hp
        obtain ⟨k, _, rfl⟩ := List.mem_map.mp hw
        exact cz _
      · exact bz c z
      · exact cz _ c z
    · rw [List.mem_singleton.mp z]; decide
end
end K65
/-! B15: _law_drawn_order, _law_bent. -/
namespace K65
open PySem L2 PyProof.Rows DL TL
theorem erase_perm {α : Type} : ∀ {l : List α} {k : Nat} {d : α}, l[k]? = some d → (d :: l.eraseIdx k).Perm l
  | [], _, _, h => by simp at h
  | a :: l, 0, d, h => by
    have e : a = d := by simpa using h
    rw [e]
    exact .refl _
  | a :: l, k + 1, d, h => by
    have h : l[k]? = some d := by simpa using h
    have ih := erase_perm h
    rw [List.eraseIdx_cons_succ]
    exact (List.Perm.swap a d _).trans (ih.cons a)
theorem map_erase (f : Str → D) : ∀ (l : List Str) (k : Nat), (l.map f).eraseIdx k = (l.eraseIdx k).map f
  | [], _ => rfl
  | a :: l, 0 => rfl
  | a :: l, k + 1 => by
    rw [List.map_cons, List.eraseIdx_cons_succ, List.eraseIdx_cons_succ, List.map_cons, map_erase f l k]
theorem EvS.pop {ρ ρ1 : DL.Env} {fb : DL.Env → RE} {i t t0 k : Nat} {ds ds0 : List D} {d : D} (h0 : ρ[i]? = some (some (.own t0 ds0))) (hb : EvS fb ρ ρ1 (.int (k : Nat))) (h1 : ρ1[i]? = some (some (.own t ds))) (hk : ds[k]? = some d) (hz : k < 2 ^ 62) : EvS (fPop i fb) ρ (ρ1.set i (some (.own t (ds.eraseIdx k)))) d := by
  obtain ⟨w, h2, h3⟩ := hb
  have hl : k < ds.length := (List.getElem?_eq_some_iff.mp hk).1
  have e : seqIndex? (k : Nat) ds.length = some k := by
    unfold seqIndex?
    simp only [show ¬ ((k : Nat) : Int) < 0 by omega, if_false]
    rw [if_pos (by simp; omega), Int.toNat_natCast]
  refine ⟨.pu d, ?_, rfl⟩
  unfold fPop
  rw [h0]
  dsimp only
  rw [h2]
  dsimp only
  rw [h1, h3]
  dsimp only
  rw [if_pos ⟨by omega, by omega⟩, e]
  dsimp only
  rw [hk]
theorem Nx.appS {ρ ρ1 : DL.Env} {fa : DL.Env → RE} {i t t0 : Nat} {ds ds0 : List D} {d : D} (h0 : ρ[i]? = some (some (.own t0 ds0))) (ha : EvS fa ρ ρ1 d) (h1 : ρ1[i]? = some (some (.own t ds))) (hl : ds.length < sizeLine) : Nx (sApp i fa) ρ (ρ1.set i (some (.own t (ds ++ [d])))) := by
  obtain ⟨w, h2, rfl⟩ := ha
  unfold Nx sApp sE
  rw [h0]
  dsimp only
  rw [h2]
  dsimp only
  rw [h1]
  dsimp only
  rw [if_pos hl]
theorem small_bd {n : Nat} (h : n ≤ 2 ^ 40) : (((n : Nat) : Int)).natAbs < 2 ^ 149 := by
  have : (((n : Nat) : Int)).natAbs = n := by omega
  rw [this]
  exact Nat.lt_of_le_of_lt h (by decide)
theorem order_loop {pd : Option Sl} : ∀ (n : Nat) (left found : List Str) (ds : List D) (m : Nat), left.length = n → n ≤ 100 → found.length + n ≤ 100 → (∀ w ∈ left, Tx w) → Gen m ds → m + 6 * n + 6 < 2 ^ 50 →
    ∃ ds2 out, whGo (fNeNilO 2) (sApp 3 (fPop 2 (fLend 2 0 F_l_random (fCons (fLenO 2) (fNil))))) (n + 1) [some (.own 1 ds), pd, some (.own 0 (sDs left)), some (.own 0 (sDs found))] = .nx [some (.own 1 ds2), pd, some (.own 0 []), some (.own 0 (sDs out))] ∧ out.Perm (found ++ left) ∧ Gen (m + 6 * n) ds2
  | 0, left, found, ds, m, hl, h100, hf, ht, G, hm => by
    have e : left = [] := List.length_eq_zero_iff.mp hl
    subst e
    exact ⟨ds, found, rfl, by rw [List.append_nil], G⟩
  | n + 1, left, found, ds, m, hl, h100, hf, ht, G, hm => by
    have c : fNeNilO 2 [some (.own 1 ds), pd, some (.own 0 (sDs left)), some (.own 0 (sDs found))] = .ok (.pu (.bool true)) [some (.own 1 ds), pd, some (.own 0 (sDs left)), some (.own 0 (sDs found))] := by
      show (if SeqAt.shaped (.list (sDs left)) then RE.ok (.pu (.bool (!PyData.eqv (.list (sDs left)) (.list [])))) _ else .st) = _
      rw [if_pos ((LD.list (str_ld ht)).shaped (by decide))]
      cases left with
      | nil => cases hl
      | cons a r => rfl
    obtain ⟨r, ds1, f1, f2, f3⟩ := random_ok (b := (left.length : Nat)) G (by omega) (by omega) (small_bd (by omega))
    have hr : r < left.length := by omega
    have ev1 : EvS (fLend 2 0 F_l_random (fCons (fLenO 2) (fNil))) [some (.own 1 ds), pd, some (.own 0 (sDs left)), some (.own 0 (sDs found))] [some (.own 1 ds1), pd, some (.own 0 (sDs left)), some (.own 0 (sDs found))] (.int (r : Nat)) :=
      EvS.lend (i := 0) (t := 1) (ds := ds) (es := [.int (left.length : Nat)]) rfl (.cons ⟨.pu (.int ((sDs left).length : Nat)), rfl, by rw [List.length_map]; rfl⟩ .nil) rfl f1
    have ev2 := EvS.pop (i := 2) (t := 0) (t0 := 0) (k := r) rfl ev1 rfl (sD_at hr) (by omega)
    have sz : (sDs found).length < sizeLine := by
      rw [List.length_map]
      exact Nat.lt_of_lt_of_le (show found.length < 101 by omega) (by decide)
    have nx := Nx.appS (i := 3) (t := 0) (t0 := 0) rfl ev2 rfl sz
    have el : left[r]? = some (left.getD r nilS) := by rw [List.getD_eq_getElem?_getD, List.getElem?_eq_getElem hr]; rfl
    have pm := erase_perm el
    have len2 := pm.length_eq
    rw [List.length_cons] at len2
    obtain ⟨ds2, out, q1, q2, q3⟩ := order_loop (pd := pd) n (left.eraseIdx r) (found ++ [left.getD r nilS]) ds1 (m + 6) (by omega) (by omega) (by rw [List.length_append, List.length_singleton]; omega) (fun w hw => ht w (pm.subset (List.mem_cons_of_mem _ hw))) f3 (by omega)
    refine ⟨ds2, out, ?_, ?_, (by rw [show m + 6 * (n + 1) = m + 6 + 6 * n by omega]; exact q3)⟩
    · rw [← q1]
      conv => lhs; unfold whGo
      rw [c]
      dsimp only
      rw [show sApp 3 _ _ = _ from nx]
      dsimp only
      show whGo _ _ (n + 1) [some (.own 1 ds1), pd, some (.own 0 ((sDs left).eraseIdx r)), some (.own 0 (sDs found ++ [.str (left.getD r nilS)]))] = _
      rw [show (sDs left).eraseIdx r = sDs (left.eraseIdx r) from map_erase _ _ _, show sDs found ++ [.str (left.getD r nilS)] = sDs (found ++ [left.getD r nilS]) by unfold sDs; rw [List.map_append]; rfl]
    · refine q2.trans ?_
      rw [List.append_assoc]
      exact List.Perm.append_left _ pm
/-- an order drawn -/
theorem order_ok {ds : List D} {m : Nat} {pool : List Str} (G : Gen m ds) (hp : ∀ w ∈ pool, Tx w) (hl : pool.length ≤ 50) (hm : m + 400 < 2 ^ 50) : ∃ (out : List Str) (ds2 : List D), FrO F_l_drawn_order ds [.list (sDs pool)] ds2 (.list (sDs out)) ∧ out.Perm pool ∧ Gen (m + 6 * pool.length) ds2 := by
  obtain ⟨ds2, out, q1, q2, q3⟩ := order_loop (pd := some (.pu (.list (sDs pool)))) pool.length pool [] ds m rfl (by omega) (by simp; omega) hp G (by omega)
  refine ⟨out, ds2, ?_, q2, q3⟩
  refine frO_of (n := 4) (g := g_l_drawn_order) (w := .frs (sDs out)) (ρ' := [some (.own 1 ds2), some (.pu (.list (sDs pool))), some (.own 0 []), none]) ?_ rfl rfl
  show g_l_drawn_order [some (.own 1 ds), some (.pu (.list (sDs pool))), none, none] = _
  unfold g_l_drawn_order
  have s1 : Nx (sParO 2 3 (bndA (fCons (fVar 1) (fNil)) gListOf) (bndA (fNil) gMkL)) [some (.own 1 ds), some (.pu (.list (sDs pool))), none, none] [some (.own 1 ds), some (.pu (.list (sDs pool))), some (.own 0 (sDs pool)), some (.own 0 (sDs []))] := rfl
  rw [seq_nx s1]
  have s2 : Nx (fun ρ => whGo (fNeNilO 2) (sApp 3 (fPop 2 (fLend 2 0 F_l_random (fCons (fLenO 2) (fNil))))) (m_l_drawn_order ρ) ρ) [some (.own 1 ds), some (.pu (.list (sDs pool))), some (.own 0 (sDs pool)), some (.own 0 (sDs []))] [some (.own 1 ds2), some (.pu (.list (sDs pool))), some (.own 0 []), some (.own 0 (sDs out))] := by
    show whGo _ _ ((sDs pool).length + 1) _ = _
    rw [List.length_map]
    exact q1
  rw [seq_nx s2]
  rfl
/-! ### a drawing bent -/
theorem cutH_tl (z : Str) (k : Nat) : tl (cutS z none (some (k : Int))) = (tl z).take k := by
  rw [cutS_tl, HT.sIx_none, HT.sIx_nat, List.drop_zero, Nat.sub_zero, len_tl]
  rcases Nat.le_total k (tl z).length with h | h
  · rw [Nat.min_eq_left h]
  · rw [Nat.min_eq_right h, List.take_length, List.take_of_length_le h]
theorem cutL_tl (z : Str) (k : Nat) : tl (cutS z (some (k : Int)) none) = (tl z).drop k := by
  rw [cutS_tl, HT.sIx_none, HT.sIx_nat, len_tl]
  rcases Nat.le_total k (tl z).length with h | h
  · rw [Nat.min_eq_left h, List.take_of_length_le (by rw [List.length_drop]; omega)]
  · rw [Nat.min_eq_right h, List.drop_of_length_le (Nat.le_refl _), List.drop_of_length_le h]
    simp
theorem bent_ok {ds : List D} {m : Nat} {x sg : Str} (G : Gen m ds) (hm : m + 100 < 2 ^ 50) (hx : Tx x) (hx2 : x.length ≤ 600000) (hs : Tx sg) (h1 : 1 ≤ sg.length) : ∃ (y : Str) (ds2 : List D), FrO F_l_bent ds [.str x, .str sg] ds2 (.str y) ∧ Tx y ∧ Gen (m + 18) ds2 := by
  obtain ⟨way, ds1, f1, f2, f3⟩ := random_ok (b := 8) G (by omega) (by omega) (by decide)
  obtain ⟨at', ds2, g1, g2, g3⟩ := random_ok (b := ((x.length + 1 : Nat) : Int)) f3 (by omega) (by omega) (small_bd (by omega))
  obtain ⟨j, ds3, k1, k2, k3⟩ := random_ok (b := (sg.length : Nat)) g3 (by omega) (by omega) (small_bd (by have := hs.len; omega))
  have hj : j < (tl sg).length := by rw [← len_tl]; omega
  let sj : Str := ⟨#[(tl sg)[j]]⟩
  have sjt : tl sj = [(tl sg)[j]] := rfl
  have sjl : sj.length = 1 := rfl
  let ρ3 : DL.Env := [some (.own 1 ds3), some (.pu (.str x)), some (.pu (.str sg)), some (.pu (.int (way : Nat))), some (.pu (.int (at' : Nat))), some (.pu (.str sj))]
  have c3 : colE ρ3 = [(1, ds3)] := rfl
  have s1 : Nx (sPar 3 4 (fLend 2 0 F_l_random (fCons (fC (.int 8)) (fNil))) (fLend 2 0 F_l_random (fCons (fOp2 gAdd (bndA (fCons (fVar 1) (fNil)) gLen) (fC (.int 1))) (fNil)))) [some (.own 1 ds), some (.pu (.str x)), some (.pu (.str sg)), none, none, none] [some (.own 1 ds2), some (.pu (.str x)), some (.pu (.str sg)), some (.pu (.int (way : Nat))), some (.pu (.int (at' : Nat))), none] := by
    obtain ⟨w1, a1, a2⟩ := EvS.lend (n := 2) (i := 0) (t := 1) (ds := ds) (es := [.int 8]) (ρ := [some (.own 1 ds), some (.pu (.str x)), some (.pu (.str sg)), none, none, none]) (fs := fCons (fC (.int 8)) (fNil)) rfl (.cons .k .nil) rfl f1
    obtain ⟨w2, b1, b2⟩ := EvS.lend (n := 2) (i := 0) (t := 1) (ds := ds1) (es := [.int ((x.length + 1 : Nat) : Int)]) (ρ := [some (.own 1 ds1), some (.pu (.str x)), some (.pu (.str sg)), none, none, none]) (fs := fCons (fOp2 gAdd (bndA (fCons (fVar 1) (fNil)) gLen) (fC (.int 1))) (fNil)) rfl (.cons (Ev.to (ev_addI (ev_lenS (Ev.var rfl) hx.len) .k) rfl) .nil) rfl g1
    cases w1 with
    | frs _ => cases a2
    | pu d1 =>
      cases w2 with
      | frs _ => cases b2
      | pu d2 =>
        have a2 : d1 = _ := a2
        have b2 : d2 = _ := b2
        subst a2 b2
        unfold Nx sPar sE
        rw [a1]
        dsimp only
        exact (by rw [show fLend 2 0 F_l_random _ ((([some (.own 1 ds), some (.pu (.str x)), some (.pu (.str sg)), none, none, none] : DL.Env).set 0 (some (.own 1 ds1)))) = _ from b1]; rfl)
  have s2 : Nx (sPut 5 (fOp2 gIx (fVar 2) (fLend 2 0 F_l_random (fCons (bndA (fCons (fVar 2) (fNil)) gLen) (fNil))))) [some (.own 1 ds2), some (.pu (.str x)), some (.pu (.str sg)), some (.pu (.int (way : Nat))), some (.pu (.int (at' : Nat))), none] ρ3 := by
    refine put_s (i := 5) (EvS.op2 (w := .pu (.str sj)) (ρ1 := [some (.own 1 ds2), some (.pu (.str x)), some (.pu (.str sg)), some (.pu (.int (way : Nat))), some (.pu (.int (at' : Nat))), none]) (Ev.s (Ev.var (i := 2) rfl)) (EvS.lend (i := 0) (t := 1) (ds := ds2) (es := [.int (sg.length : Nat)]) rfl (.cons (ev_lenS (Ev.var rfl) hs.len) .nil) rfl k1) ?_)
    show (if sg.length ≤ sizeLine then (atI (tl sg) (j : Int)).map (fun c => W.pu (.str ⟨#[c]⟩)) else none) = _
    rw [if_pos (Nat.le_trans hs.len (by decide)), DL.atI_nat (List.getElem?_eq_getElem hj)]
    rfl
  have eH : Ev (fOp2 gCutSH (fVar 1) (fVar 4)) ρ3 (.str (cutS x none (some (at' : Int)))) := ev_cutSH (Ev.var rfl) (Ev.var rfl) hx.len
  have eL : Ev (fOp2 gCutSL (fVar 1) (fVar 4)) ρ3 (.str (cutS x (some (at' : Int)) none)) := ev_cutSL (Ev.var rfl) (Ev.var rfl) hx.len
  have eL1 : Ev (fOp2 gCutSL (fVar 1) (fOp2 gAdd (fVar 4) (fC (.int 1)))) ρ3 (.str (cutS x (some ((at' + 1 : Nat) : Int)) none)) := ev_cutSL (Ev.var rfl) (Ev.to (ev_addI (Ev.var rfl) .k) rfl) hx.len
  have lH : (cutS x none (some (at' : Int))).length ≤ 600000 := Nat.le_trans (cutS_length _ _ _) hx2
  have lL : (cutS x (some (at' : Int)) none).length ≤ 600000 := Nat.le_trans (cutS_length _ _ _) hx2
  have lL1 : (cutS x (some ((at' + 1 : Nat) : Int)) none).length ≤ 600000 := Nat.le_trans (cutS_length _ _ _) hx2
  have tx : ∀ a b : Str, Sb a x → Sb b x → (tl a).length + (tl b).length ≤ (tl x).length → Tx (a ++ b) ∧ Tx ((a ++ sj) ++ b) := fun a b ha hb hab => by
    have hsum : (tl x).length ≤ 600000 := by rw [← len_tl]; exact hx2
    refine ⟨⟨by rw [app_len, len_tl, len_tl]; omega, fun c hc => ?_⟩, ⟨by rw [app_len, app_len, len_tl a, len_tl b, sjl]; omega, fun c hc => ?_⟩⟩
    · rw [tl_append] at hc
      rcases List.mem_append.mp hc with z | z
      · exact hx.ok c (ha.mem z)
      · exact hx.ok c (hb.mem z)
    · rw [tl_append, tl_append, sjt] at hc
      rcases List.mem_append.mp hc with z | z
      · rcases List.mem_append.mp z with z | z
        · exact hx.ok c (ha.mem z)
        · rw [List.mem_singleton.mp z]; exact hs.ok _ (List.getElem_mem hj)
      · exact hx.ok c (hb.mem z)
  have hH := cut_sub x none (some (at' : Int))
  have hL := cut_sub x (some (at' : Int)) none
  have hL1 := cut_sub x (some ((at' + 1 : Nat) : Int)) none
  have ab : (tl (cutS x none (some (at' : Int)))).length + (tl (cutS x (some (at' : Int)) none)).length ≤ (tl x).length := by
    rw [cutH_tl, cutL_tl, List.length_take, List.length_drop]; omega
  have ab1 : (tl (cutS x none (some (at' : Int)))).length + (tl (cutS x (some ((at' + 1 : Nat) : Int)) none)).length ≤ (tl x).length := by
    rw [cutH_tl, cutL_tl, List.length_take, List.length_drop]; omega
  have fin : ∀ (y : Str) (w : DL.W), g_l_bent [some (.own 1 ds), some (.pu (.str x)), some (.pu (.str sg)), none, none, none] = .ret w ρ3 → w.d = .str y → FrO F_l_bent ds [.str x, .str sg] ds3 (.str y) := fun y w h1 h2 => frO_of (n := 6) (g := g_l_bent) (w := w) (ρ' := ρ3) h1 h2 c3
  have lt3 : Ev (fOp2 gLt (fVar 3) (fC (.int 3))) ρ3 (.bool (decide ((way : Int) < 3))) := ev_lt (Ev.var rfl) .k
  have lt6 : Ev (fOp2 gLt (fVar 3) (fC (.int 6))) ρ3 (.bool (decide ((way : Int) < 6))) := ev_lt (Ev.var rfl) .k
  by_cases w3 : (way : Int) < 3
  · obtain ⟨w, r1, r2⟩ := ret_s (Ev.s (ev_addS eH eL1 (by omega)))
    refine ⟨_, ds3, fin _ w ?_ r2, (tx _ _ hH hL1 ab1).1, k3.up (by omega)⟩
    unfold g_l_bent
    rw [seq_nx s1, seq_nx s2]
    refine seq_ret ?_
    rw [if_eq lt3, decide_eq_true w3]
    exact r1
  · by_cases w6 : (way : Int) < 6
    · obtain ⟨w, r1, r2⟩ := ret_s (Ev.s (ev_addS (ev_addS eH (Ev.var (i := 5) rfl) (by rw [sjl]; omega)) eL (by rw [app_len, sjl]; omega)))
      refine ⟨_, ds3, fin _ w ?_ r2, (tx _ _ hH hL ab).2, k3.up (by omega)⟩
      unfold g_l_bent
      rw [seq_nx s1, seq_nx s2, seq_nx (.if (x := false) (Ev.bl lt3 (decide_eq_false w3)) (fun z => nomatch z) fun _ => .nx)]
      refine seq_ret ?_
      rw [if_eq lt6, decide_eq_true w6]
      exact r1
    · obtain ⟨w, r1, r2⟩ := ret_s (Ev.s (ev_addS (ev_addS eH (Ev.var (i := 5) rfl) (by rw [sjl]; omega)) eL1 (by rw [app_len, sjl]; omega)))
      refine ⟨_, ds3, fin _ w ?_ r2, (tx _ _ hH hL1 ab1).2, k3.up (by omega)⟩
      unfold g_l_bent
      rw [seq_nx s1, seq_nx s2, seq_nx (.if (x := false) (Ev.bl lt3 (decide_eq_false w3)) (fun z => nomatch z) fun _ => .nx), seq_nx (.if (x := false) (Ev.bl lt6 (decide_eq_false w6)) (fun z => nomatch z) fun _ => .nx)]
      exact r1
end K65
/-! B16: _law_grid_right. -/
namespace K65
open PySem L2 PyProof.Rows DL TL
theorem Sm.str {x : Str} {W : Nat} (h : Tx x) (hw : x.length ≤ W) : Sm 0 W (.str x) := ⟨(LD.str h 0).1, rfl, rfl, Nat.le_refl _, by simpa [PyData.weight, Str.length] using hw⟩
theorem Sm.intB {n : Int} (h : n.natAbs < 10 ^ 11) : Sm 0 40 (.int n) := by
  have lg : n.natAbs.log2 < 40 := log2_lt' (Nat.lt_of_lt_of_le h (by decide)) (by decide)
  refine ⟨rfl, ?_, ?_, Nat.le_refl _, ?_⟩
  · exact decide_eq_true (by omega)
  · refine decide_eq_true ?_
    have := num_len (k := 11) (by decide) h
    simp only [PyData.shown]
    exact Nat.le_trans this (by decide)
  · simp only [PyData.weight]
    split
    · exact Nat.zero_le _
    · omega
/-- a table that the law draws -/
structure Dr (tab : List (List Int)) (rn cn : List Str) : Prop where
  g : Gd tab rn cn
  small : ∀ r ∈ tab, ∀ i ∈ r, i.natAbs < 10 ^ 11
  nm : ∀ w ∈ rn, w ≠ "marked"
  cm : ∀ w ∈ cn, w ≠ "marked"
section
variable {tab : List (List Int)} {rn cn : List Str}
theorem sm_names {ns : List Str} (h : ∀ w ∈ ns, Tx w ∧ w.length ≤ 12) (hl : ns.length ≤ 60) : Sm 1 780 (.list (sDs ns)) :=
  (Sm.list (Sms.map (k := 0) (a := 12) (φ := fun w => PyData.str w) fun w hw => Sm.str (h w hw).1 (h w hw).2)).mono (by decide) (by omega)
theorem Dr.sm_t (d : Dr tab rn cn) : Sm 2 148000 (tabD tab) := by
  have h1 := d.g.r60
  have h2 := d.g.c60
  refine (Sm.list (Sms.map (k := 1) (a := 2460) (φ := fun r : List Int => PyData.list (r.map .int)) fun r hr => (Sm.list (Sms.map (k := 0) (a := 40) (φ := PyData.int) fun i hi => Sm.intB (d.small r hr i hi))).mono (by decide) ?_)).mono (by decide) ?_
  · rw [d.g.same r hr]; omega
  · omega
theorem Dr.sm_n (d : Dr tab rn cn) : Sm 2 1600 (namesD rn cn) := by
  have h1 := d.g.r60
  have h2 := d.g.c60
  have a := sm_names (ns := rn) (fun w hw => ⟨d.g.rtx w hw, (name_len (names_name d.g.nr w hw)).2⟩) (by rw [names_len d.g.nr]; exact h1)
  have b := sm_names (ns := cn) (fun w hw => ⟨d.g.ctx w hw, (name_len (names_name d.g.nc w hw)).2⟩) (by rw [names_len d.g.nc]; exact h2)
  exact (Sm.tuple (Sms.cons a (Sms.cons b Sms.nil))).mono (by decide) (by decide)
theorem Dr.rpr1 (d : Dr tab rn cn) : Rpr (.list [tabD tab, namesD rn cn]) := (Sm.list (Sms.cons d.sm_t (Sms.cons (d.sm_n.mono (by decide) (Nat.le_refl _)) Sms.nil))).rpr (by decide) (by decide)
theorem Dr.rpr2 (d : Dr tab rn cn) : Rpr (.tuple [.str "let", .tuple [tabD tab, namesD rn cn]]) :=
  (Sm.tuple (k := 3) (Sms.cons ((Sm.str (x := "let") (W := 3) ⟨by decide, by decide +kernel⟩ (by decide)).mono (by decide) (Nat.le_refl _)) (Sms.cons (Sm.tuple (Sms.cons d.sm_t (Sms.cons (d.sm_n.mono (by decide) (Nat.le_refl _)) Sms.nil))) Sms.nil))).rpr (by decide) (by decide)
theorem rpr_str {x : Str} (h : Tx x) : Rpr (.str x) := (Sm.str h h.len).rpr (by decide) (by decide)
theorem lastOk_names {ns : List Str} (h : ∀ w ∈ ns, w ≠ "marked") : lastOk (sDs ns) = true := by
  unfold lastOk
  cases e : (sDs ns).getLast? with
  | none => rfl
  | some d =>
    have m := List.mem_of_getLast? e
    obtain ⟨w, hw, rfl⟩ := List.mem_map.mp m
    exact decide_eq_true (h w hw)
theorem lastOk_no {ds : List D} (h : ∀ d ∈ ds, ∀ x, d ≠ .str x) : lastOk ds = true := by
  unfold lastOk
  cases e : ds.getLast? with
  | none => rfl
  | some d =>
    have m := h d (List.mem_of_getLast? e)
    cases d with
    | str x => exact absurd rfl (m x)
    | _ => rfl
theorem okL_of {k : Nat} {ds : List D} (hk : k < 60) (h1 : ∀ d ∈ ds, LD k d) (h2 : ds.length < 1000) (h3 : lastOk ds = true) : okL ds = true := by
  unfold okL
  rw [(LD.list h1).shaped (by omega), decide_eq_true h2, h3]
  rfl
theorem Dr.gtok (d : Dr tab rn cn) (e : GtEx (drawS tab rn cn) tab rn cn) : GtOk (drawS tab rn cn) tab rn cn := by
  have h1 := d.g.r60
  have h2 := d.g.c60
  refine ⟨e, by omega, ?_, fun r hr => ?_, ?_, ?_⟩
  · refine okL_of (k := 1) (by decide) (fun x hx => ?_) (by rw [List.length_map]; omega) (lastOk_no fun x hx y z => ?_)
    · obtain ⟨r, hr, rfl⟩ := List.mem_map.mp hx
      exact .list fun y hy => by
        obtain ⟨i, _, rfl⟩ := List.mem_map.mp hy
        exact .int i 0
    · obtain ⟨r, hr, rfl⟩ := List.mem_map.mp hx
      cases z
  · refine okL_of (k := 0) (by decide) (fun x hx => ?_) (by rw [List.length_map, d.g.same r hr]; omega) (lastOk_no fun x hx y z => ?_)
    · obtain ⟨i, _, rfl⟩ := List.mem_map.mp hx
      exact .int i 0
    · obtain ⟨i, _, rfl⟩ := List.mem_map.mp hx
      cases z
  · exact okL_of (k := 0) (by decide) (str_ld d.g.rtx) (by rw [List.length_map, names_len d.g.nr]; omega) (lastOk_names d.nm)
  · exact okL_of (k := 0) (by decide) (str_ld d.g.ctx) (by rw [List.length_map, names_len d.g.nc]; omega) (lastOk_names d.cm)
end
theorem read_ok {ca : Str → Addr} {fb : DL.Env → RE} {ρ : DL.Env} {d : D} (h : Ev fb (pubE ρ) d) : Ev (fRead ca fb) ρ (.tuple [.str "let", d]) := by
  obtain ⟨w, h1, rfl⟩ := h
  refine ⟨.pu (.tuple [.str "let", w.d]), ?_, rfl⟩
  unfold fRead
  rw [h1]
theorem read_er {ca : Str → Addr} {fb : DL.Env → RE} {ρ : DL.Env} {d : D} (h : fb (pubE ρ) = .err (ca "InvalidText") d) : Ev (fRead ca fb) ρ (.tuple [.str "text", d]) := by
  refine ⟨.pu (.tuple [.str "text", d]), ?_, rfl⟩
  unfold fRead
  rw [h]
  dsimp only
  rw [if_pos rfl]
theorem ev_repr {ρ : DL.Env} {fa : DL.Env → RE} {d : D} {z : Str} (h : gRepr [d] = some (.pu (.str z))) (ha : Ev fa ρ d) : Ev (bndA (fCons fa (fNil)) gRepr) ρ (.str z) := Ev.bndA (w := .pu (.str z)) (.cons ha .nil) h
abbrev bSigns : Str := "01-| \nabl"
/-- one bent drawing -/
abbrev brBody (ca : Str → Addr) : DL.Env → RS := sSeq (sPut 6 (fLend 3 0 F_l_bent (fCons (fVar 3) (fCons (fC (.str "01-| \nabl")) (fNil))))) (sSeq (sPut 7 (fRead ca (fCall 1 (F_grid_of_text ca) (fCons (fVar 6) (fNil))))) (sSeq (sIf (fAnd (fOp2 gEq (fOp2 gIx (fVar 7) (fC (.int 0))) (fC (.str "text"))) (fOr (fOp2 gNe (bndA (fCons (fOp2 gIx (fVar 7) (fC (.int 1))) (fNil)) gRepr) (bndA (fCons (fVar 6) (fNil)) gRepr)) (fOp2 gEq (fVar 6) (fVar 3)))) (sRet (fC (.bool false))) (.nx)) (sIf (fAnd (fOp2 gEq (fOp2 gIx (fVar 7) (fC (.int 0))) (fC (.str "let"))) (fOp2 gNe (fCall 2 F_l_drawing (fCons (fOp2 gIx (fOp2 gIx (fVar 7) (fC (.int 1))) (fC (.int 0))) (fCons (fOp2 gIx (fOp2 gIx (fVar 7) (fC (.int 1))) (fC (.int 1))) (fNil)))) (fVar 6))) (sRet (fC (.bool false))) (.nx))))
theorem br_ok (ca : Str → Addr) {tab : List (List Int)} {rn cn : List Str} (g : Gd tab rn cn) {ds : List D} {m : Nat} {x4 x5 x6 x7 : Option Sl} (G : Gen m ds) (hm : m + 100 < 2 ^ 50) :
    ∃ ds2 y t, Gen (m + 18) ds2 ∧ Nx (brBody ca) [some (.own 1 ds), T0 tab, N0 rn cn, some (.pu (.str (drawS tab rn cn))), x4, x5, x6, x7] [some (.own 1 ds2), T0 tab, N0 rn cn, some (.pu (.str (drawS tab rn cn))), x4, x5, some (.pu y), some (.pu t)] := by
  have hx2 : (drawS tab rn cn).length ≤ 600000 := by
    have := acc_len g.bd (done := wordsS tab rn cn) fun r hr => hr
    have f := g.bd.few
    unfold drawS
    rw [acc_all] at this
    omega
  obtain ⟨y, ds2, f1, ty, f3⟩ := bent_ok (sg := bSigns) G hm g.tx hx2 ⟨by decide +kernel, by decide +kernel⟩ (by decide +kernel)
  let ρ1 : DL.Env := [some (.own 1 ds2), T0 tab, N0 rn cn, some (.pu (.str (drawS tab rn cn))), x4, x5, some (.pu (.str y)), x7]
  have s1 : Nx (sPut 6 (fLend 3 0 F_l_bent (fCons (fVar 3) (fCons (fC (.str "01-| \nabl")) (fNil))))) [some (.own 1 ds), T0 tab, N0 rn cn, some (.pu (.str (drawS tab rn cn))), x4, x5, x6, x7] ρ1 :=
    put_s (EvS.lend (i := 0) (t := 1) (ds := ds) (es := [.str (drawS tab rn cn), .str bSigns]) rfl (.cons (Ev.var rfl) (.cons .k .nil)) rfl f1)
  by_cases hG : ∃ R, GoodR y R
  · obtain ⟨R, G2⟩ := hG
    obtain ⟨g2, _, fr⟩ := read_good ca ty G2
    have rd : Ev (fRead ca (fCall 1 (F_grid_of_text ca) (fCons (fVar 6) (fNil)))) ρ1 (.tuple [.str "let", .tuple [tabD (valO (tabO R)), namesD (rnO R) (cnO R)]]) := read_ok (.call (.cons (Ev.var rfl) .nil) fr rfl)
    let ρ2 : DL.Env := [some (.own 1 ds2), T0 tab, N0 rn cn, some (.pu (.str (drawS tab rn cn))), x4, x5, some (.pu (.str y)), some (.pu (.tuple [.str "let", .tuple [tabD (valO (tabO R)), namesD (rnO R) (cnO R)]]))]
    have v7 : Ev (fVar 7) ρ2 (.tuple [.str "let", .tuple [tabD (valO (tabO R)), namesD (rnO R) (cnO R)]]) := Ev.var rfl
    have e0 : Ev (fOp2 gIx (fVar 7) (fC (.int 0))) ρ2 (.str "let") := ev_ixT (k := 0) v7 .k rfl
    have e1 : Ev (fOp2 gIx (fVar 7) (fC (.int 1))) ρ2 (.tuple [tabD (valO (tabO R)), namesD (rnO R) (cnO R)]) := ev_ixT (k := 1) v7 .k rfl
    have dr := fr_drawing g2
    rw [G2.back] at dr
    have c1 : Ev (fAnd (fOp2 gEq (fOp2 gIx (fVar 7) (fC (.int 0))) (fC (.str "text"))) (fOr (fOp2 gNe (bndA (fCons (fOp2 gIx (fVar 7) (fC (.int 1))) (fNil)) gRepr) (bndA (fCons (fVar 6) (fNil)) gRepr)) (fOp2 gEq (fVar 6) (fVar 3)))) ρ2 (.bool false) :=
      Ev.and (x := false) (y := false) (Ev.bl (ev_eqS e0 .k) (by decide +kernel)) fun z => nomatch z
    have c2 : Ev (fAnd (fOp2 gEq (fOp2 gIx (fVar 7) (fC (.int 0))) (fC (.str "let"))) (fOp2 gNe (fCall 2 F_l_drawing (fCons (fOp2 gIx (fOp2 gIx (fVar 7) (fC (.int 1))) (fC (.int 0))) (fCons (fOp2 gIx (fOp2 gIx (fVar 7) (fC (.int 1))) (fC (.int 1))) (fNil)))) (fVar 6))) ρ2 (.bool false) :=
      Ev.and (x := true) (y := false) (Ev.bl (ev_eqS e0 .k) (by decide +kernel)) fun _ => Ev.bl (ev_neS (.call (.cons (ev_ixT (k := 0) e1 .k rfl) (.cons (ev_ixT (k := 1) e1 .k rfl) .nil)) dr rfl) (Ev.var rfl)) (by rw [decide_eq_true rfl]; rfl)
    exact ⟨ds2, _, _, f3, Nx.seq s1 (Nx.seq (.put rd) (Nx.seq (Nx.if (x := false) c1 (fun z => nomatch z) fun _ => .nx) (Nx.if (x := false) c2 (fun z => nomatch z) fun _ => .nx)))⟩
  · have no : ∀ R, ¬ GoodR y R := fun R h => hG ⟨R, h⟩
    have fe := read_bad ca ty no
    have rd : Ev (fRead ca (fCall 1 (F_grid_of_text ca) (fCons (fVar 6) (fNil)))) ρ1 (.tuple [.str "text", .str y]) := read_er (callE (.cons (Ev.var rfl) .nil) fe rfl)
    let ρ2 : DL.Env := [some (.own 1 ds2), T0 tab, N0 rn cn, some (.pu (.str (drawS tab rn cn))), x4, x5, some (.pu (.str y)), some (.pu (.tuple [.str "text", .str y]))]
    have v7 : Ev (fVar 7) ρ2 (.tuple [.str "text", .str y]) := Ev.var rfl
    have e0 : Ev (fOp2 gIx (fVar 7) (fC (.int 0))) ρ2 (.str "text") := ev_ixT (k := 0) v7 .k rfl
    have e1 : Ev (fOp2 gIx (fVar 7) (fC (.int 1))) ρ2 (.str y) := ev_ixT (k := 1) v7 .k rfl
    obtain ⟨z, hz⟩ := rpr_str ty
    have ne : y ≠ drawS tab rn cn := fun e => no _ (e ▸ g.good.1)
    have c1 : Ev (fAnd (fOp2 gEq (fOp2 gIx (fVar 7) (fC (.int 0))) (fC (.str "text"))) (fOr (fOp2 gNe (bndA (fCons (fOp2 gIx (fVar 7) (fC (.int 1))) (fNil)) gRepr) (bndA (fCons (fVar 6) (fNil)) gRepr)) (fOp2 gEq (fVar 6) (fVar 3)))) ρ2 (.bool false) :=
      Ev.and (x := true) (y := false) (Ev.bl (ev_eqS e0 .k) (by decide +kernel)) fun _ => Ev.or (x := false) (y := false) (Ev.bl (ev_neS (ev_repr hz e1) (ev_repr hz (Ev.var rfl))) (by rw [decide_eq_true rfl]; rfl)) fun _ => Ev.bl (ev_eqS (Ev.var rfl) (Ev.var rfl)) (decide_eq_false ne)
    have c2 : Ev (fAnd (fOp2 gEq (fOp2 gIx (fVar 7) (fC (.int 0))) (fC (.str "let"))) (fOp2 gNe (fCall 2 F_l_drawing (fCons (fOp2 gIx (fOp2 gIx (fVar 7) (fC (.int 1))) (fC (.int 0))) (fCons (fOp2 gIx (fOp2 gIx (fVar 7) (fC (.int 1))) (fC (.int 1))) (fNil)))) (fVar 6))) ρ2 (.bool false) :=
      Ev.and (x := false) (y := false) (Ev.bl (ev_eqS e0 .k) (by decide +kernel)) fun z => nomatch z
    exact ⟨ds2, _, _, f3, Nx.seq s1 (Nx.seq (.put rd) (Nx.seq (Nx.if (x := false) c1 (fun z => nomatch z) fun _ => .nx) (Nx.if (x := false) c2 (fun z => nomatch z) fun _ => .nx)))⟩
theorem mark_ok {ρ : DL.Env} {fa : DL.Env → RE} {x : Str} {tab : List (List Int)} {rn cn : List Str} (ha : Ev fa ρ (.str x)) (h : GtOk x tab rn cn) : Ev (fMark fa) ρ (.bool true) := by
  obtain ⟨w, h1, h2⟩ := ha
  refine ⟨.pu (.bool true), ?_, rfl⟩
  unfold fMark
  rw [h1]
  dsimp only
  rw [h2]
  dsimp only
  rw [if_pos ⟨tab, rn, cn, h⟩]
theorem grid_ok (K : PySem.W.Frag) (ca : Str → Addr) {tab : List (List Int)} {rn cn : List Str} (d : Dr tab rn cn) {ds : List D} {m : Nat} (G : Gen m ds) (hm : m + 1000 < 2 ^ 50) : ∃ ds2, FrO (F_l_grid_right K ca) ds [tabD tab, namesD rn cn] ds2 (.bool true) ∧ Gen (m + 144) ds2 := by
  obtain ⟨gR, hv, hr, hc⟩ := d.g.good
  obtain ⟨_, ge, fr⟩ := read_good ca d.g.tx gR
  rw [hv, hr, hc] at ge fr
  obtain ⟨kp, hkp⟩ := d.rpr1
  obtain ⟨k2, hk2⟩ := d.rpr2
  obtain ⟨k3, hk3⟩ := rpr_str d.g.tx
  let e0 : List D → Option Sl → Option Sl → Option Sl → DL.Env := fun ds a b c => [some (.own 1 ds), T0 tab, N0 rn cn, some (.pu (.str (drawS tab rn cn))), some (.pu (.str kp)), a, b, c]
  have s1 : Nx (sBind (bTup [bName 3, bName 4]) (bndA (fCons (fCall 2 F_l_drawing (fCons (fVar 1) (fCons (fVar 2) (fNil)))) (fCons (bndA (fCons (bndA (fCons (fVar 1) (fCons (fVar 2) (fNil))) gMkL) (fNil)) gRepr) (fNil))) gMkT)) [some (.own 1 ds), T0 tab, N0 rn cn, none, none, none, none, none] (e0 ds none none none) :=
    Nx.bind (ev_mkT (.cons (.call (.cons (Ev.var rfl) (.cons (Ev.var rfl) .nil)) (fr_drawing d.g) rfl) (.cons (ev_repr hkp (ev_mkL (.cons (Ev.var rfl) (.cons (Ev.var rfl) .nil)) (by simp)).ev) .nil)) (by simp)) rfl
  have c1 : Ev (fOr (fOp2 gNe (bndA (fCons (fCall 2 (F_text_of_grid ca) (fCons (fVar 1) (fCons (fVar 2) (fNil)))) (fNil)) gRepr) (bndA (fCons (fVar 3) (fNil)) gRepr)) (fOp2 gNe (bndA (fCons (fRead ca (fCall 1 (F_grid_of_text ca) (fCons (fVar 3) (fNil)))) (fNil)) gRepr) (bndA (fCons (bndA (fCons (fC (.str "let")) (fCons (bndA (fCons (fVar 1) (fCons (fVar 2) (fNil))) gMkT) (fNil))) gMkT) (fNil)) gRepr))) (e0 ds none none none) (.bool false) :=
    Ev.or (x := false) (y := false) (Ev.bl (ev_neS (ev_repr hk3 (.call (.cons (Ev.var rfl) (.cons (Ev.var rfl) .nil)) (fr_text ca d.g) rfl)) (ev_repr hk3 (Ev.var rfl))) (by rw [decide_eq_true rfl]; rfl)) fun _ =>
      Ev.bl (ev_neS (ev_repr hk2 (read_ok (.call (.cons (Ev.var rfl) .nil) fr rfl))) (ev_repr hk2 (ev_mkT (.cons .k (.cons (ev_mkT (.cons (Ev.var rfl) (.cons (Ev.var rfl) .nil)) (by simp)) .nil)) (by simp)))) (by rw [decide_eq_true rfl]; rfl)
  obtain ⟨ρ', n1, ds2, a, b, c, G2, ha, hb, hc', eρ⟩ := for_nx (ρ := e0 ds none none none) (bind := bName 5) (body := brBody ca) (fun k : Nat => PyData.int (k : Nat)) (fun done ρ => ∃ ds2 a b c, Gen (m + 18 * done.length) ds2 ∧ isPub a ∧ isPub b ∧ isPub c ∧ ρ = e0 ds2 a b c) (List.range 8) (rngS (fs := fCons (fC (.int 8)) fNil) (ρ1 := e0 ds none none none) (n := 8) rfl (by decide)) ⟨ds, none, none, none, G, pub_none, pub_none, pub_none, rfl⟩ fun done k rest e ρ ⟨ds1, a, b, c, G1, ha, hb, hc, eρ⟩ => by
    subst eρ
    obtain ⟨_, hd⟩ := in_range e
    obtain ⟨ds2, y, t, G2, nx⟩ := br_ok ca d.g (x4 := some (.pu (.str kp))) (x5 := some (.pu (.int (k : Nat)))) (x6 := b) (x7 := c) G1 (by omega)
    exact ⟨_, _, rfl, nx, ds2, some (.pu (.int (k : Nat))), some (.pu y), some (.pu t), by rw [List.length_append, List.length_singleton]; exact G2.up (by omega), pub_pu _, pub_pu _, pub_pu _, rfl⟩
  subst eρ
  have e1 : Ev (fAnd (fMark (fVar 3)) (fOp2 gEq (bndA (fCons (bndA (fCons (fVar 1) (fCons (fVar 2) (fNil))) gMkL) (fNil)) gRepr) (fVar 4))) (e0 ds2 a b c) (.bool true) :=
    Ev.and (x := true) (y := true) (mark_ok (Ev.var rfl) (d.gtok ge)) fun _ => Ev.bl (ev_eqS (ev_repr hkp (ev_mkL (.cons (Ev.var rfl) (.cons (Ev.var rfl) .nil)) (by simp)).ev) (Ev.var rfl)) (decide_eq_true rfl)
  obtain ⟨w, r1, r2⟩ := ret_s (Ev.s e1)
  refine ⟨ds2, frO_of (n := 8) (g := g_l_grid_right K ca) (w := w) (ρ' := e0 ds2 a b c) ?_ r2 (colE_own (t := 0) (colE_pub fun o ho => ?_)), by rw [List.length_range] at G2; exact G2⟩
  · show g_l_grid_right K ca [some (.own 1 ds), T0 tab, N0 rn cn, none, none, none, none, none] = _
    unfold g_l_grid_right
    rw [seq_nx s1, seq_nx (.if (x := false) c1 (fun z => nomatch z) fun _ => .nx), seq_nx n1]
    exact r1
  · simp only [List.mem_cons, List.not_mem_nil, or_false] at ho
    rcases ho with z | z | z | z | z | z | z <;> subst z
    · exact pub_pu _
    · exact pub_pu _
    · exact pub_pu _
    · exact pub_pu _
    · exact ha
    · exact hb
    · exact hc'
end K65
/-! B17: refusals. Printed by gB17b.py. -/
namespace K65
open PySem L2 PyProof.Rows DL TL
def wordsX : List D := [.str "table", .str "names", .str "text"]
def kinds (n : Str) : List Bool := exNames.map fun m => decide (n = m)
section
variable {P : Program} {K : PySem.W.Frag} {mg : Str → Option Value} {ca : Str → Addr}
theorem isX_ok (X : Exs P K mg ca) {n m : Str} {d : D} (hn : n ∈ exR) (hm : m ∈ exNames) : gIsX K (exR.map ca) (ca m) (excD (ca n) d) = some (.pu (.bool (decide (n = m)))) := by
  show (if ca n ∈ exR.map ca then (PySem.W.kitOne K (.ref (ca n)) (.ref (ca m))).map fun b => W.pu (.bool b) else none) = _
  rw [if_pos (List.mem_map.mpr ⟨n, hn, rfl⟩), X.kit n hn m hm]
  rfl
theorem caught_ok (X : Exs P K mg ca) {n wd : Str} {d : D} {j : Nat} (hn : n ∈ exR) (h1 : (kinds n).count true = 1) (h2 : (kinds n).findIdx? id = some j) (h3 : wordsX[j]? = some (.str wd)) : ∃ ρ', g_l_caughtT K ca [none, some (.pu (excD (ca n) d)), none, none] = .ret (.pu (.tuple [.str wd, d])) ρ' := by
  have k : ∀ {ρ : DL.Env} {m : Str}, ρ[1]? = some (some (.pu (excD (ca n) d))) → m ∈ exNames → Ev (fOp1 (gIsX K (exNames.map ca) (ca m)) (fVar 1)) ρ (.bool (decide (n = m))) := fun h hm => Ev.op1 (w := .pu (.bool _)) (.var h) (isX_ok X hn hm)
  let B (m : Str) : D := .bool (decide (n = m))
  have r : Rt (g_l_caughtT K ca) [none, some (.pu (excD (ca n) d)), none, none] (.tuple [.str wd, d]) := by
    refine Rt.guard (x := false) (Ev.op2 (w := .pu (.bool false)) (.var rfl) .k rfl) (fun z => nomatch z) fun _ => ?_
    refine Rt.seq (Nx.put (Ev.bndA (k := gMkL) (w := .frs ((kinds n).map .bool)) (.cons (k rfl (by decide)) (.cons (k rfl (by decide)) (.cons (k rfl (by decide)) .nil))) rfl)) ?_
    have c : Ev (fOp2 gEq (fOp1 gCntT (fVar 3)) (fC (.int 1))) [none, some (.pu (excD (ca n) d)), none, some (.pu (.list ((kinds n).map .bool)))] (.bool true) := by
      have z := ev_eqI (ρ := [none, some (.pu (excD (ca n) d)), none, some (.pu (.list ((kinds n).map .bool)))]) (fa := fOp1 gCntT (fVar 3)) (fb := fC (.int 1)) (i := ((kinds n).count true : Nat)) (j := 1) (Ev.op1 (w := .pu (.int ((kinds n).count true : Nat))) (.var rfl) rfl) .k
      rw [h1] at z
      exact z
    have e1 : gIdxT (.list ((kinds n).map .bool)) = some (.pu (.int (j : Nat))) := by
      show ((some (kinds n)).bind fun bs => (bs.findIdx? id).map fun j => W.pu (.int j)) = _
      rw [Option.bind_some, h2]
      rfl
    have e2 : gIx (.list wordsX) (.int (j : Nat)) = some (.pu (.str wd)) := by
      show (atI wordsX (j : Int)).map W.pu = _
      rw [DL.atI_nat h3]
      rfl
    have e3 : gVal (exNames.map ca) (excD (ca n) d) = some (.pu d) := by
      show (if ca n ∈ exNames.map ca then some (W.pu d) else none) = _
      rw [if_pos (List.mem_map.mpr ⟨n, hn, rfl⟩)]
    refine .ret (Ev.bndA (k := gMkT) (w := .pu (.tuple [.str wd, d])) (.cons (.if c (fun _ => Ev.op2 (w := .pu (.str wd)) (Ev.bndA (k := gMkL) (w := .frs wordsX) (.cons .k (.cons .k (.cons .k .nil))) rfl) (Ev.op1 (w := .pu (.int (j : Nat))) (.var rfl) e1) e2) fun z => nomatch z) (.cons (Ev.op1 (w := .pu d) (.var rfl) e3) .nil)) rfl) rfl
  obtain ⟨w, ρ', r1, r2, _⟩ := r
  cases w with
  | pu t => exact ⟨ρ', by rw [r1]; rw [show t = _ from r2]⟩
  | frs t => cases r2
theorem refOk_of (X : Exs P K mg ca) {n wd : Str} {d : D} {j : Nat} (hn : n ∈ exR) (h1 : (kinds n).count true = 1) (h2 : (kinds n).findIdx? id = some j) (h3 : wordsX[j]? = some (.str wd)) (h : Rpr d) : RefOk K ca n wd d := by
  refine ⟨hn, caught_ok X hn h1 h2 h3, ?_⟩
  obtain ⟨z, hz⟩ := h
  have r : Rt g_l_refusesT [none, some (.pu (.str wd)), some (.pu d), some (.pu (.tuple [.str wd, d]))] (.bool true) := by
    refine .ret (.and (x := true) (y := true) ?_ fun _ => Ev.bl (ev_eqS (ev_repr hz (Ev.op2 (w := .pu d) (.var rfl) .k rfl)) (ev_repr hz (.var rfl))) (decide_eq_true rfl)) rfl
    exact Ev.bl (ev_eqS (Ev.op2 (w := .pu (.str wd)) (.var rfl) .k rfl) (.var rfl)) (decide_eq_true rfl)
  obtain ⟨w, ρ', r1, r2, _⟩ := r
  cases w with
  | pu t => exact ⟨ρ', by rw [r1]; rw [show t = _ from r2]⟩
  | frs t => cases r2
theorem ref_table (X : Exs P K mg ca) {d : D} (h : Rpr d) : RefOk K ca "InvalidTable" "table" d := refOk_of X (j := 0) (by decide) (by decide +kernel) (by decide +kernel) rfl h
theorem ref_names (X : Exs P K mg ca) {d : D} (h : Rpr d) : RefOk K ca "InvalidNames" "names" d := refOk_of X (j := 1) (by decide) (by decide +kernel) (by decide +kernel) rfl h
theorem ref_text (X : Exs P K mg ca) {d : D} (h : Rpr d) : RefOk K ca "InvalidText" "text" d := refOk_of X (j := 2) (by decide) (by decide +kernel) (by decide +kernel) rfl h
theorem ref_loop {n wd : Str} {fb : DL.Env → RE} {tl : DL.Env} : ∀ (items : List D) (x0 : Option Sl), isPub x0 → (∀ d ∈ items, fb (pubE (some (.pu d) :: tl)) = .err (ca n) d ∧ RefOk K ca n wd d) →
    ∃ x, isPub x ∧ forGo (bName 0) (sIf (fNot (fRefd K ca n wd fb 0)) (sRet (fC (.bool false))) (.nx)) items (x0 :: tl) = .nx (x :: tl)
  | [], x0, h0, _ => ⟨x0, h0, rfl⟩
  | d :: r, x0, h0, h => by
    obtain ⟨x, hx, q⟩ := ref_loop r (some (.pu d)) (pub_pu d) fun y hy => h y (List.mem_cons_of_mem _ hy)
    obtain ⟨a, b⟩ := h d List.mem_cons_self
    have e : Ev (fRefd K ca n wd fb 0) (some (.pu d) :: tl) (.bool true) := by
      unfold Ev fRefd
      rw [show (some (Sl.pu d) :: tl)[0]? = some (some (.pub 0 d)) from rfl]
      dsimp only
      rw [if_pos ⟨a, b⟩]
      exact ⟨_, rfl, rfl⟩
    exact ⟨x, hx, for_cons (ρ1 := some (.pu d) :: tl) rfl (Nx.if (x := !true) (.not e) (fun z => nomatch z) fun _ => .nx) q⟩
theorem ref_for {n wd : Str} {fb : DL.Env → RE} {tl : DL.Env} {src : DL.Env → RI} {items : List D} {x0 : Option Sl} (hs : src (x0 :: tl) = .ok items (x0 :: tl)) (h0 : isPub x0) (h : ∀ d ∈ items, fb (pubE (some (.pu d) :: tl)) = .err (ca n) d ∧ RefOk K ca n wd d) :
    ∃ x, isPub x ∧ Nx (sFor src (bName 0) (sIf (fNot (fRefd K ca n wd fb 0)) (sRet (fC (.bool false))) (.nx))) (x0 :: tl) (x :: tl) := by
  obtain ⟨x, hx, q⟩ := ref_loop items x0 h0 h
  exact ⟨x, hx, sFor_ok hs q⟩
theorem rpr_all {l : List D} (h : (l.all fun d => (gRepr [d]).isSome) = true) : ∀ d ∈ l, Rpr d := fun d hd => Rpr.of (List.all_eq_true.mp h d hd)
theorem all_eq {α β : Type} {f g : α → β} {l : List α} (h : l.map f = l.map g) : ∀ d ∈ l, f d = g d := List.map_inj_left.mp h
def WT : List D := [.none, .int 7, .tuple [], .list [], .list [.list []], .list [.list [.int 1], .list []], .list [.list [.int 1], .list [.int 1, .int 2]], .tuple [.list [.int 1]], .list [.tuple [.int 1]], .list [.list [.int 1], .none], .list [.list [.none]], .list [.list [.bool true]], .list [.list [.str "1"]], .list [.list [.tuple [.int 1, .int 1]]], .list [.list [.int 1, .int 1, .int 1, .int 1, .int 1, .int 1, .int 1, .int 1, .int 1, .int 1, .int 1, .int 1, .int 1, .int 1, .int 1, .int 1, .int 1, .int 1, .int 1, .int 1, .int 1, .int 1, .int 1, .int 1, .int 1, .int 1, .int 1, .int 1, .int 1, .int 1, .int 1, .int 1, .int 1, .int 1, .int 1, .int 1, .int 1, .int 1, .int 1, .int 1, .int 1, .int 1, .int 1, .int 1, .int 1, .int 1, .int 1, .int 1, .int 1, .int 1, .int 1, .int 1, .int 1, .int 1, .int 1, .int 1, .int 1, .int 1, .int 1, .int 1, .int 1]], .list [.list [.int 1], .list [.int 1], .list [.int 1], .list [.int 1], .list [.int 1], .list [.int 1], .list [.int 1], .list [.int 1], .list [.int 1], .list [.int 1], .list [.int 1], .list [.int 1], .list [.int 1], .list [.int 1], .list [.int 1], .list [.int 1], .list [.int 1], .list [.int 1], .list [.int 1], .list [.int 1], .list [.int 1], .list [.int 1], .list [.int 1], .list [.int 1], .list [.int 1], .list [.int 1], .list [.int 1], .list [.int 1], .list [.int 1], .list [.int 1], .list [.int 1], .list [.int 1], .list [.int 1], .list [.int 1], .list [.int 1], .list [.int 1], .list [.int 1], .list [.int 1], .list [.int 1], .list [.int 1], .list [.int 1], .list [.int 1], .list [.int 1], .list [.int 1], .list [.int 1], .list [.int 1], .list [.int 1], .list [.int 1], .list [.int 1], .list [.int 1], .list [.int 1], .list [.int 1], .list [.int 1], .list [.int 1], .list [.int 1], .list [.int 1], .list [.int 1], .list [.int 1], .list [.int 1], .list [.int 1], .list [.int 1]], .dict []]
def WN : List D := [.none, .int 7, .list [], .tuple [], .tuple [.list [.str "a", .str "b"]], .list [.list [.str "a", .str "b"], .list [.str "c", .str "d"]], .tuple [.list [.str "a", .str "b"], .list [.str "c", .str "d"], .list []], .tuple [.list [.str "a"], .list [.str "c", .str "d"]], .tuple [.list [.str "a", .str "b"], .list [.str "c"]], .tuple [.list [.str "a", .str "a"], .list [.str "c", .str "d"]], .tuple [.list [.str "a", .str "b"], .list [.str "c", .str "all"]], .tuple [.list [.str "A", .str "b"], .list [.str "c", .str "d"]], .tuple [.list [.str "", .str "b"], .list [.str "c", .str "d"]], .tuple [.list [.str "a b", .str "b"], .list [.str "c", .str "d"]], .tuple [.list [.str "a", .none], .list [.str "c", .str "d"]], .tuple [.list [.str "a", .str "b"], .tuple [.str "c", .str "d"]], .tuple [.list [.str "aaaaaaaaaaaaa", .str "b"], .list [.str "c", .str "d"]], .tuple [.list [.str "a1", .str "b"], .list [.str "c", .str "d"]]]
def W3 : List D := [.str "", .str "\n", .str "    | x  y | all\n  a | 1  2 |   3\n  b | 3  4 |   7\nall | 4  6 |  10\n", .str "    | x  y | all\n  a | 1  2 |   3\n  b | 3  4 |   7\nall | 4  6 |  10", .str "    | x  y | all\n  a | 1  2 |   3\n  b | 3  4 |   7\nall | 4  6 |  10\n\n", .str "    | x  y | all\n  a | 1  2 |   4\n  b | 3  4 |   7\nall | 4  6 |  10\n", .str "    | x y | all\n  a | 1  2 |   3\n  b | 3  4 |   7\nall | 4  6 |  10\n", .str "   |x  y|all\n  a|1  2|  3\n  b|3  4|  7\nall|4  6| 10\n", .str "    | x  y | all\n  a | 1  2 |   3\n  b | 3  4 |   7\nsum | 4  6 |  10\n"]
def WX : List D := [.str "", .str "\n", .str "    | x  y | all\n  a | 1  2 |   3\n  b | 3  4 |   7\nall | 4  6 |  10\n", .str "    | x  y | all\n  a | 1  2 |   3\n  b | 3  4 |   7\nall | 4  6 |  10", .str "    | x  y | all\n  a | 1  2 |   3\n  b | 3  4 |   7\nall | 4  6 |  10\n\n", .str "    | x  y | all\n  a | 1  2 |   4\n  b | 3  4 |   7\nall | 4  6 |  10\n", .str "    | x y | all\n  a | 1  2 |   3\n  b | 3  4 |   7\nall | 4  6 |  10\n", .str "   |x  y|all\n  a|1  2|  3\n  b|3  4|  7\nall|4  6| 10\n", .str "    | x  y | all\n  a | 1  2 |   3\n  b | 3  4 |   7\nsum | 4  6 |  10\n", .none, .int 7, .bool true, .list [], .dict [], .tuple [.str "    | x  y | all\n  a | 1  2 |   3\n  b | 3  4 |   7\nall | 4  6 |  10\n"]]
def WR : List D := [.str "    | x y | all\n  a | 1 2 |   4\n  b | 3 4 |   7\nall | 4 6 |  10\n", .str "    | x y | all\n  a | 1 2 |   3\n  b | 3 4 |   7\nall | 4 7 |  10\n", .str "    | x y | all\n  a | 1 2 |   3\n  b | 3 4 |   7\nall | 4 6 |  11\n", .str "    | x y | all\n  a | 1 2 |   3\n  b | 3 4 |   7\nall | 4 6 |  10", .str "    | x x | all\n  a | 1 2 |   3\n  b | 3 4 |   7\nall | 4 6 |  10\n", .str "    | x y | all\n  a | 1 2 |   3\n  a | 3 4 |   7\nall | 4 6 |  10\n", .str "    | X y | all\n  a | 1 2 |   3\n  b | 3 4 |   7\nall | 4 6 |  10\n", .str "    | x y | sum\n  a | 1 2 |   3\n  b | 3 4 |   7\nall | 4 6 |  10\n", .str "     | x y | all\n  a | 1 2 |   3\n  b | 3 4 |   7\nall | 4 6 |  10\n", .str "    | x y | all\n  a | 1 +2 |   3\n  b | 3 4 |   7\nall | 4 6 |  10\n", .str "    | x y | all\n  a | 01 2 |   3\n  b | 3 4 |   7\nall | 4 6 |  10\n"]

theorem wt_rpr : ∀ d ∈ WT, Rpr d := rpr_all (by decide +kernel)
theorem wn_rpr : ∀ d ∈ WN, Rpr d := rpr_all (by decide +kernel)
theorem wx_rpr : ∀ d ∈ WX, Rpr d := rpr_all (by decide +kernel)
theorem wr_rpr : ∀ d ∈ WR, Rpr d := rpr_all (by decide +kernel)
abbrev goodT : D := .list [.list [.int 1, .int 2], .list [.int 3, .int 4]]
theorem wt_err (ca : Str → Addr) : (WT.map fun d => F_text_of_grid ca [.pu d, .pu .none]) = WT.map fun d => RF.err (ca "InvalidTable") d := by kernel_rfl
theorem wn_err (ca : Str → Addr) : (WN.map fun d => F_text_of_grid ca [.pu goodT, .pu d]) = WN.map fun d => RF.err (ca "InvalidNames") d := by kernel_rfl
theorem wx_err (ca : Str → Addr) : (WX.map fun d => F_grid_of_text ca [.pu d]) = WX.map fun d => RF.err (ca "InvalidText") d := by kernel_rfl
theorem wr_err (ca : Str → Addr) : (WR.map fun d => F_grid_of_text ca [.pu d]) = WR.map fun d => RF.err (ca "InvalidText") d := by kernel_rfl
abbrev tG : Option Sl := some (.pu goodT)
abbrev t2 : Option Sl := some (.pu (.str "    | x  y | all\n  a | 1  2 |   3\n  b | 3  4 |   7\nall | 4  6 |  10\n"))
abbrev t3 : Option Sl := some (.pu (.list W3))
abbrev t4 : Option Sl := some (.pu (.str "    | x y | all\n  a | 1 2 |   3\n  b | 3 4 |   7\nall | 4 6 |  10\n"))
theorem src0 (x : Option Sl) : srcE (bndA (fCons (fC .none) (fCons (fC (.int 7)) (fCons (bndA (fNil) gMkT) (fCons (bndA (fNil) gMkL) (fCons (bndA (fCons (bndA (fNil) gMkL) (fNil)) gMkL) (fCons (bndA (fCons (bndA (fCons (fC (.int 1)) (fNil)) gMkL) (fCons (bndA (fNil) gMkL) (fNil))) gMkL) (fCons (bndA (fCons (bndA (fCons (fC (.int 1)) (fNil)) gMkL) (fCons (bndA (fCons (fC (.int 1)) (fCons (fC (.int 2)) (fNil))) gMkL) (fNil))) gMkL) (fCons (bndA (fCons (bndA (fCons (fC (.int 1)) (fNil)) gMkL) (fNil)) gMkT) (fCons (bndA (fCons (bndA (fCons (fC (.int 1)) (fNil)) gMkT) (fNil)) gMkL) (fCons (bndA (fCons (bndA (fCons (fC (.int 1)) (fNil)) gMkL) (fCons (fC .none) (fNil))) gMkL) (fCons (bndA (fCons (bndA (fCons (fC .none) (fNil)) gMkL) (fNil)) gMkL) (fCons (bndA (fCons (bndA (fCons (fC (.bool true)) (fNil)) gMkL) (fNil)) gMkL) (fCons (bndA (fCons (bndA (fCons (fC (.str "1")) (fNil)) gMkL) (fNil)) gMkL) (fCons (bndA (fCons (bndA (fCons (bndA (fCons (fC (.int 1)) (fCons (fC (.int 1)) (fNil))) gMkT) (fNil)) gMkL) (fNil)) gMkL) (fCons (bndA (fCons (fOp2 gMul (bndA (fCons (fC (.int 1)) (fNil)) gMkL) (fC (.int 61))) (fNil)) gMkL) (fCons (fOp2 gMul (bndA (fCons (bndA (fCons (fC (.int 1)) (fNil)) gMkL) (fNil)) gMkL) (fC (.int 61))) (fCons (fDict0) (fNil)))))))))))))))))) gMkL) itemsL [x, none, none, none, none] = .ok WT [x, none, none, none, none] := by kernel_rfl
theorem put1 (x : Option Sl) : (sPut 1 (bndA (fCons (bndA (fCons (fC (.int 1)) (fCons (fC (.int 2)) (fNil))) gMkL) (fCons (bndA (fCons (fC (.int 3)) (fCons (fC (.int 4)) (fNil))) gMkL) (fNil))) gMkL)) [x, none, none, none, none] = .nx [x, tG, none, none, none] := by kernel_rfl
theorem src2 (x : Option Sl) : srcE (bndA (fCons (fC .none) (fCons (fC (.int 7)) (fCons (bndA (fNil) gMkL) (fCons (bndA (fNil) gMkT) (fCons (bndA (fCons (bndA (fCons (fC (.str "a")) (fCons (fC (.str "b")) (fNil))) gMkL) (fNil)) gMkT) (fCons (bndA (fCons (bndA (fCons (fC (.str "a")) (fCons (fC (.str "b")) (fNil))) gMkL) (fCons (bndA (fCons (fC (.str "c")) (fCons (fC (.str "d")) (fNil))) gMkL) (fNil))) gMkL) (fCons (bndA (fCons (bndA (fCons (fC (.str "a")) (fCons (fC (.str "b")) (fNil))) gMkL) (fCons (bndA (fCons (fC (.str "c")) (fCons (fC (.str "d")) (fNil))) gMkL) (fCons (bndA (fNil) gMkL) (fNil)))) gMkT) (fCons (bndA (fCons (bndA (fCons (fC (.str "a")) (fNil)) gMkL) (fCons (bndA (fCons (fC (.str "c")) (fCons (fC (.str "d")) (fNil))) gMkL) (fNil))) gMkT) (fCons (bndA (fCons (bndA (fCons (fC (.str "a")) (fCons (fC (.str "b")) (fNil))) gMkL) (fCons (bndA (fCons (fC (.str "c")) (fNil)) gMkL) (fNil))) gMkT) (fCons (bndA (fCons (bndA (fCons (fC (.str "a")) (fCons (fC (.str "a")) (fNil))) gMkL) (fCons (bndA (fCons (fC (.str "c")) (fCons (fC (.str "d")) (fNil))) gMkL) (fNil))) gMkT) (fCons (bndA (fCons (bndA (fCons (fC (.str "a")) (fCons (fC (.str "b")) (fNil))) gMkL) (fCons (bndA (fCons (fC (.str "c")) (fCons (fC (.str "all")) (fNil))) gMkL) (fNil))) gMkT) (fCons (bndA (fCons (bndA (fCons (fC (.str "A")) (fCons (fC (.str "b")) (fNil))) gMkL) (fCons (bndA (fCons (fC (.str "c")) (fCons (fC (.str "d")) (fNil))) gMkL) (fNil))) gMkT) (fCons (bndA (fCons (bndA (fCons (fC (.str "")) (fCons (fC (.str "b")) (fNil))) gMkL) (fCons (bndA (fCons (fC (.str "c")) (fCons (fC (.str "d")) (fNil))) gMkL) (fNil))) gMkT) (fCons (bndA (fCons (bndA (fCons (fC (.str "a b")) (fCons (fC (.str "b")) (fNil))) gMkL) (fCons (bndA (fCons (fC (.str "c")) (fCons (fC (.str "d")) (fNil))) gMkL) (fNil))) gMkT) (fCons (bndA (fCons (bndA (fCons (fC (.str "a")) (fCons (fC .none) (fNil))) gMkL) (fCons (bndA (fCons (fC (.str "c")) (fCons (fC (.str "d")) (fNil))) gMkL) (fNil))) gMkT) (fCons (bndA (fCons (bndA (fCons (fC (.str "a")) (fCons (fC (.str "b")) (fNil))) gMkL) (fCons (bndA (fCons (fC (.str "c")) (fCons (fC (.str "d")) (fNil))) gMkT) (fNil))) gMkT) (fCons (bndA (fCons (bndA (fCons (fOp2 gMulS (fC (.str "a")) (fC (.int 13))) (fCons (fC (.str "b")) (fNil))) gMkL) (fCons (bndA (fCons (fC (.str "c")) (fCons (fC (.str "d")) (fNil))) gMkL) (fNil))) gMkT) (fCons (bndA (fCons (bndA (fCons (fC (.str "a1")) (fCons (fC (.str "b")) (fNil))) gMkL) (fCons (bndA (fCons (fC (.str "c")) (fCons (fC (.str "d")) (fNil))) gMkL) (fNil))) gMkT) (fNil))))))))))))))))))) gMkL) itemsL [x, tG, none, none, none] = .ok WN [x, tG, none, none, none] := by kernel_rfl
theorem put3 (x : Option Sl) : (sPut 2 (fC (.str "    | x  y | all\n  a | 1  2 |   3\n  b | 3  4 |   7\nall | 4  6 |  10\n"))) [x, tG, none, none, none] = .nx [x, tG, t2, none, none] := by kernel_rfl
theorem put4 (x : Option Sl) : (sPut 3 (bndA (fCons (fC (.str "")) (fCons (fC (.str "\n")) (fCons (fVar 2) (fCons (fOp2 gCutSH (fVar 2) (fOp1 gNeg (fC (.int 1)))) (fCons (fOp2 gAdd (fVar 2) (fC (.str "\n"))) (fCons (fOp1 (gRepl "  3\n" "  4\n") (fVar 2)) (fCons (fOp1 (gRepl "  y" " y") (fVar 2)) (fCons (fOp1 (gRepl " | " "|") (fVar 2)) (fCons (fOp1 (gRepl "all |" "sum |") (fVar 2)) (fNil)))))))))) gMkL)) [x, tG, t2, none, none] = .nx [x, tG, t2, t3, none] := by kernel_rfl
theorem src5 (x : Option Sl) : srcE (fOp2 gAdd (fVar 3) (bndA (fCons (fC .none) (fCons (fC (.int 7)) (fCons (fC (.bool true)) (fCons (bndA (fNil) gMkL) (fCons (fDict0) (fCons (bndA (fCons (fVar 2) (fNil)) gMkT) (fNil))))))) gMkL)) itemsL [x, tG, t2, t3, none] = .ok WX [x, tG, t2, t3, none] := by kernel_rfl
theorem put6 (x : Option Sl) : (sPut 4 (fC (.str "    | x y | all\n  a | 1 2 |   3\n  b | 3 4 |   7\nall | 4 6 |  10\n"))) [x, tG, t2, t3, none] = .nx [x, tG, t2, t3, t4] := by kernel_rfl
theorem src7 (x : Option Sl) : srcE (bndA (fCons (fOp1 (gRepl "  3\n" "  4\n") (fVar 4)) (fCons (fOp1 (gRepl "| 4 6 |" "| 4 7 |") (fVar 4)) (fCons (fOp1 (gRepl " 10\n" " 11\n") (fVar 4)) (fCons (fOp2 gCutSH (fVar 4) (fOp1 gNeg (fC (.int 1)))) (fCons (fOp1 (gRepl "x y" "x x") (fVar 4)) (fCons (fOp1 (gRepl "  b" "  a") (fVar 4)) (fCons (fOp1 (gRepl "x" "X") (fVar 4)) (fCons (fOp1 (gRepl "all\n" "sum\n") (fVar 4)) (fCons (fOp2 gAdd (fC (.str " ")) (fVar 4)) (fCons (fOp1 (gRepl "1 2" "1 +2") (fVar 4)) (fCons (fOp1 (gRepl "1 2" "01 2") (fVar 4)) (fNil)))))))))))) gMkL) itemsL [x, tG, t2, t3, t4] = .ok WR [x, tG, t2, t3, t4] := by kernel_rfl
theorem ret8 (ca : Str → Addr) (x : Option Sl) : (sRet (fOp2 gEq (fCall 1 (F_grid_of_text ca) (fCons (fVar 4) (fNil))) (bndA (fCons (fVar 1) (fCons (bndA (fCons (bndA (fCons (fC (.str "a")) (fCons (fC (.str "b")) (fNil))) gMkL) (fCons (bndA (fCons (fC (.str "x")) (fCons (fC (.str "y")) (fNil))) gMkL) (fNil))) gMkT) (fNil))) gMkT))) [x, tG, t2, t3, t4] = .ret (.pu (.bool true)) [x, tG, t2, t3, t4] := by kernel_rfl
theorem refused_ok (X : Exs P K mg ca) : Fr (F_l_refused_right K ca) [] (.bool true) := by
  refine fr_of (n := 5) (g := g_l_refused_right K ca) (ds := []) ?_
  show Rt (g_l_refused_right K ca) [none, none, none, none, none] _
  obtain ⟨a, ha, n0⟩ := ref_for (K := K) (ca := ca) (n := "InvalidTable") (wd := "table") (fb := fCall 2 (F_text_of_grid ca) (fCons (fVar 0) (fCons (fC .none) (fNil)))) (src0 none) pub_none fun d hd => ⟨callE (n := 2) (.cons (Ev.var rfl) (.cons .k .nil)) (all_eq (wt_err ca) d hd) rfl, ref_table X (wt_rpr d hd)⟩
  obtain ⟨b, hb, n2⟩ := ref_for (K := K) (ca := ca) (n := "InvalidNames") (wd := "names") (fb := fCall 2 (F_text_of_grid ca) (fCons (fVar 1) (fCons (fVar 0) (fNil)))) (src2 a) ha fun d hd => ⟨callE (n := 2) (.cons (Ev.var rfl) (.cons (Ev.var rfl) .nil)) (all_eq (wn_err ca) d hd) rfl, ref_names X (wn_rpr d hd)⟩
  obtain ⟨c, hc, n5⟩ := ref_for (K := K) (ca := ca) (n := "InvalidText") (wd := "text") (fb := fCall 1 (F_grid_of_text ca) (fCons (fVar 0) (fNil))) (src5 b) hb fun d hd => ⟨callE (n := 1) (.cons (Ev.var rfl) .nil) (all_eq (wx_err ca) d hd) rfl, ref_text X (wx_rpr d hd)⟩
  obtain ⟨e, he, n7⟩ := ref_for (K := K) (ca := ca) (n := "InvalidText") (wd := "text") (fb := fCall 1 (F_grid_of_text ca) (fCons (fVar 0) (fNil))) (src7 c) hc fun d hd => ⟨callE (n := 1) (.cons (Ev.var rfl) .nil) (all_eq (wr_err ca) d hd) rfl, ref_text X (wr_rpr d hd)⟩
  refine Rt.seq n0 (Rt.seq (put1 a) (Rt.seq n2 (Rt.seq (put3 b) (Rt.seq (put4 b) (Rt.seq n5 (Rt.seq (put6 c) (Rt.seq n7 ?_)))))))
  refine ⟨_, _, ret8 ca e, rfl, colE_pub fun o ho => ?_⟩
  simp only [List.mem_cons, List.not_mem_nil, or_false] at ho
  rcases ho with z | z | z | z | z <;> subst z
  · exact he
  · exact pub_pu _
  · exact pub_pu _
  · exact pub_pu _
  · exact pub_pu _
end
end K65
/-! B18: the law's parts. Printed by gB18.py. -/
namespace K65
open PySem L2 PyProof.Rows DL TL
def poolL : List Str := ["a", "b", "north", "south", "east", "west", "men", "women", "rest", "x", "y", "abcdefghijkl"]
theorem pool_name : ∀ w ∈ poolL, isNameS w = true := by decide +kernel
theorem pool_nd : poolL.Nodup := by decide +kernel
theorem pool_all : ∀ w ∈ poolL, w ≠ "all" ∧ w ≠ "marked" := by decide +kernel
theorem names_ok {out : List Str} (h : out.Perm poolL) {n : Nat} (hn : n ≤ 12) : areNamesS (out.take n) (n : Nat) = true ∧ ∀ w ∈ out.take n, w ≠ "marked" := by
  have hl : out.length = 12 := h.length_eq
  have m : ∀ w ∈ out.take n, w ∈ poolL := fun w hw => h.subset (List.mem_of_mem_take hw)
  have nd : (out.take n).Nodup := (h.nodup_iff.mpr pool_nd).sublist (List.take_sublist _ _)
  refine ⟨?_, fun w hw => (pool_all w (m w hw)).2⟩
  unfold areNamesS
  rw [List.length_take, hl, Nat.min_eq_left hn, decide_eq_true rfl, Bool.true_and]
  have a1 : ((out.take n).filter fun n => !isNameS n).isEmpty = true := isE.mpr fun w hw => by rw [pool_name w (m w hw)]; rfl
  have a2 : ((out.take n).filter fun x => decide ((1 : Int) < (((out.take n).countP fun z => z == x : Nat) : Int))).isEmpty = true := isE.mpr fun w hw => by
    have := List.nodup_iff_count.mp nd w
    unfold List.count at this
    exact decide_eq_false (by omega)
  have a3 : ((out.take n).any fun z => z == ("all" : Str)) = false := List.any_eq_false.mpr fun w hw => by
    rw [beq_iff_eq]
    exact (pool_all w (m w hw)).1
  rw [a1, a2, a3]
  rfl
theorem generator_ok (n : Nat) (hn : n ≤ 2) (z : Int) : ∃ ds ρ', g_l_generatorT [none, some (.pu (.int (n : Nat))), some (.pu (.int z))] = .ret (.frs ds) ρ' ∧ Gen 2000 ds ∧ (intsOf ds).isSome = true := by
  have p1 : cPow 10 18 = true := by decide +kernel
  have p2 : cPow 10 60 = true := by decide +kernel
  have p3 : cPow (10 ^ (60 : Int).toNat) 10 = true := by decide +kernel
  have b1 : (0 : Int) < (10 ^ (60 : Int).toNat) ^ (10 : Int).toNat := by decide +kernel
  have r : RtL g_l_generatorT [none, some (.pu (.int (n : Nat))), some (.pu (.int z))] [.int ((if (0 : Int) > z - 10 ^ (18 : Int).toNat then 0 else z - 10 ^ (18 : Int).toNat).fmod ((10 ^ (60 : Int).toNat) ^ (10 : Int).toNat)), .int (z.fmod 2147483647), .int (1000 * (n : Nat))] := by
    refine .ret (Evl.bndA (k := gMkL) (.cons (ev_mod (ev_int (ev_max (ev_subI (.var rfl) (ev_pow .k .k p1)) .k)) (ev_pow (ev_pow .k .k p2) .k p3) (by omega)) (.cons (ev_mod (ev_int (.var rfl)) .k (by decide)) (.cons (ev_mul .k (.var rfl) (.inl (by decide))) .nil))) rfl) rfl
  obtain ⟨ρ', h1, _⟩ := r
  have q1 := fmod_range (i := if (0 : Int) > z - 10 ^ (18 : Int).toNat then 0 else z - 10 ^ (18 : Int).toNat) b1
  have q2 := fmod_range (i := z) (j := 2147483647) (by decide)
  exact ⟨_, ρ', h1, ⟨_, _, _, rfl, q1.1, q2.1, q2.2, by omega, by omega⟩, rfl⟩
theorem own_gen {l : Addr} {ns : List Int} {n : Nat} (hn : n ≤ 2) {ρ : DL.Env} (h0 : ρ[0]? = some (some (.pu (fnD l)))) (h2 : ρ[2]? = some (some (.pu (.int (n : Nat))))) (hN : noN ρ = true) : ∃ ds, Gen 2000 ds ∧ Nx (sOwn 3 (fGen l ns (fVar 2))) ρ (ρ.set 3 (some (.own 0 ds))) := by
  obtain ⟨ds, ρ', h1, G, hi⟩ := generator_ok n hn (cellI n ns)
  refine ⟨ds, G, Nx.own ?_ hN⟩
  unfold Evl fGen
  rw [h0]
  dsimp only
  rw [if_pos rfl]
  have e : fVar 2 ρ = .ok (.pu (.int (n : Nat))) ρ := by
    unfold fVar
    rw [h2]
  rw [e]
  dsimp only
  show (match g_l_generatorT [none, some (.pu (.int (n : Nat))), some (.pu (.int (cellI n ns)))] with
    | .ret (.frs ds) _ => if (intsOf ds).isSome then RE.ok (.frs ds) ρ else .st
    | _ => .st) = _
  rw [h1]
  dsimp only
  rw [if_pos hi]
abbrev lE (F P x2 : Option Sl) (ds : List D) (x4 x5 x6 x7 x8 x9 x10 : Option Sl) : DL.Env := [F, P, x2, some (.own 0 ds), x4, x5, x6, x7, x8, x9, x10, none]
theorem rnd3 {F P x2 x4 x5 x6 x7 x8 x9 x10 : Option Sl} {ds : List D} {m : Nat} {b : Int} (G : Gen m ds) (hm : m + 6 < 2 ^ 50) (h1 : 1 ≤ b) (h2 : b ≤ 1000) : ∃ (r : Nat) (ds2 : List D), EvS (fLend 2 3 F_l_random (fCons (fC (.int b)) (fNil))) (lE F P x2 ds x4 x5 x6 x7 x8 x9 x10) (lE F P x2 ds2 x4 x5 x6 x7 x8 x9 x10) (.int (r : Nat)) ∧ (r : Int) < b ∧ Gen (m + 6) ds2 := by
  obtain ⟨r, ds2, f1, f2, f3⟩ := random_ok (b := b) G hm h1 (Nat.lt_of_le_of_lt (show b.natAbs ≤ 1000 by omega) (by decide))
  exact ⟨r, ds2, EvS.lend (i := 3) (t := 0) (ds := ds) (es := [.int b]) rfl (.cons .k .nil) rfl f1, f2, f3⟩
def farL : List Int := [1, 7, 1000000000]
/-- one cell -/
theorem cell_ok {F P x2 x4 x5 x7 x8 x9 x10 : Option Sl} {ds : List D} {m : Nat} {far : Int} (hf : 1 ≤ far ∧ far ≤ 1000000000) (G : Gen m ds) (hm : m + 100 < 2 ^ 50) :
    ∃ (i : Int) (ds2 : List D), EvS (fOp2 gAdd (fOp2 gMul (fVar 6) (fOp2 gSub (fLend 2 3 F_l_random (fCons (fC (.int 9)) (fNil))) (fC (.int 4)))) (fLend 2 3 F_l_random (fCons (fC (.int 3)) (fNil)))) (lE F P x2 ds x4 x5 (some (.pu (.int far))) x7 x8 x9 x10) (lE F P x2 ds2 x4 x5 (some (.pu (.int far))) x7 x8 x9 x10) (.int i) ∧ i.natAbs < 10 ^ 11 ∧ Gen (m + 12) ds2 := by
  obtain ⟨r, ds1, f1, f2, f3⟩ := rnd3 (F := F) (P := P) (x2 := x2) (x4 := x4) (x5 := x5) (x6 := some (.pu (.int far))) (x7 := x7) (x8 := x8) (x9 := x9) (x10 := x10) (b := 9) G (by omega) (by decide) (by decide)
  obtain ⟨q, ds2, g1, g2, g3⟩ := rnd3 (F := F) (P := P) (x2 := x2) (x4 := x4) (x5 := x5) (x6 := some (.pu (.int far))) (x7 := x7) (x8 := x8) (x9 := x9) (x10 := x10) (b := 3) f3 (by omega) (by decide) (by decide)
  have e1 := EvS.op2 (g := gSub) (w := .pu (.int ((r : Int) - 4))) f1 (Ev.s (Ev.k (d := .int 4))) rfl
  have mo : gMul (.int far) (.int ((r : Int) - 4)) = some (.pu (.int (far * ((r : Int) - 4)))) := by
    show (if cMul far ((r : Int) - 4) then some (W.pu (.int (far * ((r : Int) - 4)))) else none) = _
    have : cMul far ((r : Int) - 4) = true := by
      unfold cMul
      rw [decide_eq_true (show far.natAbs < 2 ^ 64 by omega)]
      rfl
    rw [this]
    rfl
  have e2 := EvS.op2 (g := gMul) (Ev.s (Ev.var (ρ := lE F P x2 ds x4 x5 (some (.pu (.int far))) x7 x8 x9 x10) (i := 6) rfl)) e1 mo
  have e3 := EvS.op2 (g := gAdd) (w := .pu (.int (far * ((r : Int) - 4) + (q : Int)))) e2 g1 rfl
  refine ⟨_, ds2, e3, ?_, g3⟩
  have h1 : (far * ((r : Int) - 4)).natAbs ≤ 1000000000 * 5 := by
    rw [Int.natAbs_mul]
    exact Nat.mul_le_mul (by omega) (by omega)
  omega
/-- the rule for lists of draws, the wiping first -/
theorem dataI {p : Int → Prop} : ∀ {ds : List D}, (∀ d ∈ ds, ∃ z, d = .int z ∧ p z) → ∃ ns : List Int, ds = ns.map .int ∧ ∀ z ∈ ns, p z
  | [], _ => ⟨[], rfl, fun z hz => absurd hz (by simp)⟩
  | d :: r, h => by
    obtain ⟨z, rfl, hz⟩ := h d List.mem_cons_self
    obtain ⟨ns, e, hn⟩ := dataI (ds := r) fun y hy => h y (List.mem_cons_of_mem _ hy)
    refine ⟨z :: ns, by rw [e]; rfl, fun y hy => ?_⟩
    rcases List.mem_cons.mp hy with w | w
    · rw [w]; exact hz
    · exact hn y w
theorem dataR {p : List Int → Prop} : ∀ {ds : List D}, (∀ d ∈ ds, ∃ r : List Int, d = .list (r.map .int) ∧ p r) → ∃ tab : List (List Int), ds = tab.map (fun r => .list (r.map .int)) ∧ ∀ r ∈ tab, p r
  | [], _ => ⟨[], rfl, fun z hz => absurd hz (by simp)⟩
  | d :: r, h => by
    obtain ⟨z, rfl, hz⟩ := h d List.mem_cons_self
    obtain ⟨ns, e, hn⟩ := dataR (ds := r) fun y hy => h y (List.mem_cons_of_mem _ hy)
    refine ⟨z :: ns, by rw [e]; rfl, fun y hy => ?_⟩
    rcases List.mem_cons.mp hy with w | w
    · rw [w]; exact hz
    · exact hn y w
theorem table_ok {F P x2 x7 x10 : Option Sl} {ds : List D} {m rows cols : Nat} {far : Int} (hf : 1 ≤ far ∧ far ≤ 1000000000) (hr : rows ≤ 6) (hc : cols ≤ 6) (G : Gen m ds) (hm : m + 1000 < 2 ^ 50) :
    ∃ (tab : List (List Int)) (ds2 : List D), Nx (sPut 7 (fLc (srcA (fCons (fVar 4) (fNil)) kRng1) (bName 9) (fC (.bool true)) (fLc (srcA (fCons (fVar 5) (fNil)) kRng1) (bName 8) (fC (.bool true)) (fOp2 gAdd (fOp2 gMul (fVar 6) (fOp2 gSub (fLend 2 3 F_l_random (fCons (fC (.int 9)) (fNil))) (fC (.int 4)))) (fLend 2 3 F_l_random (fCons (fC (.int 3)) (fNil)))) [8]) [9])) (lE F P x2 ds (some (.pu (.int (rows : Nat)))) (some (.pu (.int (cols : Nat)))) (some (.pu (.int far))) x7 none none x10)
      (lE F P x2 ds2 (some (.pu (.int (rows : Nat)))) (some (.pu (.int (cols : Nat)))) (some (.pu (.int far))) (some (.pu (tabD tab))) none none x10) ∧ tab.length = rows ∧ (∀ r ∈ tab, r.length = cols ∧ ∀ i ∈ r, i.natAbs < 10 ^ 11) ∧ Gen (m + 432) ds2 := by
  let e9 : Option Sl → List D → DL.Env := fun x9 ds => lE F P x2 ds (some (.pu (.int (rows : Nat)))) (some (.pu (.int (cols : Nat)))) (some (.pu (.int far))) x7 none x9 x10
  obtain ⟨rs, ρ', h1, h2, h3, ds2, G2, eρ⟩ := evs_lc (bind := bName 9) (fe := fLc (srcA (fCons (fVar 5) (fNil)) kRng1) (bName 8) (fC (.bool true)) (fOp2 gAdd (fOp2 gMul (fVar 6) (fOp2 gSub (fLend 2 3 F_l_random (fCons (fC (.int 9)) (fNil))) (fC (.int 4)))) (fLend 2 3 F_l_random (fCons (fC (.int 3)) (fNil)))) [8]) (vs := [9]) (ρ := e9 none ds) (fun k : Nat => .int (k : Nat)) 72 (m + 432) (fun k ρ => ∃ ds, Gen k ds ∧ ρ = e9 none ds) (fun d => ∃ r : List Int, d = .list (r.map .int) ∧ (r.length = cols ∧ ∀ i ∈ r, i.natAbs < 10 ^ 11)) (List.range rows) m (rngS (ρ1 := e9 none ds) (fs := fCons (fVar 4) fNil) (n := rows) rfl (by omega)) rfl (by rw [List.length_range]; exact sz62 (by omega)) (by rw [List.length_range]; omega) ⟨ds, G, rfl⟩ fun k hk m' ρ ⟨ds1, G1, eρ⟩ hB => by
    subst eρ
    let x9 : Option Sl := some (.pu (.int (k : Nat)))
    obtain ⟨cs, ρ2, q1, q2, q3, ds3, G3, eρ2⟩ := evs_lc (src := srcA (fCons (fVar 5) (fNil)) kRng1) (bind := bName 8) (fe := fOp2 gAdd (fOp2 gMul (fVar 6) (fOp2 gSub (fLend 2 3 F_l_random (fCons (fC (.int 9)) (fNil))) (fC (.int 4)))) (fLend 2 3 F_l_random (fCons (fC (.int 3)) (fNil)))) (vs := [8]) (ρ := e9 x9 ds1) (fun k : Nat => .int (k : Nat)) 12 (m' + 72) (fun k ρ => ∃ ds, Gen k ds ∧ ρ = e9 x9 ds) (fun d => ∃ z, d = .int z ∧ z.natAbs < 10 ^ 11) (List.range cols) m' (rngS (ρ1 := e9 x9 ds1) (fs := fCons (fVar 5) fNil) (n := cols) rfl (by omega)) rfl (by rw [List.length_range]; exact sz62 (by omega)) (by rw [List.length_range]; omega) ⟨ds1, G1, rfl⟩ fun j hj m2 ρ ⟨ds4, G4, eρ⟩ hB2 => by
      subst eρ
      obtain ⟨i, ds5, z1, z2, z3⟩ := cell_ok (F := F) (P := P) (x2 := x2) (x4 := some (.pu (.int (rows : Nat)))) (x5 := some (.pu (.int (cols : Nat)))) (x7 := x7) (x8 := some (.pu (.int (j : Nat)))) (x9 := x9) (x10 := x10) hf G4 (by omega)
      exact ⟨_, _, .int i, rfl, z1, ⟨ds5, z3, rfl⟩, i, rfl, z2⟩
    subst eρ2
    obtain ⟨ns, en, hns⟩ := dataI q3
    refine ⟨e9 x9 ds1, e9 x9 ds3, .list cs, rfl, ⟨_, q1, rfl⟩, ⟨ds3, G3.up (by rw [List.length_range]; omega), rfl⟩, ns, by rw [en], ?_, hns⟩
    have := congrArg List.length en
    rw [List.length_map, q2, List.length_range] at this
    omega
  subst eρ
  obtain ⟨tab, et, ht⟩ := dataR h3
  refine ⟨tab, ds2, ?_, ?_, ht, G2.up (by rw [List.length_range]; omega)⟩
  · have z := Nx.putS (i := 7) h1
    rw [et] at z
    exact z
  · have := congrArg List.length et
    rw [List.length_map, h2, List.length_range] at this
    omega
noncomputable abbrev lawBody (K : PySem.W.Frag) (ca : Str → Addr) (l : Addr) (ns : List Int) : DL.Env → RS := sSeq (sOwn 3 (fGen l ns (fVar 2))) (sSeq (sBind (bTup [bName 4, bName 5, bName 6]) (bndA (fCons (fOp2 gAdd (fC (.int 1)) (fLend 2 3 F_l_random (fCons (fC (.int 6)) (fNil)))) (fCons (fOp2 gAdd (fC (.int 1)) (fLend 2 3 F_l_random (fCons (fC (.int 6)) (fNil)))) (fCons (fLend 2 3 F_l_pick (fCons (bndA (fCons (fC (.int 1)) (fCons (fC (.int 7)) (fCons (fOp2 gPow (fC (.int 10)) (fC (.int 9))) (fNil)))) gMkL) (fNil))) (fNil)))) gMkT)) (sSeq (sPut 7 (fLc (srcA (fCons (fVar 4) (fNil)) kRng1) (bName 9) (fC (.bool true)) (fLc (srcA (fCons (fVar 5) (fNil)) kRng1) (bName 8) (fC (.bool true)) (fOp2 gAdd (fOp2 gMul (fVar 6) (fOp2 gSub (fLend 2 3 F_l_random (fCons (fC (.int 9)) (fNil))) (fC (.int 4)))) (fLend 2 3 F_l_random (fCons (fC (.int 3)) (fNil)))) [8]) [9])) (sSeq (sPut 10 (bndA (fCons (fOp2 gCutH (fLend 2 3 F_l_drawn_order (fCons (fVar 1) (fNil))) (fVar 4)) (fCons (fOp2 gCutH (fLend 2 3 F_l_drawn_order (fCons (fVar 1) (fNil))) (fVar 5)) (fNil))) gMkT)) (sIf (fOr (fNot (fLend 3 3 (F_l_grid_right K ca) (fCons (fVar 7) (fCons (fVar 10) (fNil))))) (fAnd (fOp2 gEq (fVar 2) (fC (.int 1))) (fNot (fCall 0 (F_l_refused_right K ca) fNil)))) (sRet (fC (.bool false))) (.nx)))))
abbrev lawEnd (ca : Str → Addr) : DL.Env → RS := sSeq (sPut 11 (fC (.str "      | men women | all\nnorth |   1    20 |  21\nsouth |  -3     4 |   1\n  all |  -2    24 |  22\n"))) (sRet (fAnd (fOp2 gEq (fCallG 2 (pick .none [0, 1]) (F_text_of_grid ca) (fCons (bndA (fCons (bndA (fCons (fC (.int 1)) (fCons (fC (.int 20)) (fNil))) gMkL) (fCons (bndA (fCons (fOp1 gNeg (fC (.int 3))) (fCons (fC (.int 4)) (fNil))) gMkL) (fNil))) gMkL) (fCons (bndA (fCons (bndA (fCons (fC (.str "north")) (fCons (fC (.str "south")) (fNil))) gMkL) (fCons (bndA (fCons (fC (.str "men")) (fCons (fC (.str "women")) (fNil))) gMkL) (fNil))) gMkT) (fNil)))) (fVar 11)) (fOp2 gEq (fCallG 1 (pick .none [0]) (F_grid_of_text ca) (fCons (fVar 11) (fNil))) (bndA (fCons (bndA (fCons (bndA (fCons (fC (.int 1)) (fCons (fC (.int 20)) (fNil))) gMkL) (fCons (bndA (fCons (fOp1 gNeg (fC (.int 3))) (fCons (fC (.int 4)) (fNil))) gMkL) (fNil))) gMkL) (fCons (bndA (fCons (bndA (fCons (fC (.str "north")) (fCons (fC (.str "south")) (fNil))) gMkL) (fCons (bndA (fCons (fC (.str "men")) (fCons (fC (.str "women")) (fNil))) gMkL) (fNil))) gMkT) (fNil))) gMkT))))
theorem law_end_ok (ca : Str → Addr) (x0 x1 x2 x3 x4 x5 x6 x7 x8 x9 x10 x11 : Option Sl) : ∃ ρ', lawEnd ca [x0, x1, x2, x3, x4, x5, x6, x7, x8, x9, x10, x11] = .ret (.pu (.bool true)) ρ' := ⟨[x0, x1, x2, x3, x4, x5, x6, x7, x8, x9, x10, some (.pu (.str "      | men women | all\nnorth |   1    20 |  21\nsouth |  -3     4 |   1\n  all |  -2    24 |  22\n"))], by kernel_rfl⟩
end K65
/-! B19: the law. -/
namespace K65
open PySem L2 PyProof.Rows DL TL
theorem take_s (l : List Str) (n : Nat) : (sDs l).take n = sDs (l.take n) := by
  unfold sDs
  rw [List.map_take]
theorem pool_tx : ∀ w ∈ poolL, Tx w := fun w hw => tx_name (pool_name w hw)
abbrev pD : Option Sl := some (.pu (.list (sDs poolL)))
/-- names drawn -/
theorem cut_names {F x2 x4 x5 x6 x7 x8 x9 x10 : Option Sl} {ds : List D} {m n i : Nat} (G : Gen m ds) (hm : m + 1000 < 2 ^ 50) (hn : n ≤ 12) (hi : (lE F pD x2 ds x4 x5 x6 x7 x8 x9 x10)[i]? = some (some (.pu (.int (n : Nat))))) (hi2 : ∀ ds2, (lE F pD x2 ds2 x4 x5 x6 x7 x8 x9 x10)[i]? = some (some (.pu (.int (n : Nat))))) :
    ∃ (out : List Str) (ds2 : List D), out.Perm poolL ∧ Gen (m + 72) ds2 ∧ EvS (fOp2 gCutH (fLend 2 3 F_l_drawn_order (fCons (fVar 1) (fNil))) (fVar i)) (lE F pD x2 ds x4 x5 x6 x7 x8 x9 x10) (lE F pD x2 ds2 x4 x5 x6 x7 x8 x9 x10) (.list (sDs (out.take n))) := by
  obtain ⟨out, ds2, f1, f2, f3⟩ := order_ok G pool_tx (by decide) (by omega)
  have ol : out.length = 12 := f2.length_eq
  refine ⟨out, ds2, f2, f3, ?_⟩
  have e1 : EvS (fLend 2 3 F_l_drawn_order (fCons (fVar 1) (fNil))) (lE F pD x2 ds x4 x5 x6 x7 x8 x9 x10) (lE F pD x2 ds2 x4 x5 x6 x7 x8 x9 x10) (.list (sDs out)) := EvS.lend (i := 3) (t := 0) (ds := ds) (es := [.list (sDs poolL)]) rfl (.cons (Ev.var rfl) .nil) rfl f1
  have e2 := EvS.op2 (g := gCutH) (w := .frs ((sDs out).take n)) e1 (Ev.s (Ev.var (hi2 ds2))) (cutH_take (by rw [List.length_map]; omega))
  rw [take_s] at e2
  exact e2
theorem body_ok {P : Program} {K : PySem.W.Frag} {mg : Str → Option Value} {ca : Str → Addr} {l : Addr} {ns : List Int} (X : Exs P K mg ca) {n : Nat} (hn : n ≤ 2) {x3 x4 x5 x6 x7 x10 : Option Sl} (hN : noN [some (.pu (fnD l)), pD, some (.pu (.int (n : Nat))), x3, x4, x5, x6, x7, none, none, x10, none] = true) :
    ∃ ds d4 d5 d6 d7 d10, Nx (lawBody K ca l ns) [some (.pu (fnD l)), pD, some (.pu (.int (n : Nat))), x3, x4, x5, x6, x7, none, none, x10, none] (lE (some (.pu (fnD l))) pD (some (.pu (.int (n : Nat)))) ds (some (.pu d4)) (some (.pu d5)) (some (.pu d6)) (some (.pu d7)) none none (some (.pu d10))) := by
  obtain ⟨ds0, G0, n0⟩ := own_gen (l := l) (ns := ns) hn (ρ := [some (.pu (fnD l)), pD, some (.pu (.int (n : Nat))), x3, x4, x5, x6, x7, none, none, x10, none]) rfl rfl hN
  generalize hF : some (Sl.pu (fnD l)) = F at *
  generalize h2 : some (Sl.pu (PyData.int (n : Nat))) = x2 at *
  obtain ⟨r1, ds1, a1, a2, a3⟩ := rnd3 (F := F) (P := pD) (x2 := x2) (x4 := x4) (x5 := x5) (x6 := x6) (x7 := x7) (x8 := none) (x9 := none) (x10 := x10) (b := 6) G0 (by decide) (by decide) (by decide)
  obtain ⟨r2, ds2, b1, b2, b3⟩ := rnd3 (F := F) (P := pD) (x2 := x2) (x4 := x4) (x5 := x5) (x6 := x6) (x7 := x7) (x8 := none) (x9 := none) (x10 := x10) (b := 6) a3 (by decide) (by decide) (by decide)
  obtain ⟨far, ds3, c1, c2, c3⟩ := pick_ok (ns := farL) b3 (by decide) (by decide) (by decide)
  have hf : 1 ≤ far ∧ far ≤ 1000000000 := by
    simp only [farL, List.mem_cons, List.not_mem_nil, or_false] at c2
    omega
  have eA := EvS.op2 (g := gAdd) (w := .pu (.int ((r1 + 1 : Nat) : Int))) (Ev.s (Ev.k (d := .int 1))) a1 (by show some (W.pu (.int (1 + (r1 : Int)))) = _; rw [Int.add_comm]; rfl)
  have eB := EvS.op2 (g := gAdd) (w := .pu (.int ((r2 + 1 : Nat) : Int))) (Ev.s (Ev.k (d := .int 1))) b1 (by show some (W.pu (.int (1 + (r2 : Int)))) = _; rw [Int.add_comm]; rfl)
  have eL : EvL (fCons (bndA (fCons (fC (.int 1)) (fCons (fC (.int 7)) (fCons (fOp2 gPow (fC (.int 10)) (fC (.int 9))) (fNil)))) gMkL) (fNil)) (lE F pD x2 ds2 x4 x5 x6 x7 none none x10) [iL farL] :=
    .cons (Ev.to (ev_mkL (.cons .k (.cons .k (.cons (ev_pow (i := 10) (j := 9) .k .k (by decide +kernel)) .nil))) (by simp)).ev (by
      show PyData.list [.int 1, .int 7, .int (10 ^ (9 : Int).toNat)] = _
      rw [show (10 : Int) ^ (9 : Int).toNat = 1000000000 by decide +kernel]
      rfl)) .nil
  have eC : EvS (fLend 2 3 F_l_pick (fCons (bndA (fCons (fC (.int 1)) (fCons (fC (.int 7)) (fCons (fOp2 gPow (fC (.int 10)) (fC (.int 9))) (fNil)))) gMkL) (fNil))) (lE F pD x2 ds2 x4 x5 x6 x7 none none x10) (lE F pD x2 ds3 x4 x5 x6 x7 none none x10) (.int far) := EvS.lend (i := 3) (t := 0) (ds := ds2) (es := [iL farL]) rfl eL rfl c1
  have s2 : Nx (sBind (bTup [bName 4, bName 5, bName 6]) (bndA (fCons (fOp2 gAdd (fC (.int 1)) (fLend 2 3 F_l_random (fCons (fC (.int 6)) (fNil)))) (fCons (fOp2 gAdd (fC (.int 1)) (fLend 2 3 F_l_random (fCons (fC (.int 6)) (fNil)))) (fCons (fLend 2 3 F_l_pick (fCons (bndA (fCons (fC (.int 1)) (fCons (fC (.int 7)) (fCons (fOp2 gPow (fC (.int 10)) (fC (.int 9))) (fNil)))) gMkL) (fNil))) (fNil)))) gMkT)) (lE F pD x2 ds0 x4 x5 x6 x7 none none x10)
      (lE F pD x2 ds3 (some (.pu (.int ((r1 + 1 : Nat) : Int)))) (some (.pu (.int ((r2 + 1 : Nat) : Int)))) (some (.pu (.int far))) x7 none none x10) :=
    nx_bindS (EvS.bndA (w := .pu (.tuple [.int ((r1 + 1 : Nat) : Int), .int ((r2 + 1 : Nat) : Int), .int far])) (.cons eA (.cons eB (.cons eC .nil))) rfl) rfl
  obtain ⟨tab, ds4, s3, t1, t2, G4⟩ := table_ok (F := F) (P := pD) (x2 := x2) (x7 := x7) (x10 := x10) (rows := r1 + 1) (cols := r2 + 1) hf (by omega) (by omega) c3 (by decide)
  obtain ⟨o1, ds5, p1, G5, eN1⟩ := cut_names (F := F) (x2 := x2) (x4 := some (.pu (.int ((r1 + 1 : Nat) : Int)))) (x5 := some (.pu (.int ((r2 + 1 : Nat) : Int)))) (x6 := some (.pu (.int far))) (x7 := some (.pu (tabD tab))) (x8 := none) (x9 := none) (x10 := x10) (n := r1 + 1) (i := 4) G4 (by decide) (by omega) rfl fun _ => rfl
  obtain ⟨o2, ds6, p2, G6, eN2⟩ := cut_names (F := F) (x2 := x2) (x4 := some (.pu (.int ((r1 + 1 : Nat) : Int)))) (x5 := some (.pu (.int ((r2 + 1 : Nat) : Int)))) (x6 := some (.pu (.int far))) (x7 := some (.pu (tabD tab))) (x8 := none) (x9 := none) (x10 := x10) (n := r2 + 1) (i := 5) G5 (by decide) (by omega) rfl fun _ => rfl
  have s4 := put_s (i := 10) (EvS.bndA (k := gMkT) (w := .pu (namesD (o1.take (r1 + 1)) (o2.take (r2 + 1)))) (.cons eN1 (.cons eN2 .nil)) rfl)
  obtain ⟨m1, k1⟩ := names_ok p1 (n := r1 + 1) (by omega)
  obtain ⟨m2, k2⟩ := names_ok p2 (n := r2 + 1) (by omega)
  have t0 : 0 < tab.length := by omega
  have c0 : (tab.getD 0 []).length = r2 + 1 := (t2 _ (getD_mem t0)).1
  have dr : Dr tab (o1.take (r1 + 1)) (o2.take (r2 + 1)) := by
    refine ⟨⟨t0, by omega, fun r hr => by rw [(t2 r hr).1, c0], ?_, fun r hr i hi => Nat.lt_of_lt_of_le ((t2 r hr).2 i hi) (by decide), by rw [t1]; exact m1, by rw [c0]; exact m2⟩, fun r hr => (t2 r hr).2, k1, k2⟩
    rw [t1, c0]
    have : (r1 + 1) * (r2 + 1) ≤ 6 * 6 := Nat.mul_le_mul (by omega) (by omega)
    omega
  obtain ⟨ds7, g1, g2⟩ := grid_ok K ca dr G6 (by decide)
  have eG : EvS (fLend 3 3 (F_l_grid_right K ca) (fCons (fVar 7) (fCons (fVar 10) (fNil)))) (lE F pD x2 ds6 (some (.pu (.int ((r1 + 1 : Nat) : Int)))) (some (.pu (.int ((r2 + 1 : Nat) : Int)))) (some (.pu (.int far))) (some (.pu (tabD tab))) none none (some (.pu (namesD (o1.take (r1 + 1)) (o2.take (r2 + 1))))))
      (lE F pD x2 ds7 (some (.pu (.int ((r1 + 1 : Nat) : Int)))) (some (.pu (.int ((r2 + 1 : Nat) : Int)))) (some (.pu (.int far))) (some (.pu (tabD tab))) none none (some (.pu (namesD (o1.take (r1 + 1)) (o2.take (r2 + 1)))))) (.bool true) :=
    EvS.lend (i := 3) (t := 0) (ds := ds6) (es := [tabD tab, namesD (o1.take (r1 + 1)) (o2.take (r2 + 1))]) rfl (.cons (Ev.var rfl) (.cons (Ev.var rfl) .nil)) rfl g1
  have eR : Ev (fAnd (fOp2 gEq (fVar 2) (fC (.int 1))) (fNot (fCall 0 (F_l_refused_right K ca) fNil))) (lE F pD x2 ds7 (some (.pu (.int ((r1 + 1 : Nat) : Int)))) (some (.pu (.int ((r2 + 1 : Nat) : Int)))) (some (.pu (.int far))) (some (.pu (tabD tab))) none none (some (.pu (namesD (o1.take (r1 + 1)) (o2.take (r2 + 1)))))) (.bool false) := by
    have z := Ev.and (x := decide ((n : Int) = 1)) (y := false) (ev_eqI (ρ := lE F pD x2 ds7 (some (.pu (.int ((r1 + 1 : Nat) : Int)))) (some (.pu (.int ((r2 + 1 : Nat) : Int)))) (some (.pu (.int far))) (some (.pu (tabD tab))) none none (some (.pu (namesD (o1.take (r1 + 1)) (o2.take (r2 + 1)))))) (i := (n : Int)) (Ev.var (i := 2) (m := 0) (by rw [← h2]; rfl)) (Ev.k (d := .int 1))) fun _ => Ev.bl (.not (.call (n := 0) .nil (refused_ok X) rfl)) rfl
    exact Ev.bl z (by rw [Bool.and_false])
  have s5 := nx_ifS (f := sRet (fC (.bool false))) (EvS.orF (EvS.not eG) (Ev.s eR))
  exact ⟨ds7, _, _, _, _, _, Nx.seq n0 (Nx.seq s2 (Nx.seq s3 (Nx.seq s4 s5)))⟩
theorem law_ok {P : Program} {K : PySem.W.Frag} {mg : Str → Option Value} {ca : Str → Addr} {l : Addr} {ns : List Int} (X : Exs P K mg ca) : ∃ ρ2, g_law K ca l ns [some (.pu (fnD l)), none, none, none, none, none, none, none, none, none, none, none] = .ret (.pu (.bool true)) ρ2 := by
  have s1 : Nx (sPut 1 (bndA (fCons (fC (.str "a")) (fCons (fC (.str "b")) (fCons (fC (.str "north")) (fCons (fC (.str "south")) (fCons (fC (.str "east")) (fCons (fC (.str "west")) (fCons (fC (.str "men")) (fCons (fC (.str "women")) (fCons (fC (.str "rest")) (fCons (fC (.str "x")) (fCons (fC (.str "y")) (fCons (fC (.str "abcdefghijkl")) (fNil))))))))))))) gMkL)) [some (.pu (fnD l)), none, none, none, none, none, none, none, none, none, none, none] [some (.pu (fnD l)), pD, none, none, none, none, none, none, none, none, none, none] := rfl
  obtain ⟨ρ', n1, x2, x3, x4, x5, x6, x7, x10, h2, eρ⟩ := for_nx (ρ := [some (.pu (fnD l)), pD, none, none, none, none, none, none, none, none, none, none]) (bind := bName 2) (body := lawBody K ca l ns) (fun k : Nat => PyData.int (k : Nat)) (fun done ρ => ∃ x2 x3 x4 x5 x6 x7 x10, noN [x3, x4, x5, x6, x7, x10] = true ∧ ρ = [some (.pu (fnD l)), pD, x2, x3, x4, x5, x6, x7, none, none, x10, none]) (List.range 3) (rngS (fs := fCons (fC (.int 3)) fNil) (ρ1 := [some (.pu (fnD l)), pD, none, none, none, none, none, none, none, none, none, none]) (n := 3) rfl (by decide)) ⟨none, none, none, none, none, none, none, rfl, rfl⟩ fun done k rest e ρ ⟨x2, x3, x4, x5, x6, x7, x10, hN, eρ⟩ => by
    subst eρ
    obtain ⟨hk, _⟩ := in_range e
    have hN2 : noN [some (.pu (fnD l)), pD, some (.pu (.int (k : Nat))), x3, x4, x5, x6, x7, none, none, x10, none] = true := by
      unfold noN at hN
      simp only [List.all_cons, List.all_nil, Bool.and_true, Bool.and_eq_true] at hN
      obtain ⟨a, b, c, d, e, f⟩ := hN
      unfold noN
      simp [a, b, c, d, e, f]
    obtain ⟨ds, d4, d5, d6, d7, d10, nx⟩ := body_ok (ns := ns) X (n := k) (by omega) hN2
    exact ⟨[some (.pu (fnD l)), pD, some (.pu (.int (k : Nat))), x3, x4, x5, x6, x7, none, none, x10, none], _, rfl, nx, _, _, _, _, _, _, _, rfl, rfl⟩
  subst eρ
  obtain ⟨ρ2, hl⟩ := law_end_ok ca (some (.pu (fnD l))) pD x2 x3 x4 x5 x6 x7 none none x10 none
  refine ⟨ρ2, ?_⟩
  unfold g_law
  rw [seq_nx s1, seq_nx n1]
  exact hl
end K65
/-! H2: the facts of the head, and the end. -/
namespace K65
open PySem PySem.Spec PyProof.Rows L2 DL
section
variable {w : World} {h : Heap} {K : PySem.W.Frag} {mg : Str → Option Value}
theorem fnAt (KX : K.In h) (G : h.Ns mainGlobals mg) (c : Says w h K) (x : Str) (i k l : Nat) (h1 : fnl[k]? = some (dfn x i)) (h2 : fal[l]? = some (.glo x)) : ∃ fd, FunD K x x (defArgs (top i)) (defBody (top i)) (defScope (top i)) [] [] (He.ga K x) fd ∧ mg x = some (.ref (He.ga K x)) := by
  obtain ⟨fd, F⟩ := c.x.t.d.def_ k (d := dfn x i) h1
  exact ⟨fd, F, He.glo_ok KX G (c.x.t.d.fact l (f := .glo x) h2)⟩
theorem code_of {x : Str} {i : Nat} {fd : FuncData} (F : FunD K x x (defArgs (top i)) (defBody (top i)) (defScope (top i)) [] [] (He.ga K x) fd) : fd.code = .ref (He.cT K (x, none)).1 := by
  obtain ⟨oc, od, kV, doc, pm, an, cdv, ct, osl, rfl, lk, hcd⟩ := (Fun.ofD F).ex
  obtain ⟨cd, e⟩ := He.codeIn_ref hcd
  have z := He.codeOf_eq (K := K) (p := (x, none)) lk (c := cd) e
  show cdv = .ref (He.codeOf K (x, none))
  rw [z]
  exact e
theorem iniA : ∀ i ∈ exIx, ∃ (p1 p2 p3 : Pos) (j : Nat), defArgs (ini i) = DLX.xA p1 p2 p3 j := fun i hi => by
  simp only [exIx, List.mem_cons, List.not_mem_nil, or_false] at hi
  rcases hi with rfl | rfl | rfl <;> exact ⟨_, _, _, _, rfl⟩
theorem iniB : ∀ i ∈ exIx, ∃ a b c d e f g h i2 k : Pos, defBody (ini i) = DLX.xB a b c d e f g h i2 k ∧ (c.endLine == e.line) = true := fun i hi => by
  simp only [exIx, List.mem_cons, List.not_mem_nil, or_false] at hi
  rcases hi with rfl | rfl | rfl <;> exact ⟨_, _, _, _, _, _, _, _, _, _, rfl, rfl⟩
theorem ex_at (e : obsX1 K = exvs) {n : Str} (hn : n ∈ exNames) : ∃ i ∈ exIx, DLX.exV PR K (He.ga K n) = DLX.exVal (defArgs (ini i)) (defBody (ini i)) := by
  obtain ⟨j, hj, e1⟩ := List.mem_iff_getElem.mp hn
  have z := congrArg (fun l : List DLX.ExV => l[j]?) e
  unfold obsX1 exvs at z
  simp only [List.getElem?_map] at z
  rw [List.getElem?_eq_getElem hj, e1] at z
  cases q : exIx[j]? with
  | none => rw [q] at z; cases z
  | some i =>
    rw [q] at z
    exact ⟨i, List.mem_of_getElem? q, Option.some.inj z⟩
theorem gloEx (KX : K.In h) (G : h.Ns mainGlobals mg) (c : Says w h K) : ∀ n ∈ exNames, mg n = some (.ref (He.ga K n)) := fun n hn => by
  simp only [exNames, List.mem_cons, List.not_mem_nil, or_false] at hn
  rcases hn with rfl | rfl | rfl
  · exact He.glo_ok KX G (c.x.t.d.fact 30 (f := .glo "InvalidTable") rfl)
  · exact He.glo_ok KX G (c.x.t.d.fact 31 (f := .glo "InvalidNames") rfl)
  · exact He.glo_ok KX G (c.x.t.d.fact 32 (f := .glo "InvalidText") rfl)
theorem exs_of (KX : K.In h) (G : h.Ns mainGlobals mg) (c : Says w h K) : Exs PR K mg (He.ga K) := by
  have m := c.x.more
  unfold exB at m
  obtain ⟨m0, m⟩ := He.ba m
  obtain ⟨_, m⟩ := He.ba m
  obtain ⟨m1, m⟩ := He.ba m
  have ma : ∀ n ∈ exNames, _ := fun n hn => List.all_eq_true.mp m n hn
  have tp : (PR.main.scope.names.lookup ("super" : Str)).isSome = false := by decide +kernel
  refine ⟨gloEx KX G c, fun n hn => ?_, fun n hn => ?_, fun n hn k hk => ?_, He.glo_ok KX G (c.x.t.d.fact 29 (f := .glo "SumError") rfl), fun n hn => ?_, of_decide_eq_true m0⟩
  · obtain ⟨i, hi, e⟩ := ex_at c.e hn
    exact DLX.exT_of (gloEx KX G c n hn) (He.free_ok KX G (c.x.t.d.fact 47 (f := .free "super") rfl)) tp (of_decide_eq_true m1) (He.ba (ma n hn)).1 e (iniA i hi) (iniB i hi)
  · exact exkB_ok (He.ba (He.ba (ma n hn)).2).1
  · have z := (He.ba (He.ba (He.ba (ma n hn)).2).2).2
    exact of_decide_eq_true (List.all_eq_true.mp z k hk)
  · exact of_decide_eq_true (He.ba (He.ba (He.ba (ma n hn)).2).2).1
theorem bl_of (KX : K.In h) (G : h.Ns mainGlobals mg) (c : Says w h K) : Bl mg := ⟨He.free_ok KX G (c.x.t.d.fact 33 (f := .free "len") rfl), He.free_ok KX G (c.x.t.d.fact 34 (f := .free "isinstance") rfl), He.free_ok KX G (c.x.t.d.fact 35 (f := .free "int") rfl), He.free_ok KX G (c.x.t.d.fact 36 (f := .free "bool") rfl), He.free_ok KX G (c.x.t.d.fact 37 (f := .free "str") rfl), He.free_ok KX G (c.x.t.d.fact 38 (f := .free "list") rfl), He.free_ok KX G (c.x.t.d.fact 39 (f := .free "tuple") rfl), He.free_ok KX G (c.x.t.d.fact 40 (f := .free "max") rfl), He.free_ok KX G (c.x.t.d.fact 41 (f := .free "sum") rfl), He.free_ok KX G (c.x.t.d.fact 42 (f := .free "enumerate") rfl), He.free_ok KX G (c.x.t.d.fact 43 (f := .free "range") rfl), He.free_ok KX G (c.x.t.d.fact 44 (f := .free "repr") rfl), He.free_ok KX G (c.x.t.d.fact 45 (f := .free "abs") rfl), He.free_ok KX G (c.x.t.d.fact 46 (f := .free "sorted") rfl)⟩
theorem tabs_ne (c : Says w h K) : (He.cT K ("_law_grid_right", none)).2 ≠ (He.cT K ("_law_refused_right", none)).2 := by
  have m := c.x.more
  unfold exB at m
  exact of_decide_eq_true (He.ba (He.ba m).2).1
theorem mak1 (c : Says w h K) {base : Heap} (t : LamX.TabB base mg (He.cT K ("_law_grid_right", none)).1 (He.cT K ("_law_grid_right", none)).2) : MakT K mg base "_law_grid_right" := ⟨t, fun p hp e => by
  obtain ⟨q, hq, rfl⟩ := List.mem_map.mp hp
  simp only [lamDefs, List.mem_cons, List.not_mem_nil, or_false] at hq
  rcases hq with rfl | rfl
  · rfl
  · exact absurd e.symm (tabs_ne c)⟩
theorem mak2 (c : Says w h K) {base : Heap} (t : LamX.TabB base mg (He.cT K ("_law_refused_right", none)).1 (He.cT K ("_law_refused_right", none)).2) : MakT K mg base "_law_refused_right" := ⟨t, fun p hp e => by
  obtain ⟨q, hq, rfl⟩ := List.mem_map.mp hp
  simp only [lamDefs, List.mem_cons, List.not_mem_nil, or_false] at hq
  rcases hq with rfl | rfl
  · exact absurd e (tabs_ne c)
  · rfl⟩
theorem frz_sql {s₁ : Shared} {T : List Addr} {a : Addr} {vs : List Value} {ns : List Int} (KX : K.In s₁.heap) (ha : s₁.heap.get? a = some { cls := .type "list", data := .seq vs.toArray }) (hi : IntsAre vs ns) (hl : ns.length ≤ sizeLine) (hT : a ∉ T) : ∀ H', Frz (startH K T a vs ns) H' → SqL K H' a (ns.map V.int) := fun H' f => by
  cases q : K.lookup a with
  | none => exact .inl (.inr ⟨_, f a _ _ (by unfold startH; rw [if_neg hT, if_pos rfl, q])⟩)
  | some o =>
    have e := KX a o q
    rw [ha] at e
    cases e
    exact .inr ⟨_, vs.toArray, _, q, rfl, rfl, rfl, by rw [List.size_toArray, hi.length]; exact hl, by simpa using vals_ints hi⟩
end
def tT (K : PySem.W.Frag) : List Addr := tfl.map fun p => (He.cT K p).2
theorem law_end {w : World} {K : PySem.W.Frag} {mg mb : Str → Option Value} {s₁ : Shared} {a : Addr} {vs : List Value} {ns : List Int} (KX : K.In s₁.heap) (G : s₁.heap.Ns mainGlobals mg) (c : Says w s₁.heap K) (hb : s₁.heap.Ns builtinsNs mb) (hbb : ∀ x : Str, x ≠ "__name__" → mb x = bootBuiltins x) (hlim : s₁.heap.NoLimit) (hg : s₁.gens = #[])
    (hbm : ∃ (bm : Addr) (ob : Obj), mg "__builtins__" = some (.ref bm) ∧ bm ≠ builtinsNs ∧ s₁.heap.get? bm = some ob ∧ ob.cls = .type "module" ∧ ob.dict = some builtinsNs ∧ ob.data = .plain)
    (ha : s₁.heap.get? a = some { cls := .type "list", data := .seq vs.toArray }) (hi : IntsAre vs ns) (hl : ns.length ≤ sizeLine) :
    codeAny (model PR w) callerA (.call (.ref (He.ga K "law")) ⟨[.ref a], []⟩) (fun r s' => r = .ok (.ret (.bool true)) ∧ OldK s₁.heap s'.heap ∧ s'.os = s₁.os ∧ AllBare s'.gens) s₁ := by
  have hT : ∀ b ∈ tT K, s₁.heap.get? b = some { cls := .none, data := .fields #[] } := fun b h => by
    obtain ⟨p, hp, rfl⟩ := List.mem_map.mp h
    exact c.x.empty p hp
  have nT : ∀ b ∈ tT K, K.lookup b = none := fun b h => by
    obtain ⟨p, hp, rfl⟩ := List.mem_map.mp h
    exact c.x.out p hp
  have hC : ∀ p ∈ tfl, PySem.W.CodeHd s₁.heap (He.cT K p).1 (He.cT K p).2 := fun p hp => PySem.W.codeHd_of_K KX (c.x.hd p hp)
  have C : ∀ b ∈ tT K, ∃ c, PySem.W.CodeHd s₁.heap c b := fun b h => by
    obtain ⟨p, hp, rfl⟩ := List.mem_map.mp h
    exact ⟨_, hC p hp⟩
  have aT : a ∉ tT K := fun z => by
    have q := hT a z
    rw [ha] at q
    cases q
  have e0 : Env0 PR w K mg (hidT s₁.heap (startH K (tT K) a vs ns)) callerA [] s₁ (startH K (tT K) a vs ns) := startH_env KX nT G hb hbb hlim hg hT ha hi hl
  have tb : ∀ p ∈ tfl, LamX.TabB (hidT s₁.heap (startH K (tT K) a vs ns)) mg (He.cT K p).1 (He.cT K p).2 := fun p hp => startH_tabB (List.mem_map.mpr ⟨p, hp, rfl⟩) G (hC p hp) hbm hT ha
  have tbs : LamX.Tabs (TbK K) (startH K (tT K) a vs ns) := fun q hq => by
    obtain ⟨p, hp, rfl⟩ := List.mem_map.mp hq
    have hp2 : p.1 ∈ tfl := by
      simp only [lamDefs, List.mem_cons, List.not_mem_nil, or_false] at hp
      rcases hp with rfl | rfl
      · exact .head _
      · exact .tail _ (.head _)
    exact ⟨#[], startH_tab (List.mem_map.mpr ⟨p.1, hp2, rfl⟩), trivial, fun pos cv h => by cases h⟩
  have B := bl_of KX G c
  have X := exs_of KX G c
  obtain ⟨t_FIGURES, h_FIGURES⟩ := He.str_ok KX G (c.x.t.d.fact 48 (f := .str "FIGURES" "0123456789") rfl)
  obtain ⟨t_BAR, h_BAR⟩ := He.str_ok KX G (c.x.t.d.fact 49 (f := .str "BAR" " | ") rfl)
  obtain ⟨t_LETTERS, h_LETTERS⟩ := He.str_ok KX G (c.x.t.d.fact 50 (f := .str "LETTERS" "abcdefghijklmnopqrstuvwxyz") rfl)
  refine end_call (K := K) hT C ha hi hl ?_
  generalize hbase : hidT s₁.heap (startH K (tT K) a vs ns) = base at e0 tb
  obtain ⟨f_is_whole, F_is_whole, m_is_whole⟩ := fnAt KX G c "is_whole" 6 0 0 rfl rfl
  have d_is_whole := df_is_whole (P := PR) (w := w) (base := base) B  F_is_whole m_is_whole
  obtain ⟨f_read_count, F_read_count, m_read_count⟩ := fnAt KX G c "read_count" 9 1 1 rfl rfl
  have d_read_count := df_read_count (P := PR) (w := w) (base := base) B h_FIGURES F_read_count m_read_count
  obtain ⟨f_read_whole, F_read_whole, m_read_whole⟩ := fnAt KX G c "read_whole" 10 2 2 rfl rfl
  have d_read_whole := df_read_whole (P := PR) (w := w) (base := base) B d_read_count F_read_whole m_read_whole
  obtain ⟨f_ended_lines, F_ended_lines, m_ended_lines⟩ := fnAt KX G c "ended_lines" 11 3 3 rfl rfl
  have d_ended_lines := df_ended_lines (P := PR) (w := w) (base := base) B  F_ended_lines m_ended_lines
  obtain ⟨f_is_grid, F_is_grid, m_is_grid⟩ := fnAt KX G c "is_grid" 15 4 4 rfl rfl
  have d_is_grid := df_is_grid (P := PR) (w := w) (base := base) B d_is_whole F_is_grid m_is_grid
  obtain ⟨f_is_name, F_is_name, m_is_name⟩ := fnAt KX G c "is_name" 16 5 5 rfl rfl
  have d_is_name := df_is_name (P := PR) (w := w) (base := base) B h_LETTERS F_is_name m_is_name
  obtain ⟨f_are_names_of, F_are_names_of, m_are_names_of⟩ := fnAt KX G c "are_names_of" 17 6 6 rfl rfl
  have d_are_names_of := df_are_names_of (P := PR) (w := w) (base := base) B d_is_name F_are_names_of m_are_names_of
  obtain ⟨f_check_grid, F_check_grid, m_check_grid⟩ := fnAt KX G c "check_grid" 18 7 7 rfl rfl
  have d_check_grid := df_check_grid (ca := He.ga K) (P := PR) (w := w) (base := base) B d_is_grid (X.t "InvalidTable" (by decide)) F_check_grid m_check_grid
  obtain ⟨f_check_names, F_check_names, m_check_names⟩ := fnAt KX G c "check_names" 19 8 8 rfl rfl
  have d_check_names := df_check_names (ca := He.ga K) (P := PR) (w := w) (base := base) B d_are_names_of (X.t "InvalidNames" (by decide)) F_check_names m_check_names
  obtain ⟨f_words_of, F_words_of, m_words_of⟩ := fnAt KX G c "words_of" 20 9 9 rfl rfl
  have d_words_of := df_words_of (P := PR) (w := w) (base := base) B  F_words_of m_words_of
  obtain ⟨f_drawn_rows, F_drawn_rows, m_drawn_rows⟩ := fnAt KX G c "drawn_rows" 21 10 10 rfl rfl
  have d_drawn_rows := df_drawn_rows (P := PR) (w := w) (base := base) B h_BAR F_drawn_rows m_drawn_rows
  obtain ⟨f_text_of_grid, F_text_of_grid, m_text_of_grid⟩ := fnAt KX G c "text_of_grid" 22 11 11 rfl rfl
  have d_text_of_grid := df_text_of_grid (ca := He.ga K) (P := PR) (w := w) (base := base) B d_check_grid d_check_names d_drawn_rows d_words_of F_text_of_grid m_text_of_grid
  obtain ⟨f_parts_in, F_parts_in, m_parts_in⟩ := fnAt KX G c "parts_in" 23 12 12 rfl rfl
  have d_parts_in := df_parts_in (P := PR) (w := w) (base := base) B h_BAR F_parts_in m_parts_in
  obtain ⟨f_grid_of_text, F_grid_of_text, m_grid_of_text⟩ := fnAt KX G c "grid_of_text" 24 13 13 rfl rfl
  have d_grid_of_text := df_grid_of_text (ca := He.ga K) (P := PR) (w := w) (base := base) B d_ended_lines d_parts_in d_read_whole d_is_grid d_are_names_of d_drawn_rows d_words_of (X.t "InvalidText" (by decide)) F_grid_of_text m_grid_of_text
  obtain ⟨f_l_hash, F_l_hash, m_l_hash⟩ := fnAt KX G c "_law_hash" 26 14 14 rfl rfl
  have d_l_hash := df_l_hash (P := PR) (w := w) (base := base) B  F_l_hash m_l_hash
  obtain ⟨f_l_random, F_l_random, m_l_random⟩ := fnAt KX G c "_law_random" 27 15 15 rfl rfl
  have d_l_random := df_l_random (P := PR) (w := w) (base := base) B d_l_hash F_l_random m_l_random
  obtain ⟨f_l_pick, F_l_pick, m_l_pick⟩ := fnAt KX G c "_law_pick" 30 18 18 rfl rfl
  have d_l_pick := df_l_pick (P := PR) (w := w) (base := base) B d_l_random F_l_pick m_l_pick
  obtain ⟨f_l_drawn_order, F_l_drawn_order, m_l_drawn_order⟩ := fnAt KX G c "_law_drawn_order" 31 19 19 rfl rfl
  have d_l_drawn_order := df_l_drawn_order (P := PR) (w := w) (base := base) B d_l_random F_l_drawn_order m_l_drawn_order
  obtain ⟨f_l_bent, F_l_bent, m_l_bent⟩ := fnAt KX G c "_law_bent" 35 23 23 rfl rfl
  have d_l_bent := df_l_bent (P := PR) (w := w) (base := base) B d_l_random F_l_bent m_l_bent
  obtain ⟨f_l_drawing, F_l_drawing, m_l_drawing⟩ := fnAt KX G c "_law_drawing" 37 25 25 rfl rfl
  have d_l_drawing := df_l_drawing (P := PR) (w := w) (base := base) B  F_l_drawing m_l_drawing
  obtain ⟨f_l_marked, F_l_marked, m_l_marked⟩ := fnAt KX G c "_law_marked" 32 20 20 rfl rfl
  obtain ⟨f_l_caught, F_l_caught, m_l_caught⟩ := fnAt KX G c "_law_caught" 33 21 21 rfl rfl
  obtain ⟨f_l_refuses, F_l_refuses, m_l_refuses⟩ := fnAt KX G c "_law_refuses" 34 22 22 rfl rfl
  obtain ⟨f_l_read, F_l_read, m_l_read⟩ := fnAt KX G c "_law_read" 36 24 24 rfl rfl
  obtain ⟨f_l_cell, F_l_cell, m_l_cell⟩ := fnAt KX G c "_law_cell" 28 16 16 rfl rfl
  obtain ⟨f_l_generator, F_l_generator, m_l_generator⟩ := fnAt KX G c "_law_generator" 29 17 17 rfl rfl
  obtain ⟨f_law, F_law, m_law⟩ := fnAt KX G c "law" 40 28 28 rfl rfl
  obtain ⟨f_l_grid_right, F_l_grid_right, m_l_grid_right⟩ := fnAt KX G c "_law_grid_right" 38 26 26 rfl rfl
  obtain ⟨f_l_refused_right, F_l_refused_right, m_l_refused_right⟩ := fnAt KX G c "_law_refused_right" 39 27 27 rfl rfl
  have Rk : RefKit PR w K mg base (He.ga K) := ⟨B, X, ⟨_, _, F_l_caught, m_l_caught⟩, ⟨_, _, F_l_refuses, m_l_refuses⟩, ⟨_, _, F_l_read, m_l_read⟩⟩
  have Mk : MarkKit PR w K mg base (He.ga K) := ⟨B, d_ended_lines, d_parts_in, d_read_whole, d_is_grid, d_are_names_of, d_drawn_rows, d_words_of, X.t "InvalidText" (by decide), ⟨_, _, F_grid_of_text, m_grid_of_text⟩, ⟨_, _, F_l_marked, m_l_marked⟩⟩
  have d_l_grid_right := df_l_grid_right (ca := He.ga K) (P := PR) (w := w) (base := base) B d_l_drawing d_text_of_grid d_grid_of_text d_l_bent Rk Mk F_l_grid_right m_l_grid_right (mak1 c (tb ("_law_grid_right", none) (.head _))) (code_of F_l_grid_right)
  have d_l_refused_right := df_l_refused_right (ca := He.ga K) (P := PR) (w := w) (base := base) B d_text_of_grid d_grid_of_text Rk F_l_refused_right m_l_refused_right (mak2 c (tb ("_law_refused_right", none) (.tail _ (.head _)))) (code_of F_l_refused_right)
  obtain ⟨ρ2, hres⟩ := law_ok (l := a) (ns := ns) X
  exact law_run (P := PR) (w := w) (base := base) (g := g_law K (He.ga K) a ns) B F_law (code_of F_law)
    (fun A outer s E cn => b_law B d_l_pick d_l_random d_l_drawn_order d_l_grid_right d_l_refused_right d_text_of_grid d_grid_of_text F_l_cell m_l_cell F_l_generator m_l_generator (frz_sql KX ha hi hl aT) cn)
    rfl ⟨rfl, by decide, by decide⟩ e0 tbs hres fun _ => rfl
end K65
open PySem PySem.W PySem.Calls PyProof.Rows
theorem PySem.Challenge.cw_addsup_k65_drawings_of_grids_holds : PySem.Challenge.rw_addsup_k65_drawings_of_grids.Holds := by
  w_on; o_law
  refine HandSHeadRun.head_any (r := OpenLaw.row PySem.Challenge.rw_addsup_k65_drawings_of_grids) (q := view (OpenLaw.row PySem.Challenge.rw_addsup_k65_drawings_of_grids).prog [40]) (H := K65.hk) (ob := K65.ob) (M := 40000) (loose := K65.loose) (d := HandSHeadRun.topDef (OpenLaw.row PySem.Challenge.rw_addsup_k65_drawings_of_grids).prog 40) (kwd := []) K65.ob_eq
    (by kernel_rfl) (fun s => by kernel_rfl) K65.run (by kernel_rfl) (by kernel_rfl) (by kernel_rfl) (by rfl) (by first | assumption | decide +kernel) (by decide +kernel) ⟨rfl, rfl, rfl, rfl, rfl, by decide +kernel⟩ ?hw ?hc
  case hw => w_witness2
  case hc =>
    refine Att.attach_callB (l := PySem.Challenge.rw_addsup_k65_drawings_of_grids) (n := 63) rfl (by kernel_rfl) fun w s₀ s₁ mg mb fa o pm cd doc a vs ns G Y ho hd hcd hmg hobj hints hlen hbits hg => ?_
    obtain ⟨K, KX, c⟩ := Y
    have hmg2 : mg ("law" : PySem.Str) = some (.ref fa) := by
      have e : (HandSHeadRun.topDef (OpenLaw.row PySem.Challenge.rw_addsup_k65_drawings_of_grids).prog 40).name = ("law" : PySem.Str) := by kernel_rfl
      rw [← e]
      exact hmg
    obtain ⟨fd, F, m⟩ := K65.fnAt KX G.T.g c "law" 40 28 28 rfl rfl
    rw [hmg2] at m
    cases m
    exact K65.law_end KX G.T.g c G.T.b G.T.builtins G.T.nolimit hg G.T.bmain hobj hints (Nat.le_trans hlen (by decide))
