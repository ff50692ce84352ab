import PyProof.Rows.All
import Wide.All
import OpenK.AllK
import Wide.FinOn
import HandS.ForMost
import HandS.ForExc
import HandS.TryMany
import HandS.ExcValue
import HandS.ExcIs
import HandS.Style
import HandS.SortRule
import HandS.SortInts
import HandS.Conv
import HandS.DictTup
import HandS.TupSets
import HandS.IsInst
import HandS.TupLen
import HandS.Defaults
import HandS.Head0
import HandS.Head1
import HandS.Head2
import HandS.HeadEnd
import HandS.HeadHook1
import HandS.HeadHook2
import HandS.HeadHook3
import HandS.HeadHook4
import PySem.Challenge.RW_markwalkers_k91_whole_two_at_once
set_option Elab.async false
set_option linter.all false
set_option maxRecDepth 100000
set_option maxHeartbeats 4000000
namespace MW
open PySem PySem.Spec PyProof.Rows L2
abbrev Sl := L2.St

/-! ### plain data, what bears it -/
inductive D where
  | non | bl (b : Bool) | int (i : Int) | str (s : Str) | tup (l : List D) | lst (l : List D) | cell (a : Addr) | exc (C : Addr) | raw (v : V) | kt (l : List D) | sq (l : List D)

/-- a caught exception of the class at C, held -/
def ExH (C : Addr) (a : Addr) : HO := .ext fun h => ∃ (oe : Obj) (vs : Array Value), h.get? a = some oe ∧ Zc (.ref C) none oe ∧ oe.data = .fields vs

section
variable (K : PySem.W.Frag)
mutual
def Rp (G : Hp) : D → V → Prop
  | .non, v => v = .non
  | .bl b, v => v = .bl b
  | .int i, v => v = .int i
  | .str s, v => v = .str s
  | .tup l, v => ∃ a vs, v = .ref a ∧ G a = some (.tup vs) ∧ RpL G l vs
  | .lst l, v => ∃ a vs, v = .ref a ∧ G a = some (.lst vs) ∧ RpL G l vs
  | .kt l, v => ∃ a vs, v = .ref a ∧ SqT K G a vs ∧ RpL G l vs
  | .sq l, v => ∃ a vs, v = .ref a ∧ SqL K G a vs ∧ RpL G l vs
  | .cell a, v => v = .ref a
  | .exc C, v => ∃ a, v = .ref a ∧ G a = some (ExH C a)
  | .raw u, v => v = u
def RpL (G : Hp) : List D → List V → Prop
  | [], vs => vs = []
  | d :: ds, vs => ∃ v r, vs = v :: r ∧ Rp G d v ∧ RpL G ds r
end
end
def Ex (G H : Hp) : Prop := ∀ a o, G a = some o → H a = some o
theorem Ex.refl (G : Hp) : Ex G G := fun _ _ h => h
theorem Ex.trans {G H J : Hp} (a : Ex G H) (b : Ex H J) : Ex G J := fun x o h => b x o (a x o h)
theorem Ex.new {H : Hp} {p : Addr} {o : HO} (h : H p = none) : Ex H (upd H p o) := fun a u e => by
  rw [upd_ne (ne_of_none e h)]; exact e
theorem Ex.rd {G H : Hp} {a : Addr} {u : HO} (e : Ex G H) (h : Rd G a u) : Rd H a u := by
  rcases h with h | ⟨o, h⟩
  · exact .inl (e a _ h)
  · exact .inr ⟨o, e a _ h⟩
section
variable {K : PySem.W.Frag} {G H : Hp}
theorem Ex.sqL {a : Addr} {xs : List V} (e : Ex G H) (h : SqL K G a xs) : SqL K H a xs := by
  rcases h with h | h
  · exact .inl (e.rd h)
  · exact .inr h
theorem Ex.sqT {a : Addr} {xs : List V} (e : Ex G H) (h : SqT K G a xs) : SqT K H a xs := by
  rcases h with h | h
  · exact .inl (e.rd h)
  · exact .inr h
mutual
theorem Rp.mono (e : Ex G H) : ∀ {d : D} {v : V}, Rp K G d v → Rp K H d v
  | .non, _, h => h
  | .bl _, _, h => h
  | .int _, _, h => h
  | .str _, _, h => h
  | .tup l, _, h => by
    obtain ⟨a, vs, e1, h1, h2⟩ := h
    exact ⟨a, vs, e1, e _ _ h1, RpL.mono e h2⟩
  | .lst l, _, h => by
    obtain ⟨a, vs, e1, h1, h2⟩ := h
    exact ⟨a, vs, e1, e _ _ h1, RpL.mono e h2⟩
  | .kt l, _, h => by
    obtain ⟨a, vs, e1, h1, h2⟩ := h
    exact ⟨a, vs, e1, e.sqT h1, RpL.mono e h2⟩
  | .sq l, _, h => by
    obtain ⟨a, vs, e1, h1, h2⟩ := h
    exact ⟨a, vs, e1, e.sqL h1, RpL.mono e h2⟩
  | .cell _, _, h => h
  | .exc C, _, h => by
    obtain ⟨a, e1, h1⟩ := h
    exact ⟨a, e1, e _ _ h1⟩
  | .raw _, _, h => h
theorem RpL.mono (e : Ex G H) : ∀ {ds : List D} {vs : List V}, RpL K G ds vs → RpL K H ds vs
  | [], _, h => h
  | d :: ds, _, h => by
    obtain ⟨v, r, e1, h1, h2⟩ := h
    exact ⟨v, r, e1, Rp.mono e h1, RpL.mono e h2⟩
end
theorem RpL.len : ∀ {ds : List D} {vs : List V}, RpL K G ds vs → vs.length = ds.length
  | [], _, h => by
    have e : _ = _ := h
    subst e; rfl
  | d :: ds, _, h => by
    obtain ⟨v, r, e1, h1, h2⟩ := h
    subst e1
    rw [List.length_cons, List.length_cons, RpL.len h2]
theorem RpL.get : ∀ {ds : List D} {vs : List V} {i : Nat} {d : D}, RpL K G ds vs → ds[i]? = some d → ∃ v, vs[i]? = some v ∧ Rp K G d v
  | [], _, i, d, _, e => by simp at e
  | x :: ds, _, 0, d, h, e => by
    obtain ⟨v, r, e1, h1, h2⟩ := h
    subst e1
    have e' : x = d := by simpa using e
    subst e'
    exact ⟨v, rfl, h1⟩
  | x :: ds, _, i + 1, d, h, e => by
    obtain ⟨v, r, e1, h1, h2⟩ := h
    subst e1
    obtain ⟨w, a, b⟩ := RpL.get (i := i) (d := d) h2 (by simpa using e)
    exact ⟨w, by simpa using a, b⟩
theorem RpL.getV : ∀ {ds : List D} {vs : List V} {i : Nat} {v : V}, RpL K G ds vs → vs[i]? = some v → ∃ d, ds[i]? = some d ∧ Rp K G d v
  | [], vs, i, v, h, e => by
    have h' : vs = [] := h
    subst h'
    simp at e
  | x :: ds, _, 0, d, h, e => by
    obtain ⟨v, r, e1, h1, h2⟩ := h
    subst e1
    have e' : v = d := by simpa using e
    subst e'
    exact ⟨x, rfl, h1⟩
  | x :: ds, _, i + 1, d, h, e => by
    obtain ⟨v, r, e1, h1, h2⟩ := h
    subst e1
    obtain ⟨w, a, b⟩ := RpL.getV (i := i) (v := d) h2 (by simpa using e)
    exact ⟨w, by simpa using a, b⟩
theorem RpL.app : ∀ {ds es : List D} {vs ws : List V}, RpL K G ds vs → RpL K G es ws → RpL K G (ds ++ es) (vs ++ ws)
  | [], es, _, ws, h, h' => by
    have e : _ = _ := h
    subst e; exact h'
  | d :: ds, es, _, ws, h, h' => by
    obtain ⟨v, r, e1, h1, h2⟩ := h
    subst e1
    exact ⟨v, r ++ ws, rfl, h1, RpL.app h2 h'⟩
theorem RpL.one {d : D} {v : V} (h : Rp K G d v) : RpL K G [d] [v] := ⟨v, [], rfl, h, rfl⟩
theorem RpL.take : ∀ {ds : List D} {vs : List V} (n : Nat), RpL K G ds vs → RpL K G (ds.take n) (vs.take n)
  | [], _, n, h => by
    have e : _ = _ := h
    subst e
    rw [List.take_nil, List.take_nil]; exact rfl
  | d :: ds, _, 0, h => rfl
  | d :: ds, _, n + 1, h => by
    obtain ⟨v, r, e1, h1, h2⟩ := h
    subst e1
    exact ⟨v, r.take n, rfl, h1, RpL.take n h2⟩
theorem RpL.drop : ∀ {ds : List D} {vs : List V} (n : Nat), RpL K G ds vs → RpL K G (ds.drop n) (vs.drop n)
  | [], _, n, h => by
    have e : _ = _ := h
    subst e
    rw [List.drop_nil, List.drop_nil]; exact rfl
  | d :: ds, _, 0, h => h
  | d :: ds, _, n + 1, h => by
    obtain ⟨v, r, e1, h1, h2⟩ := h
    subst e1
    exact RpL.drop n h2
theorem RpL.set : ∀ {ds : List D} {vs : List V} (n : Nat) {d : D} {v : V}, RpL K G ds vs → Rp K G d v → RpL K G (ds.set n d) (vs.set n v)
  | [], _, n, _, _, h, _ => by
    have e : _ = _ := h
    subst e
    exact rfl
  | d :: ds, _, 0, _, v', h, h' => by
    obtain ⟨v, r, e1, h1, h2⟩ := h
    subst e1
    exact ⟨v', r, rfl, h', h2⟩
  | d :: ds, _, n + 1, _, _, h, h' => by
    obtain ⟨v, r, e1, h1, h2⟩ := h
    subst e1
    exact ⟨v, r.set n _, rfl, h1, RpL.set n h2 h'⟩
theorem RpL.reverse : ∀ {ds : List D} {vs : List V}, RpL K G ds vs → RpL K G ds.reverse vs.reverse
  | [], _, h => by
    have e : _ = _ := h
    subst e
    exact rfl
  | d :: ds, _, h => by
    obtain ⟨v, r, e1, h1, h2⟩ := h
    subst e1
    rw [List.reverse_cons, List.reverse_cons]
    exact RpL.app (RpL.reverse h2) (.one h1)
theorem RpL.dropLast {ds : List D} {vs : List V} (h : RpL K G ds vs) : RpL K G ds.dropLast vs.dropLast := by
  rw [List.dropLast_eq_take, List.dropLast_eq_take, h.len]
  exact h.take _
theorem RpL.of_get : ∀ {ds : List D} {vs : List V}, vs.length = ds.length → (∀ (i : Nat) d v, ds[i]? = some d → vs[i]? = some v → Rp K G d v) → RpL K G ds vs
  | [], vs, hl, _ => List.eq_nil_of_length_eq_zero hl
  | d :: ds, [], hl, _ => by simp at hl
  | d :: ds, v :: vs, hl, h => ⟨v, vs, rfl, h 0 d v rfl rfl, RpL.of_get (by simpa using hl) fun i d' v' e1 e2 => h (i + 1) d' v' (by simpa using e1) (by simpa using e2)⟩
theorem RpL.ints : ∀ {ns : List Int} {vs : List V}, RpL K G (ns.map D.int) vs → vs = ns.map V.int
  | [], _, h => h
  | n :: ns, _, h => by
    obtain ⟨v, r, e1, h1, h2⟩ := h
    subst e1
    rw [List.map_cons, RpL.ints h2]
    have e : v = V.int n := h1
    rw [e]
theorem RpL.of_ints : ∀ (ns : List Int), RpL K G (ns.map D.int) (ns.map V.int)
  | [] => rfl
  | n :: ns => ⟨_, _, rfl, rfl, RpL.of_ints ns⟩
theorem RpL.bls : ∀ {ns : List Bool} {vs : List V}, RpL K G (ns.map D.bl) vs → vs = ns.map V.bl
  | [], _, h => h
  | n :: ns, _, h => by
    obtain ⟨v, r, e1, h1, h2⟩ := h
    subst e1
    rw [List.map_cons, RpL.bls h2]
    have e : v = V.bl n := h1
    rw [e]
theorem RpL.strs : ∀ {ns : List Str} {vs : List V}, RpL K G (ns.map D.str) vs → vs = ns.map V.str
  | [], _, h => h
  | n :: ns, _, h => by
    obtain ⟨v, r, e1, h1, h2⟩ := h
    subst e1
    rw [List.map_cons, RpL.strs h2]
    have e : v = V.str n := h1
    rw [e]
theorem RpL.of_strs : ∀ (ns : List Str), RpL K G (ns.map D.str) (ns.map V.str)
  | [] => rfl
  | n :: ns => ⟨_, _, rfl, rfl, RpL.of_strs ns⟩
end

/-! ### the store of cells -/
inductive MO where
  | lst (l : List D)
  | dT (kvs : List (List Key × D))
  | dK (kvs : List (Key × D))
  | lkT (kvs : List (List Key × D))
  | ins (C dx : Addr) (fs : List (Str × D))
abbrev Store := List (Addr × MO)
def RpK {κ : Type} (K : PySem.W.Frag) (G : Hp) (xs : List (κ × D)) (ws : List (κ × V)) : Prop := Paired (fun p q => p.1 = q.1 ∧ Rp K G p.2 q.2) xs ws
def MRep (K : PySem.W.Frag) (G : Hp) : MO → HO → Prop
  | .lst l, u => ∃ vs, u = .lst vs ∧ RpL K G l vs
  | .dT kvs, u => ∃ ws, u = .dT ws ∧ RpK K G kvs ws
  | .dK kvs, u => ∃ ws, u = .dK ws ∧ RpK K G kvs ws
  | .lkT kvs, u => ∃ o ws, u = .frz o (.dT ws) ∧ RpK K G kvs ws
  | .ins C dx fs, u => ∃ ws, u = .ins C dx ws ∧ RpK K G fs ws
theorem Paired.imp {α β : Type} {F F' : α → β → Prop} : ∀ {xs : List α} {ys : List β}, Paired F xs ys → (∀ a b, F a b → F' a b) → Paired F' xs ys
  | _, _, .nil, _ => .nil
  | _, _, .cons r t, f => .cons (f _ _ r) (Paired.imp t f)
theorem RpK.mono {κ : Type} {K : PySem.W.Frag} {G H : Hp} (e : Ex G H) {xs : List (κ × D)} {ws : List (κ × V)} (h : RpK K G xs ws) : RpK K H xs ws := Paired.imp h fun _ _ z => ⟨z.1, Rp.mono e z.2⟩
theorem MRep.mono {K : PySem.W.Frag} {G H : Hp} (e : Ex G H) : ∀ {o : MO} {u : HO}, MRep K G o u → MRep K H o u
  | .lst _, _, ⟨vs, a, b⟩ => ⟨vs, a, b.mono e⟩
  | .dT _, _, ⟨vs, a, b⟩ => ⟨vs, a, b.mono e⟩
  | .dK _, _, ⟨vs, a, b⟩ => ⟨vs, a, b.mono e⟩
  | .lkT _, _, ⟨o, vs, a, b⟩ => ⟨o, vs, a, b.mono e⟩
  | .ins _ _ _, _, ⟨vs, a, b⟩ => ⟨vs, a, b.mono e⟩

abbrev dom (L : Store) : List Addr := L.map (·.1)
structure Sat (K : PySem.W.Frag) (G H : Hp) (L : Store) : Prop where
  ex : Ex G H
  nd : (dom L).Nodup
  cl : ∀ c o, (c, o) ∈ L → G c = none ∧ ∃ u, H c = some u ∧ MRep K G o u
structure Nx (G H : Hp) (L : Store) (G' H' : Hp) (L' : Store) : Prop where
  g : Ex G G'
  k : ∀ b u, b ∉ dom L → H b = some u → H' b = some u
  d : ∀ p, H p ≠ none → H' p ≠ none
  n : ∀ p, H p ≠ none → p ∉ dom L → G p = none → G' p = none
  l : ∀ p, p ∈ dom L' → p ∈ dom L ∨ H p = none
theorem Nx.refl (G H : Hp) (L : Store) : Nx G H L G H L := ⟨.refl G, fun _ _ _ h => h, fun _ h => h, fun _ _ _ h => h, fun _ h => .inl h⟩
theorem Nx.trans {G H G1 H1 G2 H2 : Hp} {L L1 L2 : Store} (a : Nx G H L G1 H1 L1) (b : Nx G1 H1 L1 G2 H2 L2) : Nx G H L G2 H2 L2 := by
  have nin : ∀ p, p ∉ dom L → H p ≠ none → p ∉ dom L1 := fun p h1 h2 h3 => (a.l p h3).elim h1 h2
  refine ⟨a.g.trans b.g, fun c u h e => ?_, fun p h => b.d p (a.d p h), fun p h1 h2 h3 => b.n p (a.d p h1) (nin p h2 h1) (a.n p h1 h2 h3), fun p h => ?_⟩
  · exact b.k c u (nin c h (by rw [e]; simp)) (a.k c u h e)
  · rcases b.l p h with h | h
    · exact a.l p h
    · refine .inr ?_
      cases e : H p with
      | none => rfl
      | some o => exact absurd h (a.d p (by rw [e]; simp))

abbrev Env := List (Option D)
structure SRep (K : PySem.W.Frag) (G : Hp) (σ : Sl) (ρ : Env) : Prop where
  len : σ.length = ρ.length
  at' : ∀ (i : Nat) d, ρ[i]? = some (some d) → ∃ v, σ[i]? = some (some v) ∧ Rp K G d v
theorem SRep.mono {K : PySem.W.Frag} {G H : Hp} {σ : Sl} {ρ : Env} (e : Ex G H) (h : SRep K G σ ρ) : SRep K H σ ρ :=
  ⟨h.len, fun i d q => let ⟨v, a, b⟩ := h.at' i d q; ⟨v, a, b.mono e⟩⟩
theorem SRep.set {K : PySem.W.Frag} {G : Hp} {σ : Sl} {ρ : Env} (h : SRep K G σ ρ) (i : Nat) {d : D} {v : V} (r : Rp K G d v) : SRep K G (σ.set i (some v)) (ρ.set i (some d)) := by
  refine ⟨by rw [List.length_set, List.length_set]; exact h.len, fun j d' e => ?_⟩
  by_cases hj : i = j
  · subst hj
    have hl : i < ρ.length := by
      have q := (List.getElem?_eq_some_iff.mp e).1
      rwa [List.length_set] at q
    rw [List.getElem?_set_self hl] at e
    cases e
    exact ⟨v, List.getElem?_set_self (by rw [h.len]; exact hl), r⟩
  · rw [List.getElem?_set_ne hj] at e ⊢
    exact h.at' j d' e
theorem SRep.unset {K : PySem.W.Frag} {G : Hp} {σ : Sl} {ρ : Env} (h : SRep K G σ ρ) (i : Nat) : SRep K G (σ.set i none) (ρ.set i none) := by
  refine ⟨by rw [List.length_set, List.length_set]; exact h.len, fun j d' e => ?_⟩
  by_cases hj : i = j
  · subst hj
    by_cases hl : i < ρ.length
    · rw [List.getElem?_set_self hl] at e
      cases e
    · rw [List.getElem?_eq_none (by rw [List.length_set]; omega)] at e
      cases e
  · rw [List.getElem?_set_ne hj] at e ⊢
    exact h.at' j d' e
/-- fewer slots known -/
theorem SRep.weak {K : PySem.W.Frag} {G : Hp} {σ : Sl} {ρ ρ' : Env} (h : SRep K G σ ρ) (hl : ρ'.length = ρ.length) (w : ∀ (i : Nat) d, ρ'[i]? = some (some d) → ρ[i]? = some (some d)) : SRep K G σ ρ' :=
  ⟨h.len.trans hl.symm, fun i d e => h.at' i d (w i d e)⟩

/-- what is wanted behind an expression, behind a raise -/
abbrev PD := D → Store → Prop
abbrev PX := Addr → Store → Prop
def Po (K : PySem.W.Frag) (G H : Hp) (L : Store) (P : PD) (Q : VK) : Prop := ∀ d v G' H' L', Nx G H L G' H' L' → Sat K G' H' L' → Rp K G' d v → P d L' → Q v H'
def Pe (K : PySem.W.Frag) (G H : Hp) (L : Store) (ex : PX) (W : WX) (σ : Sl) : Prop := ∀ C G' H' L', Nx G H L G' H' L' → Sat K G' H' L' → ex C L' → W (.ref C) none σ H'
/-- .. of statements: the names' values at the raise, too -/
abbrev PZ := Addr → Env → Store → Prop
abbrev onE (ex : PZ) (ρ : Env) : PX := fun C L' => ex C ρ L'
def PeS (K : PySem.W.Frag) (G H : Hp) (L : Store) (ex : PZ) (W : WX) : Prop := ∀ C σ' ρ' G' H' L', Nx G H L G' H' L' → Sat K G' H' L' → SRep K G' σ' ρ' → ex C ρ' L' → W (.ref C) none σ' H'
theorem Po.step {K : PySem.W.Frag} {G H G1 H1 : Hp} {L L1 : Store} {P : PD} {Q : VK} (h : Po K G H L P Q) (n : Nx G H L G1 H1 L1) : Po K G1 H1 L1 P Q := fun d v G' H' L' n' => h d v G' H' L' (n.trans n')
theorem Pe.step {K : PySem.W.Frag} {G H G1 H1 : Hp} {L L1 : Store} {ex : PX} {W : WX} {σ : Sl} (h : Pe K G H L ex W σ) (n : Nx G H L G1 H1 L1) : Pe K G1 H1 L1 ex W σ := fun C G' H' L' n' => h C G' H' L' (n.trans n')
theorem PeS.step {K : PySem.W.Frag} {G H G1 H1 : Hp} {L L1 : Store} {ex : PZ} {W : WX} (h : PeS K G H L ex W) (n : Nx G H L G1 H1 L1) : PeS K G1 H1 L1 ex W := fun C σ' ρ' G' H' L' n' => h C σ' ρ' G' H' L' (n.trans n')
theorem PeS.at' {K : PySem.W.Frag} {G H : Hp} {L : Store} {ex : PZ} {W : WX} {σ : Sl} {ρ : Env} (h : PeS K G H L ex W) (r : SRep K G σ ρ) : Pe K G H L (fun C L' => ex C ρ L') W σ := fun C G' H' L' n s q => h C σ ρ G' H' L' n s (r.mono n.g) q

/-! ### new things -/
section
variable {K : PySem.W.Frag} {G H : Hp} {L : Store}
theorem Sat.none_of (s : Sat K G H L) {p : Addr} (h : H p = none) : G p = none := by
  cases e : G p with
  | none => rfl
  | some o => rw [s.ex p o e] at h; cases h
theorem Sat.nin (s : Sat K G H L) {p : Addr} (h : H p = none) : p ∉ dom L := fun hm => by
  obtain ⟨⟨c, o⟩, h1, h2⟩ := List.mem_map.mp hm
  obtain ⟨_, u, h3, _⟩ := s.cl c o h1
  have e : c = p := h2
  rw [e, h] at h3
  cases h3
theorem Ex.both {G H : Hp} (e : Ex G H) (p : Addr) (o : HO) : Ex (upd G p o) (upd H p o) := fun a u h => by
  by_cases hp : a = p
  · subst hp; rw [upd_same] at h ⊢; exact h
  · rw [upd_ne hp] at h ⊢; exact e a u h
theorem Sat.ne_cell (s : Sat K G H L) {c p : Addr} {o : MO} (hm : (c, o) ∈ L) (h : H p = none) : c ≠ p := fun e => by
  obtain ⟨_, u, h3, _⟩ := s.cl c o hm
  rw [e, h] at h3
  cases h3
/-- a new object, frozen -/
theorem Sat.fresh (s : Sat K G H L) {p : Addr} (o : HO) (h : H p = none) : Nx G H L (upd G p o) (upd H p o) L ∧ Sat K (upd G p o) (upd H p o) L := by
  have gp := s.none_of h
  refine ⟨⟨.new gp, fun b u _ e => Ex.new h b u e, fun q hq => ?_, fun q h1 h2 h3 => ?_, fun q hq => .inl hq⟩, s.ex.both p o, s.nd, fun c m hm => ?_⟩
  · intro e
    cases e1 : H q with
    | none => exact hq e1
    | some u => rw [Ex.new h q u e1] at e; cases e
  · rw [upd_ne (fun e => h1 (by rw [e]; exact h))]; exact h3
  · obtain ⟨h1, u, h2, h3⟩ := s.cl c m hm
    have hc := s.ne_cell hm h
    exact ⟨by rw [upd_ne hc]; exact h1, u, by rw [upd_ne hc]; exact h2, h3.mono (.new gp)⟩
/-- a new object, a cell -/
theorem Sat.newCell (s : Sat K G H L) {p : Addr} {o : HO} {m : MO} (h : H p = none) (r : MRep K G m o) : Nx G H L G (upd H p o) ((p, m) :: L) ∧ Sat K G (upd H p o) ((p, m) :: L) := by
  have gp := s.none_of h
  refine ⟨⟨.refl G, fun b u _ e => Ex.new h b u e, fun q hq => ?_, fun q _ _ h3 => h3, fun q hq => ?_⟩, s.ex.trans (.new h), ?_, fun c m' hm => ?_⟩
  · intro e
    cases e1 : H q with
    | none => exact hq e1
    | some u => rw [Ex.new h q u e1] at e; cases e
  · rcases List.mem_cons.mp hq with e | e
    · exact .inr (by rw [e]; exact h)
    · exact .inl e
  · exact List.nodup_cons.mpr ⟨s.nin h, s.nd⟩
  · rcases List.mem_cons.mp hm with e | e
    · cases e
      exact ⟨gp, o, upd_same, r⟩
    · obtain ⟨h1, u, h2, h3⟩ := s.cl c m' e
      exact ⟨h1, u, by rw [upd_ne (s.ne_cell e h)]; exact h2, h3⟩
theorem mem_set {α : Type} {l : List α} {i : Nat} {x y : α} (h : y ∈ l.set i x) : y = x ∨ y ∈ l := by
  rcases List.mem_or_eq_of_mem_set h with h | h
  · exact .inr h
  · exact .inl h
theorem nodup_get {l : List Addr} (hN : l.Nodup) {i j : Nat} {x : Addr} (a : l[i]? = some x) (b : l[j]? = some x) : i = j := by
  obtain ⟨h1, e1⟩ := List.getElem?_eq_some_iff.mp a
  obtain ⟨h2, e2⟩ := List.getElem?_eq_some_iff.mp b
  exact (List.getElem_inj hN).mp (e1.trans e2.symm)
theorem dom_get {L : Store} {i : Nat} {c : Addr} {m : MO} (h : L[i]? = some (c, m)) : (dom L)[i]? = some c := by
  rw [List.getElem?_map, h]; rfl
theorem dom_set {L : Store} {i : Nat} {c : Addr} {m m' : MO} (h : L[i]? = some (c, m)) : dom (L.set i (c, m')) = dom L := by
  apply List.ext_getElem?
  intro j
  rw [List.getElem?_map, List.getElem?_map]
  by_cases e : i = j
  · subst e
    rw [List.getElem?_set_self (List.getElem?_eq_some_iff.mp h).1, h]
    rfl
  · rw [List.getElem?_set_ne e]
/-- a cell is written -/
theorem Sat.write (s : Sat K G H L) {i : Nat} {c : Addr} {m m' : MO} {o : HO} (h : L[i]? = some (c, m)) (r : MRep K G m' o) : Nx G H L G (upd H c o) (L.set i (c, m')) ∧ Sat K G (upd H c o) (L.set i (c, m')) := by
  have hm : (c, m) ∈ L := List.mem_of_getElem? h
  obtain ⟨g0, u0, hu0, _⟩ := s.cl c m hm
  have hd := dom_set (m' := m') h
  have hin : c ∈ dom L := List.mem_map.mpr ⟨_, hm, rfl⟩
  refine ⟨⟨.refl G, fun b u hb e => ?_, fun p hp => ?_, fun _ _ _ h3 => h3, fun p hp => .inl (by rw [hd] at hp; exact hp)⟩, fun a u e => ?_, by rw [hd]; exact s.nd, fun c' m2 hm2 => ?_⟩
  · rw [upd_ne (fun q => hb (by rw [q]; exact hin))]; exact e
  · by_cases q : p = c
    · subst q; rw [upd_same]; simp
    · rw [upd_ne q]; exact hp
  · rw [upd_ne (fun q => by rw [q, g0] at e; cases e)]; exact s.ex a u e
  · obtain ⟨j, hj⟩ := List.getElem?_of_mem hm2
    by_cases e : i = j
    · subst e
      rw [List.getElem?_set_self (List.getElem?_eq_some_iff.mp h).1] at hj
      cases hj
      exact ⟨g0, o, upd_same, r⟩
    · rw [List.getElem?_set_ne e] at hj
      obtain ⟨h1, u, h2, h3⟩ := s.cl c' m2 (List.mem_of_getElem? hj)
      refine ⟨h1, u, ?_, h3⟩
      rw [upd_ne (fun q => ?_)]
      · exact h2
      · subst q
        exact e (nodup_get s.nd (dom_get h) (dom_get hj))
theorem Sat.cell (s : Sat K G H L) {i : Nat} {c : Addr} {m : MO} (h : L[i]? = some (c, m)) : ∃ u, H c = some u ∧ MRep K G m u := (s.cl c m (List.mem_of_getElem? h)).2
/-- forgetting cells -/
theorem Sat.drop (s : Sat K G H L) {L' : Store} (h : L'.Sublist L) : Nx G H L G H L' ∧ Sat K G H L' := by
  have hd : (dom L').Sublist (dom L) := h.map _
  exact ⟨⟨.refl G, fun _ _ _ e => e, fun _ e => e, fun _ _ _ e => e, fun p hp => .inl (hd.subset hp)⟩, s.ex, s.nd.sublist hd, fun c o hm => s.cl c o (h.subset hm)⟩
/-- another order -/
theorem Sat.perm (s : Sat K G H L) {L' : Store} (h : L'.Perm L) : Nx G H L G H L' ∧ Sat K G H L' := by
  have hd : (dom L').Perm (dom L) := h.map _
  exact ⟨⟨.refl G, fun _ _ _ e => e, fun _ e => e, fun _ _ _ e => e, fun p hp => .inl (hd.subset hp)⟩, s.ex, (hd.nodup_iff).mpr s.nd, fun c o hm => s.cl c o (h.subset hm)⟩
/-- the frame -/
theorem Sat.frame {A F A' : Store} {G' H' : Hp} (s : Sat K G H (A ++ F)) (n : Nx G H A G' H' A') (s' : Sat K G' H' A') : Nx G H (A ++ F) G' H' (A' ++ F) ∧ Sat K G' H' (A' ++ F) := by
  have nd := s.nd
  have ed : dom (A ++ F) = dom A ++ dom F := List.map_append
  have ed' : dom (A' ++ F) = dom A' ++ dom F := List.map_append
  rw [ed] at nd
  obtain ⟨n1, n2, n3⟩ := List.nodup_append.mp nd
  have fF : ∀ c o, (c, o) ∈ F → c ∉ dom A ∧ G c = none ∧ ∃ u, H c = some u ∧ MRep K G o u := fun c o hm => by
    obtain ⟨h1, h2⟩ := s.cl c o (List.mem_append_right _ hm)
    exact ⟨fun q => n3 c q c (List.mem_map.mpr ⟨_, hm, rfl⟩) rfl, h1, h2⟩
  refine ⟨⟨n.g, fun b u hb e => n.k b u (fun q => hb (by rw [ed]; exact List.mem_append_left _ q)) e, n.d, fun p h1 h2 h3 => n.n p h1 (fun q => h2 (by rw [ed]; exact List.mem_append_left _ q)) h3, fun p hp => ?_⟩, s'.ex, ?_, fun c o hm => ?_⟩
  · rw [ed'] at hp
    rw [ed]
    rcases List.mem_append.mp hp with q | q
    · exact (n.l p q).imp (fun z => List.mem_append_left _ z) id
    · exact .inl (List.mem_append_right _ q)
  · rw [ed']
    refine List.nodup_append.mpr ⟨s'.nd, n2, fun a ha b hb e => ?_⟩
    subst e
    obtain ⟨⟨c, o⟩, hm, e2⟩ := List.mem_map.mp hb
    have e2' : c = a := e2
    subst e2'
    obtain ⟨f1, f2, u, f3, _⟩ := fF c o hm
    rcases n.l c ha with q | q
    · exact f1 q
    · rw [f3] at q; cases q
  · rcases List.mem_append.mp hm with q | q
    · exact s'.cl c o q
    · obtain ⟨f1, f2, u, f3, f4⟩ := fF c o q
      exact ⟨n.n c (by rw [f3]; simp) f1 f2, u, n.k c u f1 f3, f4.mono n.g⟩
end

/-! ### a part of the store by a mask -/
def pick : List Bool → Store → Store
  | [], _ => []
  | _, [] => []
  | true :: m, x :: L => x :: pick m L
  | false :: m, _ :: L => pick m L
def rest : List Bool → Store → Store
  | [], L => L
  | _, [] => []
  | true :: m, _ :: L => rest m L
  | false :: m, x :: L => x :: rest m L
def join : List Bool → Store → Store → Store
  | [], A, R => A ++ R
  | true :: m, a :: A, R => a :: join m A R
  | true :: m, [], R => join m [] R
  | false :: m, A, r :: R => r :: join m A R
  | false :: m, A, [] => join m A []
theorem pick_nil (m : List Bool) : pick m [] = [] := by cases m with
  | nil => rfl
  | cons b m => cases b <;> rfl
theorem pick_rest : ∀ (m : List Bool) (L : Store), (pick m L ++ rest m L).Perm L
  | [], L => List.Perm.refl _
  | true :: m, [] => List.Perm.refl _
  | false :: m, [] => List.Perm.refl _
  | true :: m, x :: L => (pick_rest m L).cons x
  | false :: m, x :: L => (List.perm_middle).trans ((pick_rest m L).cons x)
theorem join_perm : ∀ (m : List Bool) (A R : Store), (join m A R).Perm (A ++ R)
  | [], A, R => List.Perm.refl _
  | true :: m, a :: A, R => (join_perm m A R).cons a
  | true :: m, [], R => join_perm m [] R
  | false :: m, A, r :: R => by
    have h : join (false :: m) A (r :: R) = r :: join m A R := by cases A <;> rfl
    rw [h]
    exact ((join_perm m A R).cons r).trans List.perm_middle.symm
  | false :: m, A, [] => by
    have h : join (false :: m) A [] = join m A [] := by cases A <;> rfl
    rw [h]
    exact join_perm m A []
end MW

namespace MW
open PySem PySem.Spec PyProof.Rows L2

/-! ### the widest readings -/
def tw (X : Cx) (e : Expr) : TE := fun σ H Q => ∀ pins s, Inv X pins σ H s → wpAny (model X.prog X.w) X.A (eval e X.env) (EP X pins σ Q) X.xe s
def ttw (X : Cx) (e : Expr) : TT := fun σ H Q => ∀ pins s, Inv X pins σ H s → wpAny (model X.prog X.w) X.A (isTrue e X.env (eval e X.env)) (TP X pins σ Q) X.xe s
def taw (X : Cx) (es : List Expr) : TA := fun σ H Q => ∀ pos pins s, Inv X pins σ H s → wpAny (model X.prog X.w) X.A (spliced (backTo pos (starEach es X.env))) (AP X pins σ Q) X.xe s
def tsw (X : Cx) (st : Stmt) : TS := fun D σ H => ∀ pins s, Inv X pins σ H s → wpAny (model X.prog X.w) X.A (exec st X.env) (SP X pins D) X.xe s
def tbw (X : Cx) (st : List Stmt) : TS := fun D σ H => ∀ pins s, Inv X pins σ H s → wpAny (model X.prog X.w) X.A (execs st X.env) (SP X pins D) X.xe s
def tgw (X : Cx) (tg : Expr) : TG := fun v σ H Q => ∀ pins s u, Inv X pins σ H s → RelV v u → wpAny (model X.prog X.w) X.A (assign tg X.env u) (fun _ s' => ∃ σ' H', Inv X pins σ' H' s' ∧ Q σ' H') X.xe s
def tgsw (X : Cx) (ts : List Expr) : TGs := fun vs σ H Q => ∀ pins s us, Inv X pins σ H s → Vals vs us → wpAny (model X.prog X.w) X.A (assignInOrder ((assignEach ts X.env).map (·.2)) us) (fun _ s' => ∃ σ' H', Inv X pins σ' H' s' ∧ Q σ' H') X.xe s
section
variable {X : Cx} {e : Expr} {es : List Expr} {st : Stmt} {sts : List Stmt} {σ : Sl} {H : Hp}
theorem pe_tw : PE X e (tw X e) := ⟨fun pins s _ _ _ I h => h pins s I⟩
theorem pt_tw : PT X e (ttw X e) := ⟨fun pins s _ _ _ I h => h pins s I⟩
theorem pa_tw : PA X es (taw X es) := ⟨fun pos pins s _ _ _ I h => h pos pins s I⟩
theorem ps_tw : PS X st (tsw X st) := ⟨fun pins s _ _ _ I h => h pins s I⟩
theorem pb_tw : PSs X sts (tbw X sts) := ⟨fun pins s _ _ _ I h => h pins s I⟩
theorem pg_tw : PG X e (tgw X e) := ⟨fun pins s _ _ _ u _ I r h => h pins s u I r⟩
theorem pgs_tw : PGs X es (tgsw X es) := ⟨fun pins s _ _ _ us _ I r h => h pins s us I r⟩
theorem tw_of {t : TE} {Q : VK} (h : PE X e t) (q : t σ H Q) : tw X e σ H Q := fun pins s I => h.run pins s σ H Q I q
theorem ttw_of {t : TT} {Q : Bool → Hp → Prop} (h : PT X e t) (q : t σ H Q) : ttw X e σ H Q := fun pins s I => h.run pins s σ H Q I q
theorem taw_of {t : TA} {Q : List V → Hp → Prop} (h : PA X es t) (q : t σ H Q) : taw X es σ H Q := fun pos pins s I => h.run pos pins s σ H Q I q
theorem tsw_of {t : TS} {D : Ends} (h : PS X st t) (q : t D σ H) : tsw X st D σ H := fun pins s I => h.run pins s σ H D I q
theorem tbw_of {t : TS} {D : Ends} (h : PSs X sts t) (q : t D σ H) : tbw X sts D σ H := fun pins s I => h.run pins s σ H D I q
theorem tgw_of {t : TG} {v : V} {Q : Sl → Hp → Prop} (h : PG X e t) (q : t v σ H Q) : tgw X e v σ H Q := fun pins s u I r => h.run pins s σ H v u Q I r q
theorem tgsw_of {t : TGs} {vs : List V} {Q : Sl → Hp → Prop} (h : PGs X es t) (q : t vs σ H Q) : tgsw X es vs σ H Q := fun pins s us I r => h.run pins s σ H vs us Q I r q
end

/-! ### the judgements over plain data -/
def PoT (K : PySem.W.Frag) (G H : Hp) (L : Store) (P : Bool → Store → Prop) (Q : Bool → Hp → Prop) : Prop := ∀ b G' H' L', Nx G H L G' H' L' → Sat K G' H' L' → P b L' → Q b H'
def PoA (K : PySem.W.Frag) (G H : Hp) (L : Store) (P : List D → Store → Prop) (Q : List V → Hp → Prop) : Prop := ∀ ds vs G' H' L', Nx G H L G' H' L' → Sat K G' H' L' → RpL K G' ds vs → P ds L' → Q vs H'
def PoN (K : PySem.W.Frag) (G H : Hp) (L : Store) (P : Env → Store → Prop) (Q : Sl → Hp → Prop) : Prop := ∀ σ' ρ' G' H' L', Nx G H L G' H' L' → Sat K G' H' L' → SRep K G' σ' ρ' → P ρ' L' → Q σ' H'
theorem PoT.step {K : PySem.W.Frag} {G H G1 H1 : Hp} {L L1 : Store} {P : Bool → Store → Prop} {Q : Bool → Hp → Prop} (h : PoT K G H L P Q) (n : Nx G H L G1 H1 L1) : PoT K G1 H1 L1 P Q := fun d G' H' L' n' => h d G' H' L' (n.trans n')
theorem PoA.step {K : PySem.W.Frag} {G H G1 H1 : Hp} {L L1 : Store} {P : List D → Store → Prop} {Q : List V → Hp → Prop} (h : PoA K G H L P Q) (n : Nx G H L G1 H1 L1) : PoA K G1 H1 L1 P Q := fun d v G' H' L' n' => h d v G' H' L' (n.trans n')
theorem PoN.step {K : PySem.W.Frag} {G H G1 H1 : Hp} {L L1 : Store} {P : Env → Store → Prop} {Q : Sl → Hp → Prop} (h : PoN K G H L P Q) (n : Nx G H L G1 H1 L1) : PoN K G1 H1 L1 P Q := fun d v G' H' L' n' => h d v G' H' L' (n.trans n')
structure SK where
  nx : Env → Store → Prop
  rt : PD
  bk : Env → Store → Prop := fun _ _ => False
  ct : Env → Store → Prop := fun _ _ => False
  ex : PZ := fun _ _ _ => False
structure PoS (K : PySem.W.Frag) (G H : Hp) (L : Store) (W : WX) (κ : SK) (E : Ends) : Prop where
  nx : PoN K G H L κ.nx E.nx
  rt : Po K G H L κ.rt E.rt
  bk : PoN K G H L κ.bk E.bk
  ct : PoN K G H L κ.ct E.ct
  ex : PeS K G H L κ.ex W
theorem PoS.step {K : PySem.W.Frag} {G H G1 H1 : Hp} {L L1 : Store} {W : WX} {κ : SK} {E : Ends} (h : PoS K G H L W κ E) (n : Nx G H L G1 H1 L1) : PoS K G1 H1 L1 W κ E :=
  ⟨h.nx.step n, h.rt.step n, h.bk.step n, h.ct.step n, h.ex.step n⟩
section
variable (X : Cx) (W : WX)
def XE (e : Expr) (ρ : Env) (L : Store) (P : PD) (ex : PX) : Prop := ∀ G H σ Q, Sat X.K G H L → SRep X.K G σ ρ → Po X.K G H L P Q → Pe X.K G H L ex W σ → tw X e σ H Q
def XT (e : Expr) (ρ : Env) (L : Store) (P : Bool → Store → Prop) (ex : PX) : Prop := ∀ G H σ Q, Sat X.K G H L → SRep X.K G σ ρ → PoT X.K G H L P Q → Pe X.K G H L ex W σ → ttw X e σ H Q
def XA (es : List Expr) (ρ : Env) (L : Store) (P : List D → Store → Prop) (ex : PX) : Prop := ∀ G H σ Q, Sat X.K G H L → SRep X.K G σ ρ → PoA X.K G H L P Q → Pe X.K G H L ex W σ → taw X es σ H Q
def XS (st : Stmt) (ρ : Env) (L : Store) (κ : SK) : Prop := ∀ G H σ E, Sat X.K G H L → SRep X.K G σ ρ → PoS X.K G H L W κ E → tsw X st E σ H
def XB (sts : List Stmt) (ρ : Env) (L : Store) (κ : SK) : Prop := ∀ G H σ E, Sat X.K G H L → SRep X.K G σ ρ → PoS X.K G H L W κ E → tbw X sts E σ H
def XG (tg : Expr) (d : D) (ρ : Env) (L : Store) (P : Env → Store → Prop) (ex : PZ) : Prop := ∀ G H σ v Q, Sat X.K G H L → SRep X.K G σ ρ → Rp X.K G d v → PoN X.K G H L P Q → PeS X.K G H L ex W → tgw X tg v σ H Q
def XGs (tgs : List Expr) (ds : List D) (ρ : Env) (L : Store) (P : Env → Store → Prop) (ex : PZ) : Prop := ∀ G H σ vs Q, Sat X.K G H L → SRep X.K G σ ρ → RpL X.K G ds vs → PoN X.K G H L P Q → PeS X.K G H L ex W → tgsw X tgs vs σ H Q
end

section
variable {X : Cx} {W : WX} {a b c e : Expr} {es : List Expr} {ρ : Env} {L : Store} {P : PD} {ex : PX} {pos : Pos}
theorem XE.imp {P' : PD} (h : XE X W e ρ L P ex) (hp : ∀ d L', P d L' → P' d L') : XE X W e ρ L P' ex := fun G H σ Q s r p x =>
  h G H σ Q s r (fun d v G' H' L' n s' rd q => p d v G' H' L' n s' rd (hp _ _ q)) x
/-- a reading that leaves the state as it is -/
theorem xe_ret {t : TE} (h : PE X e t) {d : D} (hr : ∀ G H σ Q, Sat X.K G H L → SRep X.K G σ ρ → (∀ v, Rp X.K G d v → Q v H) → t σ H Q) (q : P d L) : XE X W e ρ L P ex := fun G H σ Q s r p _ =>
  tw_of h (hr G H σ Q s r fun v rv => p d v G H L (.refl _ _ _) s rv q)
/-- two in a row -/
theorem two {R : D → D → Store → Prop} {rr : V → V → Hp → Prop} {G H : Hp} {σ : Sl} (h : XE X W a ρ L (fun d1 L1 => XE X W b ρ L1 (fun d2 L2 => R d1 d2 L2) ex) ex) (s : Sat X.K G H L) (r : SRep X.K G σ ρ) (x : Pe X.K G H L ex W σ)
    (hr : ∀ d1 d2 v u G2 H2 L2, Nx G H L G2 H2 L2 → Sat X.K G2 H2 L2 → Rp X.K G2 d1 v → Rp X.K G2 d2 u → R d1 d2 L2 → rr v u H2) : tw X a σ H fun v H1 => tw X b σ H1 fun u H2 => rr v u H2 :=
  h G H σ _ s r (fun d1 v G1 H1 L1 n1 s1 r1 q1 => q1 G1 H1 σ _ s1 (r.mono n1.g) (fun d2 u G2 H2 L2 n2 s2 r2 q2 => hr d1 d2 v u G2 H2 L2 (n1.trans n2) s2 (r1.mono n2.g) r2 q2) (x.step n1)) x

/-! ### names, constants -/
theorem xe_var {i : Nat} {d : D} (h : PE X e (tVar i)) (hd : ρ[i]? = some (some d)) (q : P d L) : XE X W e ρ L P ex :=
  xe_ret h (fun G H σ Q s r k => let ⟨v, h1, h2⟩ := r.at' i d hd; ⟨v, h1, k v h2⟩) q
theorem xe_c {v : V} {d : D} (h : PE X e (tC v)) (hd : ∀ G, Rp X.K G d v) (q : P d L) : XE X W e ρ L P ex := xe_ret h (fun G H σ Q s r k => k v (hd G)) q
theorem xe_int {i : Int} {j : Nat} (q : P (.int i) L) : XE X W (.Constant (.int i) j pos) ρ L P ex := xe_c (d := .int i) pe_int (fun _ => rfl) q
theorem xe_bl {b : Bool} {j : Nat} (q : P (.bl b) L) : XE X W (.Constant (.bool b) j pos) ρ L P ex := xe_c (d := .bl b) pe_bl (fun _ => rfl) q
theorem xe_non {j : Nat} (q : P .non L) : XE X W (.Constant .none j pos) ρ L P ex := xe_c (d := .non) pe_non (fun _ => rfl) q
theorem xe_str {x : Str} {j : Nat} (q : P (.str x) L) : XE X W (.Constant (.str x) j pos) ρ L P ex := xe_c (d := .str x) pe_str (fun _ => rfl) q

/-! ### operators -/
def OpD (X : Cx) (f : Value → Value → Sem Value) (δ : D → D → Store → PD → Prop) : Prop :=
  ∃ r : R2, OpR X f r ∧ ∀ G H L d1 d2 v u P Q, Sat X.K G H L → Rp X.K G d1 v → Rp X.K G d2 u → δ d1 d2 L P → Po X.K G H L P Q → r v u H Q
theorem xe_bin {op : Operator} {δ : D → D → Store → PD → Prop} (ho : OpD X (binaryOp op) δ) (h : XE X W a ρ L (fun d1 L1 => XE X W b ρ L1 (fun d2 L2 => δ d1 d2 L2 P) ex) ex) : XE X W (.BinOp a op b pos) ρ L P ex := by
  obtain ⟨r, h1, h2⟩ := ho
  intro G H σ Q s rs p x
  exact tw_of (pe_op h1 pe_tw pe_tw) (two h s rs x fun d1 d2 v u G2 H2 L2 n s2 r1 r2 q => h2 G2 H2 L2 d1 d2 v u P Q s2 r1 r2 q (p.step n))
theorem xe_cmp {op : CmpOp} {δ : D → D → Store → PD → Prop} (ho : OpD X (compareOp op) δ) (hm : behindInMarks op b = false) (h : XE X W a ρ L (fun d1 L1 => XE X W b ρ L1 (fun d2 L2 => δ d1 d2 L2 P) ex) ex) : XE X W (.Compare a [op] [b] pos) ρ L P ex := by
  obtain ⟨r, h1, h2⟩ := ho
  intro G H σ Q s rs p x
  exact tw_of (pe_cmpR h1 pe_tw pe_tw hm) (two h s rs x fun d1 d2 v u G2 H2 L2 n s2 r1 r2 q => h2 G2 H2 L2 d1 d2 v u P Q s2 r1 r2 q (p.step n))
def isBl (d : D) (k : Bool → Prop) : Prop := match d with
  | .bl b => k b
  | _ => False
theorem isBl.get {d : D} {k : Bool → Prop} (h : isBl d k) : ∃ b, d = .bl b ∧ k b := by
  cases d with
  | bl b => exact ⟨b, rfl, h⟩
  | _ => exact h.elim
theorem xt_cmp {op : CmpOp} {δ : D → D → Store → PD → Prop} {P : Bool → Store → Prop} (ho : OpD X (compareOp op) δ) (hm : behindInMarks op b = false) (h : XE X W a ρ L (fun d1 L1 => XE X W b ρ L1 (fun d2 L2 => δ d1 d2 L2 (fun d L3 => isBl d fun k => P k L3)) ex) ex) :
    XT X W (.Compare a [op] [b] pos) ρ L P ex := by
  obtain ⟨r, h1, h2⟩ := ho
  intro G H σ Q s rs p x
  refine ttw_of (pt_cmpR h1 pe_tw pe_tw hm) (two h s rs x fun d1 d2 v u G2 H2 L2 n s2 r1 r2 q => h2 G2 H2 L2 d1 d2 v u _ _ s2 r1 r2 q ?_)
  intro d z G3 H3 L3 n3 s3 r3 q3
  replace q3 := q3.get
  obtain ⟨k, rfl, q3⟩ := q3
  exact ⟨k, r3, p k G3 H3 L3 (n.trans n3) s3 q3⟩
/-- a op b op' c -/
theorem xe_chain {op op' : CmpOp} {δ δ' : D → D → Store → PD → Prop} (ho : OpD X (compareOp op) δ) (ho' : OpD X (compareOp op') δ') (hm : lastMarks [op, op'] [b, c] = false)
    (h : XE X W a ρ L (fun d1 L1 => XE X W b ρ L1 (fun d2 L2 => δ d1 d2 L2 (fun d L3 => isBl d fun k => if k = true then XE X W c ρ L3 (fun d3 L4 => δ' d2 d3 L4 P) ex else P (.bl false) L3)) ex) ex) : XE X W (.Compare a [op, op'] [b, c] pos) ρ L P ex := by
  obtain ⟨r, h1, h2⟩ := ho
  obtain ⟨r', h1', h2'⟩ := ho'
  intro G H σ Q s rs p x
  refine tw_of (pe_chain h1 h1' pe_tw pe_tw pe_tw hm) (two h s rs x fun d1 d2 v u G2 H2 L2 n s2 r1 r2 q => h2 G2 H2 L2 d1 d2 v u _ _ s2 r1 r2 q ?_)
  intro d z G3 H3 L3 n3 s3 r3 q3
  replace q3 := q3.get
  obtain ⟨k, rfl, q3⟩ := q3
  refine ⟨k, r3, ?_⟩
  cases k with
  | true =>
    rw [if_pos rfl] at q3 ⊢
    exact q3 G3 H3 σ _ s3 (rs.mono (n.g.trans n3.g)) (fun d3 y G4 H4 L4 n4 s4 r4 q4 => h2' G4 H4 L4 d2 d3 u y P Q s4 (r2.mono (n3.g.trans n4.g)) r4 q4 (p.step ((n.trans n3).trans n4))) (x.step (n.trans n3))
  | false =>
    rw [if_neg (by decide)] at q3 ⊢
    exact p (.bl false) _ G3 H3 L3 (n.trans n3) s3 rfl q3
theorem xt_chain {op op' : CmpOp} {δ δ' : D → D → Store → PD → Prop} {P : Bool → Store → Prop} (ho : OpD X (compareOp op) δ) (ho' : OpD X (compareOp op') δ') (hm : lastMarks [op, op'] [b, c] = false)
    (h : XE X W a ρ L (fun d1 L1 => XE X W b ρ L1 (fun d2 L2 => δ d1 d2 L2 (fun d L3 => isBl d fun k => if k = true then XE X W c ρ L3 (fun d3 L4 => δ' d2 d3 L4 (fun d L5 => isBl d fun k => P k L5)) ex else P false L3)) ex) ex) : XT X W (.Compare a [op, op'] [b, c] pos) ρ L P ex := by
  obtain ⟨r, h1, h2⟩ := ho
  obtain ⟨r', h1', h2'⟩ := ho'
  intro G H σ Q s rs p x
  refine ttw_of (pt_chain h1 h1' pe_tw pe_tw pe_tw hm) (two h s rs x fun d1 d2 v u G2 H2 L2 n s2 r1 r2 q => h2 G2 H2 L2 d1 d2 v u _ _ s2 r1 r2 q ?_)
  intro d z G3 H3 L3 n3 s3 r3 q3
  replace q3 := q3.get
  obtain ⟨k, rfl, q3⟩ := q3
  refine ⟨k, r3, ?_⟩
  cases k with
  | true =>
    rw [if_pos rfl] at q3 ⊢
    refine q3 G3 H3 σ _ s3 (rs.mono (n.g.trans n3.g)) (fun d3 y G4 H4 L4 n4 s4 r4 q4 => h2' G4 H4 L4 d2 d3 u y _ _ s4 (r2.mono (n3.g.trans n4.g)) r4 q4 ?_) (x.step (n.trans n3))
    intro d' z' G5 H5 L5 n5 s5 r5 q5
    replace q5 := q5.get
    obtain ⟨k', rfl, q5⟩ := q5
    exact ⟨k', r5, p k' G5 H5 L5 (((n.trans n3).trans n4).trans n5) s5 q5⟩
  | false =>
    rw [if_neg (by decide)] at q3 ⊢
    exact ⟨false, rfl, p _ G3 H3 L3 (n.trans n3) s3 q3⟩
theorem xe_un {op : UnaryOp} {r : V → Hp → VK → Prop} {δ : D → Store → PD → Prop} (ho : UnR X (unaryOp op) r) (hd : ∀ G H L d v P Q, Sat X.K G H L → Rp X.K G d v → δ d L P → Po X.K G H L P Q → r v H Q) (h : XE X W a ρ L (fun d L1 => δ d L1 P) ex) : XE X W (.UnaryOp op a pos) ρ L P ex := by
  intro G H σ Q s rs p x
  exact tw_of (pe_un ho pe_tw) (h G H σ _ s rs (fun d v G1 H1 L1 n s1 r1 q => hd G1 H1 L1 d v P Q s1 r1 q (p.step n)) x)

/-! ### tests -/
/-- a value's test, where it is True or False -/
theorem xt_val {P : Bool → Store → Prop} (he : ∀ whole, isTrue e X.env whole = (do let v ← whole; standAt e.pos; holding [v] (truthy v))) (h : XE X W e ρ L (fun d L1 => isBl d fun k => P k L1) ex) : XT X W e ρ L P ex := by
  intro G H σ Q s rs p x
  refine ttw_of (pt_val pe_tw he) (h G H σ _ s rs (fun d v G1 H1 L1 n s1 r1 q => ?_) x)
  replace q := q.get
  obtain ⟨k, rfl, q⟩ := q
  exact ⟨k, r1, p k G1 H1 L1 n s1 q⟩
/-- truth of a datum -/
def truD (d : D) (L : Store) (k : Bool → Prop) : Prop := match d with
  | .non => k false
  | .bl b => k b
  | .int i => k (i != 0)
  | .str s => s.length ≤ sizeLine ∧ k ((s.length : Int) != 0)
  | .tup l => k (!l.isEmpty)
  | .lst l => k (!l.isEmpty)
  | .sq l => k (!l.isEmpty)
  | .cell c => ∃ (i : Nat) (l : List D), L[i]? = some (c, MO.lst l) ∧ k (!l.isEmpty)
  | _ => False
theorem RpL.emp {K : PySem.W.Frag} {G : Hp} {l : List D} {vs : List V} (h : RpL K G l vs) : vs.isEmpty = l.isEmpty := by
  cases l with
  | nil =>
    have e : vs = [] := h
    subst e; rfl
  | cons d ds =>
    obtain ⟨v, r, e1, _⟩ := h
    subst e1; rfl
theorem truD.ok {K : PySem.W.Frag} {G H : Hp} {L : Store} {d : D} {v : V} {k : Bool → Prop} (s : Sat K G H L) (r : Rp K G d v) (h : truD d L k) : ∃ b, TruV K v H b ∧ k b := by
  cases d with
  | non => have e : v = .non := r; subst e; exact ⟨_, rfl, h⟩
  | bl b => have e : v = .bl b := r; subst e; exact ⟨_, rfl, h⟩
  | int i => have e : v = .int i := r; subst e; exact ⟨_, rfl, h⟩
  | str x => have e : v = .str x := r; subst e; exact ⟨_, ⟨h.1, rfl⟩, h.2⟩
  | tup l =>
    obtain ⟨a, vs, e, h1, h2⟩ := r
    subst e
    exact ⟨_, .inr (.inl ⟨vs, SqT.of (s.ex _ _ h1), rfl⟩), by rw [h2.emp]; exact h⟩
  | lst l =>
    obtain ⟨a, vs, e, h1, h2⟩ := r
    subst e
    exact ⟨_, .inl ⟨vs, SqL.of (s.ex _ _ h1), rfl⟩, by rw [h2.emp]; exact h⟩
  | sq l =>
    obtain ⟨a, vs, e, h1, h2⟩ := r
    subst e
    exact ⟨_, .inl ⟨vs, s.ex.sqL h1, rfl⟩, by rw [h2.emp]; exact h⟩
  | cell c =>
    have e : v = .ref c := r
    subst e
    obtain ⟨i, l, h1, h2⟩ := h
    obtain ⟨u, hu, vs, e2, h3⟩ := s.cell h1
    subst e2
    exact ⟨_, .inl ⟨vs, SqL.of hu, rfl⟩, by rw [h3.emp]; exact h2⟩
  | _ => exact h.elim
theorem xt_tru {P : Bool → Store → Prop} (he : ∀ whole, isTrue e X.env whole = (do let v ← whole; standAt e.pos; holding [v] (truthy v))) (h : XE X W e ρ L (fun d L1 => truD d L1 fun k => P k L1) ex) : XT X W e ρ L P ex := by
  intro G H σ Q s rs p x
  refine ttw_of (pt_truth pe_tw he) (h G H σ _ s rs (fun d v G1 H1 L1 n s1 r1 q => ?_) x)
  obtain ⟨k, h1, h2⟩ := truD.ok s1 r1 q
  exact ⟨k, h1, p k G1 H1 L1 n s1 h2⟩
theorem xt_not {P : Bool → Store → Prop} (h : XT X W a ρ L (fun k L1 => P (!k) L1) ex) : XT X W (.UnaryOp .Not a pos) ρ L P ex := by
  intro G H σ Q s rs p x
  exact ttw_of (pt_not pt_tw) (h G H σ _ s rs (fun k G1 H1 L1 n s1 q => p (!k) G1 H1 L1 n s1 q) x)
theorem pw_ttw {op : BoolOp} : PW X (.BoolOp op es pos) (fun σ H Q => ∀ whole pins s, Inv X pins σ H s → wpAny (model X.prog X.w) X.A (isTrue (.BoolOp op es pos) X.env whole) (TP X pins σ Q) X.xe s) := ⟨fun wh pins s _ _ _ I h => h wh pins s I⟩
/-- and, or as tests, whatever the whole is -/
def XW (X : Cx) (W : WX) (e : Expr) (ρ : Env) (L : Store) (P : Bool → Store → Prop) (ex : PX) : Prop :=
  ∀ G H σ Q, Sat X.K G H L → SRep X.K G σ ρ → PoT X.K G H L P Q → Pe X.K G H L ex W σ → ∀ whole pins s, Inv X pins σ H s → wpAny (model X.prog X.w) X.A (isTrue e X.env whole) (TP X pins σ Q) X.xe s
theorem xt_w {P : Bool → Store → Prop} (h : XW X W e ρ L P ex) : XT X W e ρ L P ex := fun G H σ Q s rs p x pins sh I => h G H σ Q s rs p x _ pins sh I
theorem xw_and1 {P : Bool → Store → Prop} (h : XT X W a ρ L P ex) : XW X W (.BoolOp .And [a] pos) ρ L P ex := fun G H σ Q s rs p x wh pins sh I =>
  (pw_and1 pt_tw).run wh pins sh σ H Q I (h G H σ Q s rs p x)
theorem xw_or1 {P : Bool → Store → Prop} (h : XT X W a ρ L P ex) : XW X W (.BoolOp .Or [a] pos) ρ L P ex := fun G H σ Q s rs p x wh pins sh I =>
  (pw_or1 pt_tw).run wh pins sh σ H Q I (h G H σ Q s rs p x)
theorem xw_and {P : Bool → Store → Prop} (h : XT X W a ρ L (fun k L1 => if k = true then XW X W (.BoolOp .And (b :: es) pos) ρ L1 P ex else P false L1) ex) : XW X W (.BoolOp .And (a :: b :: es) pos) ρ L P ex := fun G H σ Q s rs p x wh pins sh I => by
  refine (pw_and pt_tw pw_ttw).run wh pins sh σ H Q I (h G H σ _ s rs (fun k G1 H1 L1 n s1 q => ?_) x)
  cases k with
  | true =>
    rw [if_pos rfl] at q ⊢
    exact fun wh pins s2 I2 => q G1 H1 σ Q s1 (rs.mono n.g) (p.step n) (x.step n) wh pins s2 I2
  | false =>
    rw [if_neg (by decide)] at q ⊢
    exact p false G1 H1 L1 n s1 q
theorem xw_or {P : Bool → Store → Prop} (h : XT X W a ρ L (fun k L1 => if k = true then P true L1 else XW X W (.BoolOp .Or (b :: es) pos) ρ L1 P ex) ex) : XW X W (.BoolOp .Or (a :: b :: es) pos) ρ L P ex := fun G H σ Q s rs p x wh pins sh I => by
  refine (pw_or pt_tw pw_ttw).run wh pins sh σ H Q I (h G H σ _ s rs (fun k G1 H1 L1 n s1 q => ?_) x)
  cases k with
  | true =>
    rw [if_pos rfl] at q ⊢
    exact p true G1 H1 L1 n s1 q
  | false =>
    rw [if_neg (by decide)] at q ⊢
    exact fun wh pins s2 I2 => q G1 H1 σ Q s1 (rs.mono n.g) (p.step n) (x.step n) wh pins s2 I2
/-- .. as values, of truths -/
theorem xe_one {op : BoolOp} (h : XE X W a ρ L P ex) : XE X W (.BoolOp op [a] pos) ρ L P ex := fun G H σ Q s rs p x => tw_of (pe_one pe_tw) (h G H σ Q s rs p x)
theorem xe_and (h : XE X W a ρ L (fun d L1 => isBl d fun k => if k = true then XE X W (.BoolOp .And (b :: es) pos) ρ L1 P ex else P (.bl false) L1) ex) : XE X W (.BoolOp .And (a :: b :: es) pos) ρ L P ex := fun G H σ Q s rs p x => by
  refine tw_of (pe_and pe_tw pe_tw) (h G H σ _ s rs (fun d v G1 H1 L1 n s1 r1 q => ?_) x)
  replace q := q.get
  obtain ⟨k, rfl, q⟩ := q
  refine ⟨k, r1, ?_⟩
  cases k with
  | true =>
    rw [if_pos rfl] at q ⊢
    exact q G1 H1 σ Q s1 (rs.mono n.g) (p.step n) (x.step n)
  | false =>
    rw [if_neg (by decide)] at q ⊢
    exact p (.bl _) _ G1 H1 L1 n s1 rfl q
theorem xe_or (h : XE X W a ρ L (fun d L1 => isBl d fun k => if k = true then P (.bl true) L1 else XE X W (.BoolOp .Or (b :: es) pos) ρ L1 P ex) ex) : XE X W (.BoolOp .Or (a :: b :: es) pos) ρ L P ex := fun G H σ Q s rs p x => by
  refine tw_of (pe_or pe_tw pe_tw) (h G H σ _ s rs (fun d v G1 H1 L1 n s1 r1 q => ?_) x)
  replace q := q.get
  obtain ⟨k, rfl, q⟩ := q
  refine ⟨k, r1, ?_⟩
  cases k with
  | true =>
    rw [if_pos rfl] at q ⊢
    exact p (.bl _) _ G1 H1 L1 n s1 rfl q
  | false =>
    rw [if_neg (by decide)] at q ⊢
    exact q G1 H1 σ Q s1 (rs.mono n.g) (p.step n) (x.step n)
theorem xe_not (h : XE X W a ρ L (fun d L1 => isBl d fun k => P (.bl (!k)) L1) ex) : XE X W (.UnaryOp .Not a pos) ρ L P ex := fun G H σ Q s rs p x => by
  refine tw_of (pe_not pe_tw) (h G H σ _ s rs (fun d v G1 H1 L1 n s1 r1 q => ?_) x)
  replace q := q.get
  obtain ⟨k, rfl, q⟩ := q
  exact ⟨k, r1, p (.bl (!k)) _ G1 H1 L1 n s1 rfl q⟩
theorem xe_if (h : XT X W c ρ L (fun k L1 => if k = true then XE X W a ρ L1 P ex else XE X W b ρ L1 P ex) ex) : XE X W (.IfExp c a b pos) ρ L P ex := fun G H σ Q s rs p x => by
  refine tw_of (pe_ifExp pt_tw pe_tw pe_tw) (h G H σ _ s rs (fun k G1 H1 L1 n s1 q => ?_) x)
  cases k with
  | true =>
    rw [if_pos rfl] at q ⊢
    exact q G1 H1 σ Q s1 (rs.mono n.g) (p.step n) (x.step n)
  | false =>
    rw [if_neg (by decide)] at q ⊢
    exact q G1 H1 σ Q s1 (rs.mono n.g) (p.step n) (x.step n)

/-! ### argument lists -/
theorem xa_nil {P : List D → Store → Prop} (q : P [] L) : XA X W [] ρ L P ex := fun G H σ Q s rs p x => taw_of pa_nil (p [] [] G H L (.refl _ _ _) s rfl q)
theorem xa_cons {P : List D → Store → Prop} (h : XE X W e ρ L (fun d L1 => XA X W es ρ L1 (fun ds L2 => P (d :: ds) L2) ex) ex) (hs : starEach (e :: es) X.env = (false, eval e X.env) :: starEach es X.env := by rfl) : XA X W (e :: es) ρ L P ex := fun G H σ Q s rs p x =>
  taw_of (pa_cons pe_tw pa_tw hs) (h G H σ _ s rs (fun d v G1 H1 L1 n s1 r1 q1 => q1 G1 H1 σ _ s1 (rs.mono n.g) (fun ds vs G2 H2 L2 n2 s2 r2 q2 => p (d :: ds) (v :: vs) G2 H2 L2 (n.trans n2) s2 ⟨v, vs, rfl, r1.mono n2.g, r2⟩ q2) (x.step n)) x)

/-! ### displays -/
theorem xe_tup {x1} (h : XA X W es ρ L (fun ds L1 => ds.length ≤ sizeLine ∧ P (.tup ds) L1) ex) : XE X W (.Tuple es x1 pos) ρ L P ex := fun G H σ Q s rs p x =>
  tw_of (pe_tup pa_tw) (h G H σ _ s rs (fun ds vs G1 H1 L1 n s1 r1 q => ⟨by rw [r1.len]; exact q.1, fun a ha => by
    obtain ⟨n2, s2⟩ := s1.fresh (.tup vs) ha
    exact p (.tup ds) _ _ _ L1 (n.trans n2) s2 ⟨a, vs, rfl, upd_same, r1.mono n2.g⟩ q.2⟩) x)
/-- a list, frozen | a cell -/
theorem xe_lst (h : XA X W es ρ L (fun ds L1 => ds.length ≤ sizeLine ∧ P (.lst ds) L1) ex) : XE X W (.List es pos) ρ L P ex := fun G H σ Q s rs p x =>
  tw_of (pe_lst pa_tw) (h G H σ _ s rs (fun ds vs G1 H1 L1 n s1 r1 q => ⟨by rw [r1.len]; exact q.1, fun a ha => by
    obtain ⟨n2, s2⟩ := s1.fresh (.lst vs) ha
    exact p (.lst ds) _ _ _ L1 (n.trans n2) s2 ⟨a, vs, rfl, upd_same, r1.mono n2.g⟩ q.2⟩) x)
theorem xe_lstC (h : XA X W es ρ L (fun ds L1 => ds.length ≤ sizeLine ∧ ∀ a, P (.cell a) ((a, .lst ds) :: L1)) ex) : XE X W (.List es pos) ρ L P ex := fun G H σ Q s rs p x =>
  tw_of (pe_lst pa_tw) (h G H σ _ s rs (fun ds vs G1 H1 L1 n s1 r1 q => ⟨by rw [r1.len]; exact q.1, fun a ha => by
    obtain ⟨n2, s2⟩ := s1.newCell (m := .lst ds) (o := .lst vs) ha ⟨vs, rfl, r1⟩
    exact p (.cell a) _ _ _ _ (n.trans n2) s2 rfl (q.2 a)⟩) x)
theorem xe_dnewT (h : ∀ a, P (.cell a) ((a, .dT []) :: L)) : XE X W (.Dict [] [] pos) ρ L P ex := fun G H σ Q s rs p x =>
  tw_of pe_dnewT fun a ha => by
    obtain ⟨n2, s2⟩ := s.newCell (m := .dT []) (o := .dT []) ha ⟨[], rfl, .nil⟩
    exact p (.cell a) _ _ _ _ n2 s2 rfl (h a)
theorem xe_dnewK (h : ∀ a, P (.cell a) ((a, .dK []) :: L)) : XE X W (.Dict [] [] pos) ρ L P ex := fun G H σ Q s rs p x =>
  tw_of pe_dnewK fun a ha => by
    obtain ⟨n2, s2⟩ := s.newCell (m := .dK []) (o := .dK []) ha ⟨[], rfl, .nil⟩
    exact p (.cell a) _ _ _ _ n2 s2 rfl (h a)
end
end MW

namespace MW
open PySem PySem.Spec PyProof.Rows L2

section
variable {X : Cx} {W : WX} {a b c e tg iter : Expr} {es : List Expr} {st : Stmt} {sts sts' : List Stmt} {ρ : Env} {L : Store} {P : PD} {ex : PX} {κ : SK} {pos : Pos}
/-! ### the store otherwise -/
theorem XE.perm {L' : Store} (h : XE X W e ρ L' P ex) (hp : L'.Perm L) : XE X W e ρ L P ex := fun G H σ Q s r p x => by
  obtain ⟨n1, s1⟩ := s.perm hp
  exact h G H σ Q s1 r (p.step n1) (x.step n1)
theorem XE.frame {A F : Store} (h : XE X W e ρ A (fun d A' => P d (A' ++ F)) (fun C A' => ex C (A' ++ F))) : XE X W e ρ (A ++ F) P ex := fun G H σ Q s r p x => by
  have sA : Sat X.K G H A := (s.drop (List.sublist_append_left A F)).2
  refine h G H σ Q sA r (fun d v G' H' L' n s' rd q => ?_) (fun C G' H' L' n s' q => ?_)
  · obtain ⟨n2, s2⟩ := s.frame n s'
    exact p d v G' H' _ n2 s2 rd q
  · obtain ⟨n2, s2⟩ := s.frame n s'
    exact x C G' H' _ n2 s2 q
theorem Po.perm {K : PySem.W.Frag} {G H : Hp} {L : Store} {Q : VK} (h : Po K G H L P Q) (hp : ∀ d (L1 L2 : Store), L1.Perm L2 → P d L1 → P d L2) : True := trivial
/-- an expression asked over a part of the store -/
theorem XE.mask (m : List Bool) (h : XE X W e ρ (pick m L) (fun d A => P d (join m A (rest m L))) (fun C A => ex C (join m A (rest m L)))) : XE X W e ρ L P ex := fun G H σ Q s r p x => by
  obtain ⟨n0, s0⟩ := s.perm (pick_rest m L)
  have sA : Sat X.K G H (pick m L) := (s0.drop (List.sublist_append_left _ _)).2
  refine h G H σ Q sA r (fun d v G' H' L' n s' rd q => ?_) (fun C G' H' L' n s' q => ?_)
  · obtain ⟨n2, s2⟩ := s0.frame n s'
    obtain ⟨n3, s3⟩ := s2.perm (join_perm m L' (rest m L))
    exact p d v G' H' _ ((n0.trans n2).trans n3) s3 rd q
  · obtain ⟨n2, s2⟩ := s0.frame n s'
    obtain ⟨n3, s3⟩ := s2.perm (join_perm m L' (rest m L))
    exact x C G' H' _ ((n0.trans n2).trans n3) s3 q
/-- cells may be forgotten behind an expression -/
theorem XE.drop (h : XE X W e ρ L (fun d L1 => ∃ L2 : Store, L2.Sublist L1 ∧ P d L2) ex) : XE X W e ρ L P ex := fun G H σ Q s r p x =>
  h G H σ Q s r (fun d v G' H' L' n s' rd ⟨L2, hs, q⟩ => by
    obtain ⟨n2, s2⟩ := s'.drop hs
    exact p d v G' H' _ (n.trans n2) s2 rd q) x

/-! ### statements -/
theorem xb_nil (q : κ.nx ρ L) : XB X W [] ρ L κ := fun G H σ E s r p => tbw_of pss_nil (p.nx σ ρ G H L (.refl _ _ _) s r q)
theorem xb_cons (h : XS X W st ρ L { κ with nx := fun ρ' L' => XB X W sts ρ' L' κ }) : XB X W (st :: sts) ρ L κ := fun G H σ E s r p =>
  tbw_of (pss_cons ps_tw pb_tw) (h G H σ _ s r ⟨fun σ' ρ' G' H' L' n s' r' q => q G' H' σ' E s' r' (p.step n), p.rt, p.bk, p.ct, p.ex⟩)
theorem xb_one (h : XS X W st ρ L κ) : XB X W [st] ρ L κ := fun G H σ E s r p => tbw_of (pss_one ps_tw) (h G H σ E s r p)
/-- behind a statement that never ends in the next one -/
theorem xb_perm {L' : Store} (h : XB X W sts ρ L' κ) (hp : L'.Perm L) : XB X W sts ρ L κ := fun G H σ E s r p => by
  obtain ⟨n1, s1⟩ := s.perm hp
  exact h G H σ E s1 r (p.step n1)
theorem xb_drop {L' : Store} (h : XB X W sts ρ L' κ) (hp : L'.Sublist L) : XB X W sts ρ L κ := fun G H σ E s r p => by
  obtain ⟨n1, s1⟩ := s.drop hp
  exact h G H σ E s1 r (p.step n1)
theorem xb_weak {ρ' : Env} (h : XB X W sts ρ' L κ) (hl : ρ'.length = ρ.length) (w : ∀ (i : Nat) d, ρ'[i]? = some (some d) → ρ[i]? = some (some d)) : XB X W sts ρ L κ := fun G H σ E s r p => h G H σ E s (r.weak hl w) p
theorem xs_pass (q : κ.nx ρ L) : XS X W (.Pass pos) ρ L κ := fun G H σ E s r p => tsw_of ps_pass (p.nx σ ρ G H L (.refl _ _ _) s r q)
theorem xs_expr (h : XE X W e ρ L (fun _ L1 => κ.nx ρ L1) (onE κ.ex ρ)) (hs : swapsWith e none pos.line X.env = pure false := by rfl) : XS X W (.Expr e pos) ρ L κ := fun G H σ E s r p =>
  tsw_of (ps_expr pe_tw hs) (h G H σ _ s r (fun d v G' H' L' n s' rd q => p.nx σ ρ G' H' L' n s' (r.mono n.g) q) (p.ex.at' r))
theorem xs_ret (h : XE X W e ρ L κ.rt (onE κ.ex ρ)) : XS X W (.Return (some e) pos) ρ L κ := fun G H σ E s r p => tsw_of (ps_ret pe_tw) (h G H σ _ s r p.rt (p.ex.at' r))
/-- handed back, some cells forgotten -/
theorem xs_retD (h : XE X W e ρ L (fun d L1 => ∃ L2 : Store, L2.Sublist L1 ∧ κ.rt d L2) (onE κ.ex ρ)) : XS X W (.Return (some e) pos) ρ L κ := xs_ret (XE.drop h)
theorem xs_if (h : XT X W c ρ L (fun k L1 => if k = true then XB X W sts ρ L1 κ else XB X W sts' ρ L1 κ) (onE κ.ex ρ)) : XS X W (.If c sts sts' pos) ρ L κ := fun G H σ E s r p => by
  refine tsw_of (ps_if pt_tw pb_tw pb_tw) (h G H σ _ s r (fun k G1 H1 L1 n s1 q => ?_) (p.ex.at' r))
  cases k with
  | true =>
    rw [if_pos rfl] at q ⊢
    exact q G1 H1 σ E s1 (r.mono n.g) (p.step n)
  | false =>
    rw [if_neg (by decide)] at q ⊢
    exact q G1 H1 σ E s1 (r.mono n.g) (p.step n)
theorem xs_brk (q : κ.bk ρ L) : XS X W (.Break pos) ρ L κ := fun G H σ E s r p => tsw_of ps_break (p.bk σ ρ G H L (.refl _ _ _) s r q)
theorem xs_asg (h : XE X W e ρ L (fun d L1 => XG X W tg d ρ L1 κ.nx κ.ex) (onE κ.ex ρ)) (hs : swapsWithSole [tg] e pos.line X.env = pure false := by rfl) (hw : swappedStores [tg] e X.env = pure none := by rfl)
    (h1 : (assignEach [tg] X.env).map (·.2) = [assign tg X.env] := by rfl) : XS X W (.Assign [tg] e pos) ρ L κ := fun G H σ E s r p =>
  tsw_of (ps_asg pe_tw pg_tw hs hw h1) (h G H σ _ s r (fun d v G' H' L' n s' rd q => q G' H' σ v _ s' (r.mono n.g) rd (p.nx.step n) (p.ex.step n)) (p.ex.at' r))

/-! ### targets -/
theorem xg_name {ez : PZ} {i : Nat} {d : D} {P : Env → Store → Prop} (h : PG X e (gName i)) (q : P (ρ.set i (some d)) L) : XG X W e d ρ L P ez := fun G H σ v Q s r rd p _ =>
  tgw_of h (p (σ.set i (some v)) _ G H L (.refl _ _ _) s (r.set i rd) q)
theorem xgs_nil {ez : PZ} {P : Env → Store → Prop} (q : P ρ L) : XGs X W [] [] ρ L P ez := fun G H σ vs Q s r rd p _ => tgsw_of pgs_nil ⟨rd, p σ ρ G H L (.refl _ _ _) s r q⟩
theorem xgs_cons {ez : PZ} {d : D} {ds : List D} {P : Env → Store → Prop} (h : XG X W e d ρ L (fun ρ1 L1 => XGs X W es ds ρ1 L1 P ez) ez)
    (hs : (assignEach (e :: es) X.env).map (·.2) = assign e X.env :: (assignEach es X.env).map (·.2) := by rfl) : XGs X W (e :: es) (d :: ds) ρ L P ez := fun G H σ vs Q s r rd p x => by
  obtain ⟨v, us, e1, h1, h2⟩ := rd
  refine tgsw_of (pgs_cons pg_tw pgs_tw hs) ⟨v, us, e1, h G H σ v _ s r h1 (fun σ' ρ' G' H' L' n s' r' q => q G' H' σ' us Q s' r' (h2.mono n.g) (p.step n) (x.step n)) x⟩
def isTup (d : D) (k : List D → Prop) : Prop := match d with
  | .tup l => k l
  | _ => False
theorem isTup.get {d : D} {k : List D → Prop} (h : isTup d k) : ∃ l, d = .tup l ∧ k l := by
  cases d with
  | tup l => exact ⟨l, rfl, h⟩
  | _ => exact h.elim
theorem xg_tup {ez : PZ} {d : D} {P : Env → Store → Prop} {k n : Nat} (hc : X.calm = true) (h : isTup d fun l => l.length = n ∧ XGs X W es l ρ L P ez)
    (hn : (assignEach es X.env).length = n := by rfl) (hst : (assignEach es X.env).findIdx? (·.1) = none := by rfl) : XG X W (.Tuple es k pos) d ρ L P ez := fun G H σ v Q s r rd p x => by
  obtain ⟨l, rfl, hl, h⟩ := h.get
  obtain ⟨a, vs, e1, h1, h2⟩ := rd
  exact tgw_of (pg_tup hc pgs_tw hn hst) ⟨a, vs, e1, SqT.of (s.ex _ _ h1), by rw [h2.len]; exact hl, h G H σ vs Q s r h2 p x⟩
/-- o[i] = v into a list -/
theorem xg_setL {ez : PZ} {d : D} {P : Env → Store → Prop} {o i : Expr}
    (h : XE X W o ρ L (fun d1 L1 => XE X W i ρ L1 (fun d2 L2 => ∃ (c : Addr) (j : Nat) (l : List D) (k : Int) (n : Nat), d1 = .cell c ∧ d2 = .int k ∧ L2[j]? = some (c, MO.lst l) ∧ ixN l.length k = some n ∧ P ρ (L2.set j (c, .lst (l.set n d)))) (onE ez ρ)) (onE ez ρ))
    (ha : ∀ v, assign (.Subscript o i pos) X.env v = (do
      let ov ← holding [v] (eval o X.env)
      let iv ← holding [v, ov] (eval i X.env)
      standAt pos
      holding [v, ov, iv] (setItem ov iv v)
      release [v, ov, iv] []) := by intro _; rfl) : XG X W (.Subscript o i pos) d ρ L P ez := fun G H σ v Q s r rd p x => by
  refine tgw_of (pg_sub pe_tw pe_tw set_list ha) (two h s r (x.at' r) fun d1 d2 v1 v2 G2 H2 L2 n s2 r1 r2 q => ?_)
  obtain ⟨c, j, l, k, m, rfl, rfl, hj, hm, q⟩ := q
  obtain ⟨u, hu, vs, rfl, hv⟩ := s2.cell hj
  refine ⟨c, vs, k, m, r1, r2, hu, by rw [hv.len]; exact hm, ?_⟩
  obtain ⟨n3, s3⟩ := s2.write (m' := .lst (l.set m d)) (o := .lst (vs.set m v)) hj ⟨_, rfl, hv.set m (rd.mono n.g)⟩
  exact p σ ρ _ _ _ (n.trans n3) s3 (r.mono (n.trans n3).g) q
end

/-! ### loops -/
section
variable {X : Cx} {W : WX} {a b c e tg iter : Expr} {es : List Expr} {st : Stmt} {sts sts' : List Stmt} {ρ : Env} {L : Store} {P : PD} {ex : PX} {κ : SK} {pos : Pos}
/-- the state of a loop: behind its entry (G0, H0, L0) some plain state of which I speaks -/
def LoopSt (K : PySem.W.Frag) (G0 H0 : Hp) (L0 : Store) (I : Env → Store → Prop) (σ : Sl) (H : Hp) : Prop := ∃ G ρ L, Nx G0 H0 L0 G H L ∧ Sat K G H L ∧ SRep K G σ ρ ∧ I ρ L
theorem LoopSt.of {K : PySem.W.Frag} {G0 H0 : Hp} {L0 : Store} {I : Env → Store → Prop} : PoN K G0 H0 L0 I (LoopSt K G0 H0 L0 I) := fun σ ρ G H L n s r q => ⟨G, ρ, L, n, s, r, q⟩
def isLst (d : D) (k : List D → Prop) : Prop := match d with
  | .lst l => k l
  | _ => False
theorem isLst.get {d : D} {k : List D → Prop} (h : isLst d k) : ∃ l, d = .lst l ∧ k l := by
  cases d with
  | lst l => exact ⟨l, rfl, h⟩
  | _ => exact h.elim
theorem xs_forL (I : Nat → Env → Store → Prop) (hp : PassesOwn (model X.prog X.w) X.A X.env X.xe) (hc : X.calm = true)
    (h : XE X W iter ρ L (fun d L1 => isLst d fun ds => I 0 ρ L1 ∧
      (∀ i x ρ' L', ds[i]? = some x → I i ρ' L' → XG X W tg x ρ' L' (fun ρ2 L2 => XB X W sts ρ2 L2 { κ with nx := I (i + 1), ct := I (i + 1), bk := κ.nx }) κ.ex) ∧ (∀ ρ' L', I ds.length ρ' L' → κ.nx ρ' L')) (onE κ.ex ρ))
    (hs : ∀ x, foldedSetIterable iter X.env x = pure x := by intro _; rfl) : XS X W (.For tg iter sts [] pos) ρ L κ := fun G H σ E s r p => by
  refine tsw_of (ps_for hp hc (pi_list pe_tw) pg_tw pb_tw hs) (h G H σ _ s r (fun d v G1 H1 L1 n s1 r1 q => ?_) (p.ex.at' r))
  obtain ⟨ds, rfl, h0, ht, hd⟩ := q.get
  obtain ⟨a, vs, rfl, h1, h2⟩ := r1
  have p1 := p.step n
  refine ⟨a, rfl, ⟨vs, SqL.of (s1.ex _ _ h1)⟩, for_list (K := X.K) (a := a) (xs := vs) (fun i => LoopSt X.K G1 H1 L1 (I i)) ⟨G1, ρ, L1, .refl _ _ _, s1, r.mono n.g, h0⟩ (fun i σ' H' _ ⟨G', ρ', L', n', s', _⟩ => SqL.of (s'.ex _ _ (n'.g _ _ h1))) (fun i x σ' H' hi ⟨G', ρ', L', n', s', r', q'⟩ => ?_) (fun σ' H' ⟨G', ρ', L', n', s', r', q'⟩ => ?_)⟩
  · obtain ⟨dx, e1, rx⟩ := h2.getV hi
    refine ht i dx ρ' L' e1 q' G' H' σ' x _ s' r' (rx.mono n'.g) (fun σ2 ρ2 G2 H2 L2 n2 s2 r2 q2 => q2 G2 H2 σ2 _ s2 r2 ?_) (p1.ex.step n')
    have n3 := n'.trans n2
    exact ⟨LoopSt.of.step n3, p1.rt.step n3, p1.nx.step n3, LoopSt.of.step n3, p1.ex.step n3⟩
  · rw [h2.len] at q'
    exact p1.nx σ' ρ' G' H' L' n' s' r' (hd ρ' L' q')
theorem xs_forT (I : Nat → Env → Store → Prop) (hp : PassesOwn (model X.prog X.w) X.A X.env X.xe) (hc : X.calm = true)
    (h : XE X W iter ρ L (fun d L1 => isTup d fun ds => I 0 ρ L1 ∧
      (∀ i x ρ' L', ds[i]? = some x → I i ρ' L' → XG X W tg x ρ' L' (fun ρ2 L2 => XB X W sts ρ2 L2 { κ with nx := I (i + 1), ct := I (i + 1), bk := κ.nx }) κ.ex) ∧ (∀ ρ' L', I ds.length ρ' L' → κ.nx ρ' L')) (onE κ.ex ρ))
    (hs : ∀ x, foldedSetIterable iter X.env x = pure x := by intro _; rfl) : XS X W (.For tg iter sts [] pos) ρ L κ := fun G H σ E s r p => by
  refine tsw_of (ps_for hp hc (pi_tup pe_tw) pg_tw pb_tw hs) (h G H σ _ s r (fun d v G1 H1 L1 n s1 r1 q => ?_) (p.ex.at' r))
  obtain ⟨ds, rfl, h0, ht, hd⟩ := q.get
  obtain ⟨a, vs, rfl, h1, h2⟩ := r1
  have p1 := p.step n
  refine ⟨a, rfl, ⟨vs, SqT.of (s1.ex _ _ h1)⟩, for_tup (K := X.K) (a := a) (xs := vs) (fun i => LoopSt X.K G1 H1 L1 (I i)) ⟨G1, ρ, L1, .refl _ _ _, s1, r.mono n.g, h0⟩ (fun i σ' H' _ ⟨G', ρ', L', n', s', _⟩ => SqT.of (s'.ex _ _ (n'.g _ _ h1))) (fun i x σ' H' hi ⟨G', ρ', L', n', s', r', q'⟩ => ?_) (fun σ' H' ⟨G', ρ', L', n', s', r', q'⟩ => ?_)⟩
  · obtain ⟨dx, e1, rx⟩ := h2.getV hi
    refine ht i dx ρ' L' e1 q' G' H' σ' x _ s' r' (rx.mono n'.g) (fun σ2 ρ2 G2 H2 L2 n2 s2 r2 q2 => q2 G2 H2 σ2 _ s2 r2 ?_) (p1.ex.step n')
    have n3 := n'.trans n2
    exact ⟨LoopSt.of.step n3, p1.rt.step n3, p1.nx.step n3, LoopSt.of.step n3, p1.ex.step n3⟩
  · rw [h2.len] at q'
    exact p1.nx σ' ρ' G' H' L' n' s' r' (hd ρ' L' q')
def isInt (d : D) (k : Int → Prop) : Prop := match d with
  | .int i => k i
  | _ => False
theorem isInt.get {d : D} {k : Int → Prop} (h : isInt d k) : ∃ i, d = .int i ∧ k i := by
  cases d with
  | int i => exact ⟨i, rfl, h⟩
  | _ => exact h.elim
def isInt2 (ds : List D) (k : Int → Int → Prop) : Prop := match ds with
  | [.int i, .int j] => k i j
  | _ => False
theorem isInt2.get {ds : List D} {k : Int → Int → Prop} (h : isInt2 ds k) : ∃ i j, ds = [.int i, .int j] ∧ k i j := by
  unfold isInt2 at h
  split at h
  · exact ⟨_, _, rfl, h⟩
  · exact h.elim
def isInt1 (ds : List D) (k : Int → Prop) : Prop := match ds with
  | [.int i] => k i
  | _ => False
theorem isInt1.get {ds : List D} {k : Int → Prop} (h : isInt1 ds k) : ∃ i, ds = [.int i] ∧ k i := by
  unfold isInt1 at h
  split at h
  · exact ⟨_, rfl, h⟩
  · exact h.elim
theorem xs_forR1 {p0 pc : Pos} (I : Nat → Env → Store → Prop) (hg : Gl X "range") (hm : X.mg "range" = none) (hp : PassesOwn (model X.prog X.w) X.A X.env X.xe) (hc : X.calm = true)
    (h : XA X W [a] ρ L (fun ds L1 => isInt1 ds fun n => -(2 ^ 62) ≤ n ∧ n < 2 ^ 62 ∧ I 0 ρ L1 ∧
      (∀ (i : Nat) ρ' L', (i : Int) < n → I i ρ' L' → XG X W tg (.int i) ρ' L' (fun ρ2 L2 => XB X W sts ρ2 L2 { κ with nx := I (i + 1), ct := I (i + 1), bk := κ.nx }) κ.ex) ∧ (∀ ρ' L', I n.toNat ρ' L' → κ.nx ρ' L')) (onE κ.ex ρ))
    (hs : ∀ x, foldedSetIterable (.Call (.Name "range" p0) [a] [] pc) X.env x = pure x := by intro _; rfl) (he : starEach [a] X.env = [(false, eval a X.env)] := by rfl) : XS X W (.For tg (.Call (.Name "range" p0) [a] [] pc) sts [] pos) ρ L κ := fun G H σ E s r p => by
  refine tsw_of (ps_for hp hc (pi_range1 hg hm pa_tw he) pg_tw pb_tw hs) (h G H σ _ s r (fun ds vs G1 H1 L1 n s1 r1 q => ?_) (p.ex.at' r))
  obtain ⟨m, rfl, b1, b2, h0, ht, hd⟩ := q.get
  have e1 : vs = [V.int m] := by
    obtain ⟨v, us, e, h1, h2⟩ := r1
    have e2 : v = .int m := h1
    have e3 : us = [] := h2
    rw [e, e2, e3]
  have p1 := p.step n
  refine ⟨m, e1, b1, b2, for_range (n := m.toNat) (fun i => LoopSt X.K G1 H1 L1 (I i)) ⟨G1, ρ, L1, .refl _ _ _, s1, r.mono n.g, h0⟩ (fun i σ' H' hi ⟨G', ρ', L', n', s', r', q'⟩ => ?_) (fun σ' H' ⟨G', ρ', L', n', s', r', q'⟩ => p1.nx σ' ρ' G' H' L' n' s' r' (hd ρ' L' q'))⟩
  have ez : (0 : Int) + (i : Int) = i := Int.zero_add _
  rw [ez]
  refine ht i ρ' L' (by omega) q' G' H' σ' (.int i) _ s' r' rfl (fun σ2 ρ2 G2 H2 L2 n2 s2 r2 q2 => q2 G2 H2 σ2 _ s2 r2 ?_) (p1.ex.step n')
  have n3 := n'.trans n2
  exact ⟨LoopSt.of.step n3, p1.rt.step n3, p1.nx.step n3, LoopSt.of.step n3, p1.ex.step n3⟩
theorem xs_forR2 {p0 pc : Pos} (I : Nat → Env → Store → Prop) (hg : Gl X "range") (hm : X.mg "range" = none) (hp : PassesOwn (model X.prog X.w) X.A X.env X.xe) (hc : X.calm = true)
    (h : XA X W [a, b] ρ L (fun ds L1 => isInt2 ds fun lo hi => -(2 ^ 62) ≤ lo ∧ lo < 2 ^ 62 ∧ -(2 ^ 62) ≤ hi ∧ hi < 2 ^ 62 ∧ I 0 ρ L1 ∧
      (∀ (i : Nat) ρ' L', lo + (i : Int) < hi → I i ρ' L' → XG X W tg (.int (lo + i)) ρ' L' (fun ρ2 L2 => XB X W sts ρ2 L2 { κ with nx := I (i + 1), ct := I (i + 1), bk := κ.nx }) κ.ex) ∧ (∀ ρ' L', I (hi - lo).toNat ρ' L' → κ.nx ρ' L')) (onE κ.ex ρ))
    (hs : ∀ x, foldedSetIterable (.Call (.Name "range" p0) [a, b] [] pc) X.env x = pure x := by intro _; rfl) (he : starEach [a, b] X.env = [(false, eval a X.env), (false, eval b X.env)] := by rfl) (he2 : starEach [b] X.env = [(false, eval b X.env)] := by rfl) : XS X W (.For tg (.Call (.Name "range" p0) [a, b] [] pc) sts [] pos) ρ L κ := fun G H σ E s r p => by
  refine tsw_of (ps_for hp hc (pi_range2 hg hm pa_tw he he2) pg_tw pb_tw hs) (h G H σ _ s r (fun ds vs G1 H1 L1 n s1 r1 q => ?_) (p.ex.at' r))
  obtain ⟨lo, hi, rfl, b1, b2, b3, b4, h0, ht, hd⟩ := q.get
  have e1 : vs = [V.int lo, V.int hi] := by
    obtain ⟨v, us, e, h1, v2, us2, e2, h2, h3⟩ := r1
    have e4 : v = .int lo := h1
    have e5 : v2 = .int hi := h2
    have e3 : us2 = [] := h3
    rw [e, e2, e3, e4, e5]
  have p1 := p.step n
  refine ⟨lo, hi, e1, ⟨b1, b2, b3, b4⟩, for_range (lo := lo) (n := (hi - lo).toNat) (fun i => LoopSt X.K G1 H1 L1 (I i)) ⟨G1, ρ, L1, .refl _ _ _, s1, r.mono n.g, h0⟩ (fun i σ' H' hi ⟨G', ρ', L', n', s', r', q'⟩ => ?_) (fun σ' H' ⟨G', ρ', L', n', s', r', q'⟩ => p1.nx σ' ρ' G' H' L' n' s' r' (hd ρ' L' q'))⟩
  refine ht i ρ' L' (by omega) q' G' H' σ' (.int (lo + i)) _ s' r' rfl (fun σ2 ρ2 G2 H2 L2 n2 s2 r2 q2 => q2 G2 H2 σ2 _ s2 r2 ?_) (p1.ex.step n')
  have n3 := n'.trans n2
  exact ⟨LoopSt.of.step n3, p1.rt.step n3, p1.nx.step n3, LoopSt.of.step n3, p1.ex.step n3⟩
end
end MW

namespace MW
open PySem PySem.Spec PyProof.Rows L2

/-! ### data of the model's == -/
mutual
def D.py : D → PyData
  | .non => .none
  | .bl b => .bool b
  | .int i => .int i
  | .str s => .str s
  | .tup l => .tuple (D.pyL l)
  | .lst l => .list (D.pyL l)
  | .cell _ => .none
  | .exc _ => .none
  | .raw _ => .none
  | .kt l => .tuple (D.pyL l)
  | .sq l => .list (D.pyL l)
def D.pyL : List D → List PyData
  | [] => []
  | d :: ds => d.py :: D.pyL ds
end
mutual
/-- plain, at most so deep -/
def D.okN : Nat → D → Bool
  | _, .non => true
  | _, .bl _ => true
  | _, .int _ => true
  | _, .str s => PyData.strOk s
  | 0, _ => false
  | n + 1, .tup l => D.okL n l
  | n + 1, .lst l => D.okL n l
  | n + 1, .kt l => D.okL n l
  | n + 1, .sq l => D.okL n l
  | _, .cell _ => false
  | _, .exc _ => false
  | _, .raw _ => false
def D.okL : Nat → List D → Bool
  | _, [] => true
  | n, d :: ds => D.okN n d && D.okL n ds
end
mutual
theorem Rp.dp {K : PySem.W.Frag} {G : Hp} : ∀ {d : D} {n : Nat} {v : V}, d.okN n = true → Rp K G d v → Dp K G v d.py
  | .non, n, v, _, r => by have e : v = .non := r; subst e; exact .non
  | .bl b, n, v, _, r => by have e : v = .bl b := r; subst e; exact .bl b
  | .int b, n, v, _, r => by have e : v = .int b := r; subst e; exact .int b
  | .str b, n, v, _, r => by have e : v = .str b := r; subst e; exact .str b
  | .tup l, n + 1, v, h, r => by
    obtain ⟨a, vs, e, h1, h2⟩ := r
    subst e
    exact .tup (SqT.of h1) (RpL.dp (n := n) (by simpa [D.okN] using h) h2)
  | .lst l, n + 1, v, h, r => by
    obtain ⟨a, vs, e, h1, h2⟩ := r
    subst e
    exact .lst (SqL.of h1) (RpL.dp (n := n) (by simpa [D.okN] using h) h2)
  | .kt l, n + 1, v, h, r => by
    obtain ⟨a, vs, e, h1, h2⟩ := r
    subst e
    exact .tup h1 (RpL.dp (n := n) (by simpa [D.okN] using h) h2)
  | .sq l, n + 1, v, h, r => by
    obtain ⟨a, vs, e, h1, h2⟩ := r
    subst e
    exact .lst h1 (RpL.dp (n := n) (by simpa [D.okN] using h) h2)
  | .tup l, 0, v, h, r => by simp [D.okN] at h
  | .lst l, 0, v, h, r => by simp [D.okN] at h
  | .kt l, 0, v, h, r => by simp [D.okN] at h
  | .sq l, 0, v, h, r => by simp [D.okN] at h
  | .cell _, n, v, h, _ => by cases n <;> simp [D.okN] at h
  | .exc _, n, v, h, _ => by cases n <;> simp [D.okN] at h
  | .raw _, n, v, h, _ => by cases n <;> simp [D.okN] at h
theorem RpL.dp {K : PySem.W.Frag} {G : Hp} : ∀ {ds : List D} {n : Nat} {vs : List V}, D.okL n ds = true → RpL K G ds vs → DpAll K G vs (D.pyL ds)
  | [], n, vs, _, r => by have e : vs = [] := r; subst e; exact .nil
  | d :: ds, n, vs, h, r => by
    obtain ⟨v, us, e, h1, h2⟩ := r
    subst e
    have h' : D.okN n d = true ∧ D.okL n ds = true := by simpa [D.okL] using h
    exact .cons (Rp.dp (n := n) h'.1 h1) (RpL.dp (n := n) h'.2 h2)
end
mutual
theorem okN.lay : ∀ {d : D} {n : Nat}, d.okN n = true → d.py.canLay0 = true ∧ d.py.depth ≤ n
  | .non, n, _ => ⟨by simp [D.py, PyData.canLay0], by simp [D.py, PyData.depth]⟩
  | .bl b, n, _ => ⟨by simp [D.py, PyData.canLay0], by simp [D.py, PyData.depth]⟩
  | .int b, n, _ => ⟨by simp [D.py, PyData.canLay0], by simp [D.py, PyData.depth]⟩
  | .str b, n, h => ⟨by cases n <;> simpa [D.py, PyData.canLay0, D.okN] using h, by simp [D.py, PyData.depth]⟩
  | .tup l, n + 1, h => by
    obtain ⟨a, b⟩ := okL.lay (n := n) (ds := l) (by simpa [D.okN] using h)
    exact ⟨by simpa [D.py, PyData.canLay0] using a, by simp [D.py, PyData.depth]; exact b⟩
  | .lst l, n + 1, h => by
    obtain ⟨a, b⟩ := okL.lay (n := n) (ds := l) (by simpa [D.okN] using h)
    exact ⟨by simpa [D.py, PyData.canLay0] using a, by simp [D.py, PyData.depth]; exact b⟩
  | .kt l, n + 1, h => by
    obtain ⟨a, b⟩ := okL.lay (n := n) (ds := l) (by simpa [D.okN] using h)
    exact ⟨by simpa [D.py, PyData.canLay0] using a, by simp [D.py, PyData.depth]; exact b⟩
  | .sq l, n + 1, h => by
    obtain ⟨a, b⟩ := okL.lay (n := n) (ds := l) (by simpa [D.okN] using h)
    exact ⟨by simpa [D.py, PyData.canLay0] using a, by simp [D.py, PyData.depth]; exact b⟩
  | .tup l, 0, h => by simp [D.okN] at h
  | .lst l, 0, h => by simp [D.okN] at h
  | .kt l, 0, h => by simp [D.okN] at h
  | .sq l, 0, h => by simp [D.okN] at h
  | .cell _, n, h => by cases n <;> simp [D.okN] at h
  | .exc _, n, h => by cases n <;> simp [D.okN] at h
  | .raw _, n, h => by cases n <;> simp [D.okN] at h
theorem okL.lay : ∀ {ds : List D} {n : Nat}, D.okL n ds = true → PyData.canLayAll0 (D.pyL ds) = true ∧ PyData.depthAll (D.pyL ds) ≤ n
  | [], n, _ => ⟨by simp [D.pyL, PyData.canLayAll0], by simp [D.pyL, PyData.depthAll]⟩
  | d :: ds, n, h => by
    have h' : D.okN n d = true ∧ D.okL n ds = true := by simpa [D.okL] using h
    obtain ⟨a, b⟩ := okN.lay h'.1
    obtain ⟨a', b'⟩ := okL.lay h'.2
    refine ⟨by simp [D.pyL, PyData.canLayAll0, a, a'], ?_⟩
    simp only [D.pyL, PyData.depthAll]
    omega
end
def D.ok (d : D) : Bool := d.okN 60
theorem D.ok.shaped {d : D} (h : d.ok = true) : SeqAt.shaped d.py = true := by
  obtain ⟨a, b⟩ := okN.lay h
  unfold SeqAt.shaped
  rw [a, Bool.true_and]
  exact decide_eq_true (Nat.le_trans b (by decide))
theorem okL_all : ∀ {n : Nat} {ds : List D}, D.okL n ds = ds.all (D.okN n)
  | n, [] => by rw [D.okL, List.all_nil]
  | n, d :: ds => by rw [D.okL, List.all_cons, okL_all]
def D.eqv (d e : D) : Bool := PyData.eqv d.py e.py
mutual
/-- no truths within -/
def D.nb : D → Bool
  | .bl _ => false
  | .tup l => D.nbL l
  | .lst l => D.nbL l
  | .cell _ => false
  | .exc _ => false
  | .raw _ => false
  | .kt _ => false
  | .sq _ => false
  | .non => true
  | .int _ => true
  | .str _ => true
def D.nbL : List D → Bool
  | [] => true
  | d :: ds => d.nb && D.nbL ds
end
mutual
theorem eqv_refl : ∀ (d : D), d.eqv d = true
  | .non => by simp [D.eqv, D.py, PyData.eqv]
  | .bl b => by simp [D.eqv, D.py, PyData.eqv]
  | .int b => by simp [D.eqv, D.py, PyData.eqv]
  | .str b => by simp [D.eqv, D.py, PyData.eqv]
  | .tup l => by simp only [D.eqv, D.py, PyData.eqv]; exact eqvL_refl l
  | .lst l => by simp only [D.eqv, D.py, PyData.eqv]; exact eqvL_refl l
  | .cell _ => by simp [D.eqv, D.py, PyData.eqv]
  | .exc _ => by simp [D.eqv, D.py, PyData.eqv]
  | .raw _ => by simp [D.eqv, D.py, PyData.eqv]
  | .kt l => by simp only [D.eqv, D.py, PyData.eqv]; exact eqvL_refl l
  | .sq l => by simp only [D.eqv, D.py, PyData.eqv]; exact eqvL_refl l
theorem eqvL_refl : ∀ (l : List D), PyData.eqvAll (D.pyL l) (D.pyL l) = true
  | [] => by simp [D.pyL, PyData.eqvAll]
  | d :: ds => by
    simp only [D.pyL, PyData.eqvAll, Bool.and_eq_true]
    exact ⟨eqv_refl d, eqvL_refl ds⟩
end
mutual
theorem eqv_eq : ∀ {d e : D}, d.nb = true → e.nb = true → d.eqv e = true → d = e
  | .non, e, _, h, q => by cases e <;> simp_all [D.eqv, D.py, PyData.eqv, D.nb]
  | .int b, e, _, h, q => by cases e <;> simp_all [D.eqv, D.py, PyData.eqv, D.nb]
  | .str b, e, _, h, q => by cases e <;> simp_all [D.eqv, D.py, PyData.eqv, D.nb]
  | .tup l, e, h1, h, q => by
    cases e with
    | tup m =>
      have q' : PyData.eqvAll (D.pyL l) (D.pyL m) = true := by simpa [D.eqv, D.py, PyData.eqv] using q
      rw [eqvL_eq (by simpa [D.nb] using h1) (by simpa [D.nb] using h) q']
    | _ => simp_all [D.eqv, D.py, PyData.eqv, D.nb]
  | .lst l, e, h1, h, q => by
    cases e with
    | lst m =>
      have q' : PyData.eqvAll (D.pyL l) (D.pyL m) = true := by simpa [D.eqv, D.py, PyData.eqv] using q
      rw [eqvL_eq (by simpa [D.nb] using h1) (by simpa [D.nb] using h) q']
    | _ => simp_all [D.eqv, D.py, PyData.eqv, D.nb]
  | .bl b, e, h1, _, _ => by simp [D.nb] at h1
  | .cell b, e, h1, _, _ => by simp [D.nb] at h1
  | .exc b, e, h1, _, _ => by simp [D.nb] at h1
  | .raw b, e, h1, _, _ => by simp [D.nb] at h1
  | .kt b, e, h1, _, _ => by simp [D.nb] at h1
  | .sq b, e, h1, _, _ => by simp [D.nb] at h1
theorem eqvL_eq : ∀ {l m : List D}, D.nbL l = true → D.nbL m = true → PyData.eqvAll (D.pyL l) (D.pyL m) = true → l = m
  | [], [], _, _, _ => rfl
  | [], e :: m, _, _, q => by simp [D.pyL, PyData.eqvAll] at q
  | d :: l, [], _, _, q => by simp [D.pyL, PyData.eqvAll] at q
  | d :: l, e :: m, h1, h2, q => by
    have h1' : d.nb = true ∧ D.nbL l = true := by simpa [D.nbL] using h1
    have h2' : e.nb = true ∧ D.nbL m = true := by simpa [D.nbL] using h2
    have q' : PyData.eqv d.py e.py = true ∧ PyData.eqvAll (D.pyL l) (D.pyL m) = true := by simpa [D.pyL, PyData.eqvAll] using q
    rw [eqv_eq h1'.1 h2'.1 q'.1, eqvL_eq h1'.2 h2'.2 q'.2]
end
theorem eqv_iff {d e : D} (h1 : d.nb = true) (h2 : e.nb = true) : d.eqv e = true ↔ d = e := ⟨eqv_eq h1 h2, fun q => by rw [q]; exact eqv_refl e⟩
theorem nbL_all : ∀ {ds : List D}, D.nbL ds = ds.all D.nb
  | [] => by rw [D.nbL, List.all_nil]
  | d :: ds => by rw [D.nbL, List.all_cons, nbL_all]

/-! ### operators -/
def addD (d e : D) (L : Store) (P : PD) : Prop := match d, e with
  | .int i, .int j => P (.int (i + j)) L
  | .str a, .str b => a.length + b.length ≤ sizeLine ∧ P (.str (a ++ b)) L
  | .tup a, .tup b => a ≠ [] ∧ b ≠ [] ∧ a.length + b.length ≤ sizeLine ∧ P (.tup (a ++ b)) L
  | .lst a, .lst b => a.length + b.length ≤ sizeLine ∧ P (.lst (a ++ b)) L
  | _, _ => False
def i2D (C : Int → Int → Prop) (f : Int → Int → D) (d e : D) (L : Store) (P : PD) : Prop := match d, e with
  | .int i, .int j => C i j ∧ P (f i j) L
  | _, _ => False
def i2N (f : Int → Int → D) (d e : D) (L : Store) (P : PD) : Prop := match d, e with
  | .int i, .int j => P (f i j) L
  | _, _ => False
abbrev subD := i2N fun i j => .int (i - j)
def mulD (d e : D) (L : Store) (P : PD) : Prop := match d, e with
  | .int i, .int j => CMul i j ∧ P (.int (i * j)) L
  | .lst a, .int k => -(2 ^ 63) ≤ k ∧ k < 2 ^ 63 ∧ a.length * k.toNat ≤ sizeLine ∧ P (.lst (List.replicate k.toNat a).flatten) L
  | _, _ => False
abbrev modD := i2D (fun _ j => 0 < j) fun i j => .int (i % j)
abbrev fdivD := i2D CDiv fun i j => .int (i / j)
abbrev powD := i2D CPow fun i j => .int (i ^ j.toNat)
abbrev ltD := i2N fun i j => .bl (decide (i < j))
abbrev leD := i2N fun i j => .bl (decide (i ≤ j))
abbrev gtD := i2N fun i j => .bl (decide (j < i))
abbrev geD := i2N fun i j => .bl (decide (j ≤ i))
theorem i2D.get {C : Int → Int → Prop} {f : Int → Int → D} {d e : D} {L : Store} {P : PD} (h : i2D C f d e L P) : ∃ i j, d = .int i ∧ e = .int j ∧ C i j ∧ P (f i j) L := by
  unfold i2D at h
  split at h
  · exact ⟨_, _, rfl, rfl, h⟩
  · exact h.elim
theorem i2N.get {f : Int → Int → D} {d e : D} {L : Store} {P : PD} (h : i2N f d e L P) : ∃ i j, d = .int i ∧ e = .int j ∧ P (f i j) L := by
  unfold i2N at h
  split at h
  · exact ⟨_, _, rfl, rfl, h⟩
  · exact h.elim
section
variable {X : Cx}
theorem opI {f : Value → Value → Sem Value} {C : Int → Int → Prop} {g : Int → Int → V} {g' : Int → Int → D} (h : OpR X f (rI C g)) (hg : ∀ G i j, Rp X.K G (g' i j) (g i j)) : OpD X f (i2D C g') :=
  ⟨_, h, fun G H L d1 d2 v u P Q s r1 r2 q p => by
    obtain ⟨i, j, rfl, rfl, hc, q⟩ := q.get
    exact ⟨i, j, r1, r2, hc, p _ _ G H L (.refl _ _ _) s (hg G i j) q⟩⟩
theorem opN {f : Value → Value → Sem Value} {g : Int → Int → V} {g' : Int → Int → D} (h : OpR X f (rI0 g)) (hg : ∀ G i j, Rp X.K G (g' i j) (g i j)) : OpD X f (i2N g') :=
  ⟨_, h, fun G H L d1 d2 v u P Q s r1 r2 q p => by
    obtain ⟨i, j, rfl, rfl, q⟩ := q.get
    exact ⟨i, j, r1, r2, p _ _ G H L (.refl _ _ _) s (hg G i j) q⟩⟩
theorem o_sub : OpD X (binaryOp .Sub) subD := opN op_sub fun _ _ _ => rfl
theorem o_mod : OpD X (binaryOp .Mod) modD := opI op_mod fun _ _ _ => rfl
theorem o_fdiv : OpD X (binaryOp .FloorDiv) fdivD := opI op_fdiv fun _ _ _ => rfl
theorem o_pow : OpD X (binaryOp .Pow) powD := opI op_pow fun _ _ _ => rfl
theorem o_lt : OpD X (compareOp .Lt) ltD := opN op_lt fun _ _ _ => rfl
theorem o_le : OpD X (compareOp .LtE) leD := opN op_le fun _ _ _ => rfl
theorem o_gt : OpD X (compareOp .Gt) gtD := opN op_gt fun _ _ _ => rfl
theorem o_ge : OpD X (compareOp .GtE) geD := opN op_ge fun _ _ _ => rfl
theorem RpL.nil_iff {K : PySem.W.Frag} {G : Hp} {l : List D} {vs : List V} (h : RpL K G l vs) : vs = [] ↔ l = [] := by
  have e := h.len
  rw [← List.length_eq_zero_iff, ← List.length_eq_zero_iff, e]
theorem o_add : OpD X (binaryOp .Add) addD := by
  refine ⟨_, op_add.or (op_add_str.or (op_catT.or op_cat)), fun G H L d1 d2 v u P Q s r1 r2 q p => ?_⟩
  unfold addD at q
  split at q
  · exact .inl ⟨_, _, r1, r2, p (.int _) _ G H L (.refl _ _ _) s rfl q⟩
  · exact .inr (.inl ⟨_, _, r1, r2, q.1, p (.str _) _ G H L (.refl _ _ _) s rfl q.2⟩)
  · rename_i a b
    obtain ⟨pa, va, rfl, h1, h2⟩ := r1
    obtain ⟨pb, vb, rfl, h3, h4⟩ := r2
    obtain ⟨n1, n2, n3, q⟩ := q
    refine .inr (.inr (.inl ⟨pa, pb, va, vb, rfl, rfl, SqT.of (s.ex _ _ h1), SqT.of (s.ex _ _ h3), fun e => n1 (h2.nil_iff.mp e), by rw [h2.len, h4.len]; exact n3, fun e => absurd (h4.nil_iff.mp e) n2, fun _ x hx => ?_⟩))
    obtain ⟨m1, s1⟩ := s.fresh (.tup (va ++ vb)) hx
    exact p (.tup (a ++ b)) _ _ _ L m1 s1 ⟨x, _, rfl, upd_same, (h2.app h4).mono m1.g⟩ q
  · rename_i a b
    obtain ⟨pa, va, rfl, h1, h2⟩ := r1
    obtain ⟨pb, vb, rfl, h3, h4⟩ := r2
    obtain ⟨n3, q⟩ := q
    refine .inr (.inr (.inr ⟨pa, pb, va, vb, rfl, rfl, s.ex _ _ h1, s.ex _ _ h3, by rw [h2.len, h4.len]; exact n3, fun x hx => ?_⟩))
    obtain ⟨m1, s1⟩ := s.fresh (.lst (va ++ vb)) hx
    exact p (.lst (a ++ b)) _ _ _ L m1 s1 ⟨x, _, rfl, upd_same, (h2.app h4).mono m1.g⟩ q
  · exact q.elim
theorem RpL.rep {K : PySem.W.Frag} {G : Hp} {l : List D} {vs : List V} (h : RpL K G l vs) : ∀ k : Nat, RpL K G (List.replicate k l).flatten (List.replicate k vs).flatten
  | 0 => rfl
  | k + 1 => by
    rw [List.replicate_succ, List.replicate_succ, List.flatten_cons, List.flatten_cons]
    exact h.app (RpL.rep h k)
theorem o_mul : OpD X (binaryOp .Mult) mulD := by
  refine ⟨_, op_mul.or op_rep, fun G H L d1 d2 v u P Q s r1 r2 q p => ?_⟩
  unfold mulD at q
  split at q
  · exact .inl ⟨_, _, r1, r2, q.1, p (.int _) _ G H L (.refl _ _ _) s rfl q.2⟩
  · rename_i a k
    obtain ⟨pa, va, rfl, h1, h2⟩ := r1
    obtain ⟨b1, b2, n3, q⟩ := q
    refine .inr ⟨pa, k, va, rfl, r2, s.ex _ _ h1, b1, b2, by rw [h2.len]; exact n3, fun x hx => ?_⟩
    obtain ⟨m1, s1⟩ := s.fresh (.lst (List.replicate k.toNat va).flatten) hx
    exact p (.lst _) _ _ _ L m1 s1 ⟨x, _, rfl, upd_same, (h2.rep _).mono m1.g⟩ q
  · exact q.elim
/-- ==, != : numbers and texts, else all through -/
def eqD (d e : D) (L : Store) (P : PD) : Prop := match d, e with
  | .int i, .int j => P (.bl (decide (i = j))) L
  | .str i, .str j => P (.bl (decide (i = j))) L
  | .bl i, .bl j => P (.bl (decide (i = j))) L
  | d, e => d.ok = true ∧ e.ok = true ∧ P (.bl (d.eqv e)) L
def neD (d e : D) (L : Store) (P : PD) : Prop := match d, e with
  | .int i, .int j => P (.bl (!decide (i = j))) L
  | .str i, .str j => P (.bl (!decide (i = j))) L
  | .bl i, .bl j => P (.bl (!decide (i = j))) L
  | d, e => d.ok = true ∧ e.ok = true ∧ P (.bl (!d.eqv e)) L
theorem dec_i {i j : Int} : decide (V.int i = V.int j) = decide (i = j) := by
  by_cases h : i = j
  · rw [h]; simp
  · rw [decide_eq_false h, decide_eq_false (fun e => h (by injection e))]
theorem dec_s {i j : Str} : decide (V.str i = V.str j) = decide (i = j) := by
  by_cases h : i = j
  · rw [h]; simp
  · rw [decide_eq_false h, decide_eq_false (fun e => h (by injection e))]
theorem dec_b {i j : Bool} : decide (V.bl i = V.bl j) = decide (i = j) := by
  by_cases h : i = j
  · rw [h]; simp
  · rw [decide_eq_false h, decide_eq_false (fun e => h (by injection e))]
theorem o_eq (hu : X.A.units + 64 < cLine) : OpD X (compareOp .Eq) eqD := by
  refine ⟨_, op_eq.or (op_eqD hu), fun G H L d1 d2 v u P Q s r1 r2 q p => ?_⟩
  unfold eqD at q
  split at q
  · have e1 : v = .int _ := r1
    have e2 : u = .int _ := r2
    subst e1 e2
    exact .inl ⟨rfl, p (.bl _) _ G H L (.refl _ _ _) s (by rw [dec_i]; rfl) q⟩
  · have e1 : v = .str _ := r1
    have e2 : u = .str _ := r2
    subst e1 e2
    exact .inl ⟨rfl, p (.bl _) _ G H L (.refl _ _ _) s (by rw [dec_s]; rfl) q⟩
  · have e1 : v = .bl _ := r1
    have e2 : u = .bl _ := r2
    subst e1 e2
    exact .inl ⟨rfl, p (.bl _) _ G H L (.refl _ _ _) s (by rw [dec_b]; rfl) q⟩
  · obtain ⟨k1, k2, q⟩ := q
    exact .inr ⟨_, _, Rp.dp k1 (r1.mono s.ex), Rp.dp k2 (r2.mono s.ex), D.ok.shaped k1, D.ok.shaped k2, p (.bl _) _ G H L (.refl _ _ _) s rfl q⟩
theorem o_ne (hu : X.A.units + 64 < cLine) : OpD X (compareOp .NotEq) neD := by
  refine ⟨_, op_ne.or (op_neD hu), fun G H L d1 d2 v u P Q s r1 r2 q p => ?_⟩
  unfold neD at q
  split at q
  · have e1 : v = .int _ := r1
    have e2 : u = .int _ := r2
    subst e1 e2
    exact .inl ⟨rfl, p (.bl _) _ G H L (.refl _ _ _) s (by rw [dec_i]; rfl) q⟩
  · have e1 : v = .str _ := r1
    have e2 : u = .str _ := r2
    subst e1 e2
    exact .inl ⟨rfl, p (.bl _) _ G H L (.refl _ _ _) s (by rw [dec_s]; rfl) q⟩
  · have e1 : v = .bl _ := r1
    have e2 : u = .bl _ := r2
    subst e1 e2
    exact .inl ⟨rfl, p (.bl _) _ G H L (.refl _ _ _) s (by rw [dec_b]; rfl) q⟩
  · obtain ⟨k1, k2, q⟩ := q
    exact .inr ⟨_, _, Rp.dp k1 (r1.mono s.ex), Rp.dp k2 (r2.mono s.ex), D.ok.shaped k1, D.ok.shaped k2, p (.bl _) _ G H L (.refl _ _ _) s rfl q⟩
/-- is None, is not None -/
def D.isN : D → Bool
  | .non => true
  | .raw .non => true
  | _ => false
def isND (d e : D) (L : Store) (P : PD) : Prop := match e with
  | .non => P (.bl d.isN) L
  | _ => False
def notND (d e : D) (L : Store) (P : PD) : Prop := match e with
  | .non => P (.bl (!d.isN)) L
  | _ => False
theorem Rp.isN {K : PySem.W.Frag} {G : Hp} {d : D} {v : V} (r : Rp K G d v) : decide (v = .non) = d.isN := by
  cases d with
  | non => have e : v = .non := r; subst e; rfl
  | bl b => have e : v = .bl b := r; subst e; rfl
  | int b => have e : v = .int b := r; subst e; rfl
  | str b => have e : v = .str b := r; subst e; rfl
  | tup l => obtain ⟨a, _, e, _⟩ := r; subst e; rfl
  | lst l => obtain ⟨a, _, e, _⟩ := r; subst e; rfl
  | cell a => have e : v = .ref a := r; subst e; rfl
  | exc C => obtain ⟨a, e, _⟩ := r; subst e; rfl
  | raw w => have e : v = w := r; subst e; cases v <;> rfl
  | kt l => obtain ⟨a, _, e, _⟩ := r; subst e; rfl
  | sq l => obtain ⟨a, _, e, _⟩ := r; subst e; rfl
theorem o_is : OpD X (compareOp .Is) isND := by
  refine ⟨_, op_isN, fun G H L d1 d2 v u P Q s r1 r2 q p => ?_⟩
  unfold isND at q
  split at q
  · exact ⟨r2, p (.bl _) _ G H L (.refl _ _ _) s (by rw [r1.isN]; rfl) q⟩
  · exact q.elim
theorem o_isnot : OpD X (compareOp .IsNot) notND := by
  refine ⟨_, op_notN, fun G H L d1 d2 v u P Q s r1 r2 q p => ?_⟩
  unfold notND at q
  split at q
  · exact ⟨r2, p (.bl _) _ G H L (.refl _ _ _) s (by rw [r1.isN]; rfl) q⟩
  · exact q.elim
end
end MW

namespace MW
open PySem PySem.Spec PyProof.Rows L2

/-! ### items -/
section
variable {K : PySem.W.Frag} {G : Hp}
theorem RpL.atI {ds : List D} {vs : List V} {i : Int} {d : D} (h : RpL K G ds vs) (e : atI ds i = some d) : ∃ v, atI vs i = some v ∧ Rp K G d v := by
  unfold L2.atI at e ⊢
  rw [h.len]
  cases q : ixN ds.length i with
  | none => rw [q] at e; cases e
  | some j =>
    rw [q] at e
    exact h.get e
def ixD (d e : D) (L : Store) (P : PD) : Prop := match d, e with
  | .tup l, .int i => ∃ x, atI l i = some x ∧ P x L
  | .lst l, .int i => ∃ x, atI l i = some x ∧ P x L
  | .kt l, .int i => ∃ x, atI l i = some x ∧ P x L
  | .sq l, .int i => ∃ x, atI l i = some x ∧ P x L
  | .cell c, .int i => ∃ (k : Nat) (l : List D) (x : D), L[k]? = some (c, MO.lst l) ∧ atI l i = some x ∧ P x L
  | .str s, .int i => s.length ≤ sizeLine ∧ ∃ c, atI s.cps.toList i = some c ∧ P (.str ⟨#[c]⟩) L
  | _, _ => False
end
section
variable {X : Cx} {W : WX} {a b c e o : Expr} {es : List Expr} {ρ : Env} {L : Store} {P : PD} {ex : PX} {pos : Pos}
theorem ix_ok {G H : Hp} {d1 d2 : D} {v u : V} {Q : VK} (s : Sat X.K G H L) (r1 : Rp X.K G d1 v) (r2 : Rp X.K G d2 u) (q : ixD d1 d2 L P) (p : Po X.K G H L P Q) : rIx X.K v u H Q := by
  unfold ixD at q
  split at q
  · obtain ⟨x, e, q⟩ := q
    obtain ⟨a, vs, rfl, h1, h2⟩ := r1
    obtain ⟨y, h3, h4⟩ := h2.atI e
    exact .inr (.inl ⟨a, vs, _, y, rfl, r2, SqT.of (s.ex _ _ h1), h3, p x y G H L (.refl _ _ _) s h4 q⟩)
  · obtain ⟨x, e, q⟩ := q
    obtain ⟨a, vs, rfl, h1, h2⟩ := r1
    obtain ⟨y, h3, h4⟩ := h2.atI e
    exact .inl ⟨a, vs, _, y, rfl, r2, SqL.of (s.ex _ _ h1), h3, p x y G H L (.refl _ _ _) s h4 q⟩
  · obtain ⟨x, e, q⟩ := q
    obtain ⟨a, vs, rfl, h1, h2⟩ := r1
    obtain ⟨y, h3, h4⟩ := h2.atI e
    exact .inr (.inl ⟨a, vs, _, y, rfl, r2, s.ex.sqT h1, h3, p x y G H L (.refl _ _ _) s h4 q⟩)
  · obtain ⟨x, e, q⟩ := q
    obtain ⟨a, vs, rfl, h1, h2⟩ := r1
    obtain ⟨y, h3, h4⟩ := h2.atI e
    exact .inl ⟨a, vs, _, y, rfl, r2, s.ex.sqL h1, h3, p x y G H L (.refl _ _ _) s h4 q⟩
  · obtain ⟨k, l, x, hk, e, q⟩ := q
    obtain ⟨u', hu, vs, rfl, h2⟩ := s.cell hk
    obtain ⟨y, h3, h4⟩ := h2.atI e
    have e1 : v = .ref _ := r1
    exact .inl ⟨_, vs, _, y, e1, r2, SqL.of hu, h3, p x y G H L (.refl _ _ _) s h4 q⟩
  · obtain ⟨hz, x, e, q⟩ := q
    exact .inr (.inr ⟨_, _, x, r1, r2, hz, e, p (.str ⟨#[x]⟩) _ G H L (.refl _ _ _) s rfl q⟩)
  · exact q.elim
/-- a[b], a list, tuple or text, b a number -/
theorem xe_ix (h : XE X W a ρ L (fun d1 L1 => XE X W b ρ L1 (fun d2 L2 => ixD d1 d2 L2 P) ex) ex) (hs : PlainIx b := by intro _ _; rfl) : XE X W (.Subscript a b pos) ρ L P ex := fun G H σ Q s rs p x =>
  tw_of (pe_ix ix_seq pe_tw pe_tw hs) (two h s rs x fun d1 d2 v u G2 H2 L2 n s2 r1 r2 q => ix_ok s2 r1 r2 q (p.step n))

/-! ### slices -/
def cutD {α : Type} (xs : List α) (lo hi : Option Int) : List α := (xs.drop (HT.sIx xs.length 0 lo)).take (HT.sIx xs.length xs.length hi - HT.sIx xs.length 0 lo)
theorem RpL.cut {K : PySem.W.Frag} {G : Hp} {ds : List D} {vs : List V} (h : RpL K G ds vs) (lo hi : Option Int) : RpL K G (cutD ds lo hi) (cutV vs lo hi) := by
  unfold cutD cutV
  rw [h.len]
  exact (h.drop _).take _
def slD (d : D) (lo hi : Option Int) (L : Store) (P : PD) : Prop := match d with
  | .str s => s.length ≤ sizeLine ∧ P (.str (cutS s lo hi)) L
  | .lst l => P (.lst (cutD l lo hi)) L
  | .cell c => ∃ (k : Nat) (l : List D), L[k]? = some (c, MO.lst l) ∧ P (.lst (cutD l lo hi)) L
  | .tup l => ¬ (HT.sIx l.length 0 lo = 0 ∧ HT.sIx l.length l.length hi = l.length) ∧ P (.tup (cutD l lo hi)) L
  | _ => False
theorem sl_ok {G H : Hp} {d : D} {v : V} {lo hi : Option Int} {Q : VK} (s : Sat X.K G H L) (r : Rp X.K G d v) (q : slD d lo hi L P) (p : Po X.K G H L P Q) : rSlS v lo hi H Q ∨ rSlL X.K v lo hi H Q ∨ rSlT X.K v lo hi H Q := by
  unfold slD at q
  split at q
  · exact .inl ⟨_, r, q.1, p (.str _) _ G H L (.refl _ _ _) s rfl q.2⟩
  · rename_i l
    obtain ⟨a, vs, rfl, h1, h2⟩ := r
    refine .inr (.inl ⟨a, vs, rfl, SqL.of (s.ex _ _ h1), fun x hx => ?_⟩)
    obtain ⟨m1, s1⟩ := s.fresh (.lst (cutV vs lo hi)) hx
    exact p (.lst (cutD l lo hi)) _ _ _ L m1 s1 ⟨x, _, rfl, upd_same, (h2.cut lo hi).mono m1.g⟩ q
  · obtain ⟨k, l, hk, q⟩ := q
    obtain ⟨u', hu, vs, rfl, h2⟩ := s.cell hk
    have e1 : v = .ref _ := r
    refine .inr (.inl ⟨_, vs, e1, SqL.of hu, fun x hx => ?_⟩)
    obtain ⟨m1, s1⟩ := s.fresh (.lst (cutV vs lo hi)) hx
    exact p (.lst (cutD l lo hi)) _ _ _ L m1 s1 ⟨x, _, rfl, upd_same, (h2.cut lo hi).mono m1.g⟩ q
  · rename_i l
    obtain ⟨a, vs, rfl, h1, h2⟩ := r
    obtain ⟨hw, q⟩ := q
    refine .inr (.inr ⟨a, vs, rfl, SqT.of (s.ex _ _ h1), by rw [h2.len]; exact hw, fun x hx => ?_⟩)
    obtain ⟨m1, s1⟩ := s.fresh (.tup (cutV vs lo hi)) hx
    exact p (.tup (cutD l lo hi)) _ _ _ L m1 s1 ⟨x, _, rfl, upd_same, (h2.cut lo hi).mono m1.g⟩ q
  · exact q.elim
theorem xe_sl_n0 {p2 : Pos} (h : XE X W e ρ L (fun d L1 => XE X W a ρ L1 (fun i L2 => isInt i fun n => slD d none (some n) L2 P) ex) ex) : XE X W (.Subscript e (.Slice none (some a) none p2) pos) ρ L P ex := fun G H σ Q s rs p x =>
  tw_of (pe_slice (sl_str.or (sl_list.or sl_tup)) pe_tw po_none (po_some pe_tw)) (two (rr := fun v u H2 => ∃ i, u = .int i ∧ (rSlS v none (some i) H2 Q ∨ rSlL X.K v none (some i) H2 Q ∨ rSlT X.K v none (some i) H2 Q)) h s rs x fun d1 d2 v u G2 H2 L2 n s2 r1 r2 q => by
    obtain ⟨i, rfl, q⟩ := q.get
    exact ⟨i, r2, sl_ok s2 r1 q (p.step n)⟩)
theorem xe_sl_0n {p2 : Pos} (h : XE X W e ρ L (fun d L1 => XE X W a ρ L1 (fun i L2 => isInt i fun n => slD d (some n) none L2 P) ex) ex) : XE X W (.Subscript e (.Slice (some a) none none p2) pos) ρ L P ex := fun G H σ Q s rs p x =>
  tw_of (pe_slice (sl_str.or (sl_list.or sl_tup)) pe_tw (po_some pe_tw) po_none) (two (rr := fun v u H2 => ∃ i, u = .int i ∧ (rSlS v (some i) none H2 Q ∨ rSlL X.K v (some i) none H2 Q ∨ rSlT X.K v (some i) none H2 Q)) h s rs x fun d1 d2 v u G2 H2 L2 n s2 r1 r2 q => by
    obtain ⟨i, rfl, q⟩ := q.get
    exact ⟨i, r2, sl_ok s2 r1 q (p.step n)⟩)
theorem xe_sl_nn {p2 : Pos} (h : XE X W e ρ L (fun d L1 => XE X W a ρ L1 (fun i L2 => isInt i fun n => XE X W b ρ L2 (fun j L3 => isInt j fun m => slD d (some n) (some m) L3 P) ex) ex) ex) : XE X W (.Subscript e (.Slice (some a) (some b) none p2) pos) ρ L P ex := fun G H σ Q s rs p x =>
  tw_of (pe_slice (sl_str.or (sl_list.or sl_tup)) pe_tw (po_some pe_tw) (po_some pe_tw)) (h G H σ _ s rs (fun d v G1 H1 L1 n1 s1 r1 q1 => q1 G1 H1 σ _ s1 (rs.mono n1.g) (fun i u G2 H2 L2 n2 s2 r2 q2 => by
    obtain ⟨i', rfl, q2⟩ := q2.get
    refine ⟨i', r2, q2 G2 H2 σ _ s2 ((rs.mono n1.g).mono n2.g) (fun j w G3 H3 L3 n3 s3 r3 q3 => ?_) ((x.step n1).step n2)⟩
    obtain ⟨m, rfl, q⟩ := q3.get
    exact ⟨m, r3, sl_ok s3 (r1.mono (n2.g.trans n3.g)) q (((p.step n1).step n2).step n3)⟩) (x.step n1)) x)

/-! ### calls of built-in things by name -/
def CaD (X : Cx) (f : Value) (δ : List D → Store → PD → Prop) : Prop :=
  ∃ r, CallR X f r ∧ ∀ G H L ds vs P Q, Sat X.K G H L → RpL X.K G ds vs → δ ds L P → Po X.K G H L P Q → r vs H Q
theorem xe_callB {x : Str} {id : String} {p0 : Pos} {δ : List D → Store → PD → Prop} (hc : CaD X (.builtin id) δ) (hg : Gl X x) (hm : X.mg x = none) (hv : bootBuiltins x = some (.builtin id)) (h : XA X W (e :: es) ρ L (fun ds L1 => δ ds L1 P) ex)
    (hn : x ≠ "__name__" := by decide) (hdb : (x == ("__debug__" : Str)) = false := by decide)
    (he : starEach (e :: es) X.env = (false, eval e X.env) :: starEach es X.env := by rfl) (hpl : (backTo pos (starEach es X.env)).any (·.1) = false := by rfl) : XE X W (.Call (.Name x p0) (e :: es) [] pos) ρ L P ex := fun G H σ Q s rs p x => by
  obtain ⟨r, h1, h2⟩ := hc
  exact tw_of (pe_callB h1 hg hm hv pa_tw hn hdb he hpl) (h G H σ _ s rs (fun ds vs G1 H1 L1 n s1 r1 q => h2 G1 H1 L1 ds vs P Q s1 r1 q (p.step n)) x)
theorem xe_callT {x : Str} {id : String} {p0 : Pos} {δ : List D → Store → PD → Prop} (hc : CaD X (.type id) δ) (hg : Gl X x) (hm : X.mg x = none) (hv : bootBuiltins x = some (.type id)) (h : XA X W (e :: es) ρ L (fun ds L1 => δ ds L1 P) ex)
    (hn : x ≠ "__name__" := by decide) (hdb : (x == ("__debug__" : Str)) = false := by decide)
    (he : starEach (e :: es) X.env = (false, eval e X.env) :: starEach es X.env := by rfl) (hpl : (backTo pos (starEach es X.env)).any (·.1) = false := by rfl) : XE X W (.Call (.Name x p0) (e :: es) [] pos) ρ L P ex := fun G H σ Q s rs p x => by
  obtain ⟨r, h1, h2⟩ := hc
  exact tw_of (pe_callTy h1 hg hm hv pa_tw hn hdb he hpl) (h G H σ _ s rs (fun ds vs G1 H1 L1 n s1 r1 q => h2 G1 H1 L1 ds vs P Q s1 r1 q (p.step n)) x)
theorem RpL.v1 {K : PySem.W.Frag} {G : Hp} {d : D} {vs : List V} (h : RpL K G [d] vs) : ∃ v, vs = [v] ∧ Rp K G d v := by
  obtain ⟨v, us, e, h1, h2⟩ := h
  have e3 : us = [] := h2
  subst e3
  exact ⟨v, e, h1⟩
theorem RpL.v2 {K : PySem.W.Frag} {G : Hp} {d d' : D} {vs : List V} (h : RpL K G [d, d'] vs) : ∃ v v', vs = [v, v'] ∧ Rp K G d v ∧ Rp K G d' v' := by
  obtain ⟨v, us, e, h1, h2⟩ := h
  obtain ⟨v', rfl, h3⟩ := h2.v1
  exact ⟨v, v', e, h1, h3⟩
/-- len -/
def lenD (ds : List D) (L : Store) (P : PD) : Prop := match ds with
  | [.str s] => s.length ≤ sizeLine ∧ P (.int s.length) L
  | [.tup l] => P (.int l.length) L
  | [.lst l] => P (.int l.length) L
  | [.kt l] => P (.int l.length) L
  | [.sq l] => P (.int l.length) L
  | [.cell c] => (∃ (k : Nat) (l : List D), L[k]? = some (c, MO.lst l) ∧ P (.int l.length) L) ∨ ∃ (k : Nat) (kvs : List (List Key × D)), L[k]? = some (c, MO.dT kvs) ∧ P (.int kvs.length) L
  | _ => False
theorem RpK.len {κ : Type} {K : PySem.W.Frag} {G : Hp} {xs : List (κ × D)} {ws : List (κ × V)} (h : RpK K G xs ws) : xs.length = ws.length := Paired.length h
theorem c_len : CaD X (.builtin "len") lenD := by
  refine ⟨_, (call_len (X := X)).or call_len_dT, fun G H L ds vs P Q s r q p => ?_⟩
  unfold lenD at q
  split at q
  · obtain ⟨v, rfl, h1⟩ := r.v1
    have e : v = .str _ := h1
    subst e
    exact .inl ⟨_, _, rfl, ⟨q.1, rfl⟩, p (.int _) _ G H L (.refl _ _ _) s rfl q.2⟩
  · obtain ⟨v, rfl, h1⟩ := r.v1
    obtain ⟨a, us, rfl, h2, h3⟩ := h1
    exact .inl ⟨_, _, rfl, .inr ⟨us, SqT.of (s.ex _ _ h2), rfl⟩, p (.int _) _ G H L (.refl _ _ _) s (by rw [h3.len]; rfl) q⟩
  · obtain ⟨v, rfl, h1⟩ := r.v1
    obtain ⟨a, us, rfl, h2, h3⟩ := h1
    exact .inl ⟨_, _, rfl, .inl ⟨us, SqL.of (s.ex _ _ h2), rfl⟩, p (.int _) _ G H L (.refl _ _ _) s (by rw [h3.len]; rfl) q⟩
  · obtain ⟨v, rfl, h1⟩ := r.v1
    obtain ⟨a, us, rfl, h2, h3⟩ := h1
    exact .inl ⟨_, _, rfl, .inr ⟨us, s.ex.sqT h2, rfl⟩, p (.int _) _ G H L (.refl _ _ _) s (by rw [h3.len]; rfl) q⟩
  · obtain ⟨v, rfl, h1⟩ := r.v1
    obtain ⟨a, us, rfl, h2, h3⟩ := h1
    exact .inl ⟨_, _, rfl, .inl ⟨us, s.ex.sqL h2, rfl⟩, p (.int _) _ G H L (.refl _ _ _) s (by rw [h3.len]; rfl) q⟩
  · obtain ⟨v, rfl, h1⟩ := r.v1
    have e : v = .ref _ := h1
    subst e
    rcases q with ⟨k, l, hk, q⟩ | ⟨k, kvs, hk, q⟩
    · obtain ⟨u', hu, us, rfl, h3⟩ := s.cell hk
      exact .inl ⟨_, _, rfl, .inl ⟨us, SqL.of hu, rfl⟩, p (.int _) _ G H L (.refl _ _ _) s (by rw [h3.len]; rfl) q⟩
    · obtain ⟨u', hu, us, rfl, h3⟩ := s.cell hk
      exact .inr ⟨_, us, rfl, hu, p (.int _) _ G H L (.refl _ _ _) s (by rw [h3.len]; rfl) q⟩
  · exact q.elim
/-- abs, max, min of numbers; str, int, list, tuple -/
def absD (ds : List D) (L : Store) (P : PD) : Prop := isInt1 ds fun i => P (.int (if i < 0 then -i else i)) L
theorem c_abs : CaD X (.builtin "abs") absD := by
  refine ⟨_, call_abs, fun G H L ds vs P Q s r q p => ?_⟩
  obtain ⟨i, rfl, q⟩ := isInt1.get q
  obtain ⟨v, rfl, h1⟩ := r.v1
  have e : v = .int i := h1
  subst e
  exact ⟨i, rfl, p (.int _) _ G H L (.refl _ _ _) s rfl q⟩
/-- the least, the greatest of numbers, by what they are -/
def maxD (ds : List D) (L : Store) (P : PD) : Prop := match ds with
  | [.int i, .int j] => P (.int (if j > i then j else i)) L
  | [.lst l] => ∃ ns : List Int, l = ns.map D.int ∧ 0 < ns.length ∧ ∀ m, m ∈ ns → (∀ y, y ∈ ns → y ≤ m) → P (.int m) L
  | _ => False
def minD (ds : List D) (L : Store) (P : PD) : Prop := match ds with
  | [.int i, .int j] => P (.int (if j < i then j else i)) L
  | [.lst l] => ∃ ns : List Int, l = ns.map D.int ∧ 0 < ns.length ∧ ∀ m, m ∈ ns → (∀ y, y ∈ ns → m ≤ y) → P (.int m) L
  | _ => False
theorem c_max (hc : X.calm = true) : CaD X (.builtin "max") maxD := by
  refine ⟨_, (call_max2 hc).or (cr_max hc), fun G H L ds vs P Q s r q p => ?_⟩
  unfold maxD at q
  split at q
  · obtain ⟨v, v', rfl, h1, h2⟩ := r.v2
    have e : v = .int _ := h1
    have e' : v' = .int _ := h2
    subst e e'
    exact .inl ⟨_, _, rfl, p (.int _) _ G H L (.refl _ _ _) s rfl q⟩
  · obtain ⟨v, rfl, h1⟩ := r.v1
    obtain ⟨a, us, rfl, h2, h3⟩ := h1
    obtain ⟨ns, rfl, h0, q⟩ := q
    have e := h3.ints
    subst e
    exact .inr ⟨a, ns, rfl, SqL.of (s.ex _ _ h2), h0, fun m hm hy => p (.int m) _ G H L (.refl _ _ _) s rfl (q m hm hy)⟩
  · exact q.elim
theorem c_min (hc : X.calm = true) : CaD X (.builtin "min") minD := by
  refine ⟨_, (call_min2 hc).or (cr_min hc), fun G H L ds vs P Q s r q p => ?_⟩
  unfold minD at q
  split at q
  · obtain ⟨v, v', rfl, h1, h2⟩ := r.v2
    have e : v = .int _ := h1
    have e' : v' = .int _ := h2
    subst e e'
    exact .inl ⟨_, _, rfl, p (.int _) _ G H L (.refl _ _ _) s rfl q⟩
  · obtain ⟨v, rfl, h1⟩ := r.v1
    obtain ⟨a, us, rfl, h2, h3⟩ := h1
    obtain ⟨ns, rfl, h0, q⟩ := q
    have e := h3.ints
    subst e
    exact .inr ⟨a, ns, rfl, SqL.of (s.ex _ _ h2), h0, fun m hm hy => p (.int m) _ G H L (.refl _ _ _) s rfl (q m hm hy)⟩
  · exact q.elim
def strD (ds : List D) (L : Store) (P : PD) : Prop := isInt1 ds fun i => i.natAbs.log2 < 1920 ∧ P (.str (toString i)) L
theorem c_str : CaD X (.type "str") strD := by
  refine ⟨_, call_str_int, fun G H L ds vs P Q s r q p => ?_⟩
  obtain ⟨i, rfl, hz, q⟩ := isInt1.get q
  obtain ⟨v, rfl, h1⟩ := r.v1
  have e : v = .int i := h1
  subst e
  exact ⟨i, rfl, hz, p (.str _) _ G H L (.refl _ _ _) s rfl q⟩
/-- a new list of what a list or tuple holds: frozen, or a cell -/
def seqOf (d : D) (L : Store) (k : List D → Prop) : Prop := match d with
  | .tup l => k l
  | .lst l => k l
  | .kt l => k l
  | .sq l => k l
  | .cell c => ∃ (i : Nat) (l : List D), L[i]? = some (c, MO.lst l) ∧ k l
  | _ => False
theorem seqOf.ok {K : PySem.W.Frag} {G H : Hp} {L : Store} {d : D} {v : V} {k : List D → Prop} (s : Sat K G H L) (r : Rp K G d v) (h : seqOf d L k) : ∃ l a vs, v = .ref a ∧ (SqL K H a vs ∨ SqT K H a vs) ∧ RpL K G l vs ∧ k l := by
  cases d with
  | tup l =>
    obtain ⟨a, vs, e, h1, h2⟩ := r
    exact ⟨l, a, vs, e, .inr (SqT.of (s.ex _ _ h1)), h2, h⟩
  | lst l =>
    obtain ⟨a, vs, e, h1, h2⟩ := r
    exact ⟨l, a, vs, e, .inl (SqL.of (s.ex _ _ h1)), h2, h⟩
  | kt l =>
    obtain ⟨a, vs, e, h1, h2⟩ := r
    exact ⟨l, a, vs, e, .inr (s.ex.sqT h1), h2, h⟩
  | sq l =>
    obtain ⟨a, vs, e, h1, h2⟩ := r
    exact ⟨l, a, vs, e, .inl (s.ex.sqL h1), h2, h⟩
  | cell c =>
    have e : v = .ref c := r
    obtain ⟨i, l, h1, h2⟩ := h
    obtain ⟨u, hu, vs, rfl, h3⟩ := s.cell h1
    exact ⟨l, c, vs, e, .inl (SqL.of hu), h3, h2⟩
  | _ => exact h.elim
def is1 (ds : List D) (k : D → Prop) : Prop := match ds with
  | [d] => k d
  | _ => False
theorem is1.get {ds : List D} {k : D → Prop} (h : is1 ds k) : ∃ d, ds = [d] ∧ k d := by
  unfold is1 at h
  split at h
  · exact ⟨_, rfl, h⟩
  · exact h.elim
def listD (ds : List D) (L : Store) (P : PD) : Prop := is1 ds fun d => seqOf d L fun l => P (.lst l) L
def listC (ds : List D) (L : Store) (P : PD) : Prop := is1 ds fun d => seqOf d L fun l => ∀ a, P (.cell a) ((a, .lst l) :: L)
theorem c_list : CaD X (.type "list") listD := by
  refine ⟨_, call_list_of, fun G H L ds vs P Q s r q p => ?_⟩
  obtain ⟨d, rfl, q⟩ := q.get
  obtain ⟨v, rfl, h1⟩ := r.v1
  obtain ⟨l, a, us, rfl, h2, h3, q⟩ := q.ok s h1
  refine ⟨a, us, rfl, h2, fun x hx => ?_⟩
  obtain ⟨m1, s1⟩ := s.fresh (.lst us) hx
  exact p (.lst l) _ _ _ L m1 s1 ⟨x, _, rfl, upd_same, h3.mono m1.g⟩ q
theorem c_listC : CaD X (.type "list") listC := by
  refine ⟨_, call_list_of, fun G H L ds vs P Q s r q p => ?_⟩
  obtain ⟨d, rfl, q⟩ := q.get
  obtain ⟨v, rfl, h1⟩ := r.v1
  obtain ⟨l, a, us, rfl, h2, h3, q⟩ := q.ok s h1
  refine ⟨a, us, rfl, h2, fun x hx => ?_⟩
  obtain ⟨m1, s1⟩ := s.newCell (m := .lst l) (o := .lst us) hx ⟨us, rfl, h3⟩
  exact p (.cell x) _ _ _ _ m1 s1 rfl (q x)
/-- tuple(a list) -/
def tupleD (ds : List D) (L : Store) (P : PD) : Prop := match ds with
  | [.lst l] => P (.tup l) L
  | [.cell c] => ∃ (i : Nat) (l : List D), L[i]? = some (c, MO.lst l) ∧ P (.tup l) L
  | [.tup l] => P (.tup l) L
  | _ => False
theorem c_tuple : CaD X (.type "tuple") tupleD := by
  refine ⟨_, call_tuple_of, fun G H L ds vs P Q s r q p => ?_⟩
  unfold tupleD at q
  split at q
  · rename_i l
    obtain ⟨v, rfl, h1⟩ := r.v1
    obtain ⟨a, us, rfl, h2, h3⟩ := h1
    refine ⟨a, us, rfl, .inl ⟨SqL.of (s.ex _ _ h2), fun x hx => ?_⟩⟩
    obtain ⟨m1, s1⟩ := s.fresh (.tup us) hx
    exact p (.tup l) _ _ _ L m1 s1 ⟨x, _, rfl, upd_same, h3.mono m1.g⟩ q
  · obtain ⟨v, rfl, h1⟩ := r.v1
    have e : v = .ref _ := h1
    subst e
    obtain ⟨i, l, hi, q⟩ := q
    obtain ⟨u, hu, us, rfl, h3⟩ := s.cell hi
    refine ⟨_, us, rfl, .inl ⟨SqL.of hu, fun x hx => ?_⟩⟩
    obtain ⟨m1, s1⟩ := s.fresh (.tup us) hx
    exact p (.tup l) _ _ _ L m1 s1 ⟨x, _, rfl, upd_same, h3.mono m1.g⟩ q
  · rename_i l
    obtain ⟨v, rfl, h1⟩ := r.v1
    obtain ⟨a, us, e, h2, h3⟩ := id h1
    subst e
    exact ⟨a, us, rfl, .inr ⟨SqT.of (s.ex _ _ h2), p (.tup l) _ G H L (.refl _ _ _) s h1 q⟩⟩
  · exact q.elim
/-- any, all of a list of truths -/
def anyD (ds : List D) (L : Store) (P : PD) : Prop := is1 ds fun d => isLst d fun l => ∃ bs : List Bool, l = bs.map D.bl ∧ P (.bl (bs.any id)) L
def allD (ds : List D) (L : Store) (P : PD) : Prop := is1 ds fun d => isLst d fun l => ∃ bs : List Bool, l = bs.map D.bl ∧ P (.bl (bs.all id)) L
theorem c_any (hc : X.calm = true) : CaD X (.builtin "any") anyD := by
  refine ⟨_, cr_any hc, fun G H L ds vs P Q s r q p => ?_⟩
  obtain ⟨d, rfl, q1⟩ := q.get
  obtain ⟨l, rfl, bs, rfl, q2⟩ := q1.get
  obtain ⟨v, rfl, h1⟩ := r.v1
  obtain ⟨a, us, rfl, h2, h3⟩ := h1
  have e := h3.bls
  subst e
  exact ⟨a, bs, rfl, SqL.of (s.ex _ _ h2), p (.bl _) _ G H L (.refl _ _ _) s rfl q2⟩
theorem c_all (hc : X.calm = true) : CaD X (.builtin "all") allD := by
  refine ⟨_, cr_all hc, fun G H L ds vs P Q s r q p => ?_⟩
  obtain ⟨d, rfl, q1⟩ := q.get
  obtain ⟨l, rfl, bs, rfl, q2⟩ := q1.get
  obtain ⟨v, rfl, h1⟩ := r.v1
  obtain ⟨a, us, rfl, h2, h3⟩ := h1
  have e := h3.bls
  subst e
  exact ⟨a, bs, rfl, SqL.of (s.ex _ _ h2), p (.bl _) _ G H L (.refl _ _ _) s rfl q2⟩
end
end MW

namespace MW
open PySem PySem.Spec PyProof.Rows L2

/-! ### defs -/
abbrev FT := List D → Store → PD → PX → Prop
def spD (K : PySem.W.Frag) (n : Nat) (F : FT) : Sp := fun vs H Q E => vs.length = n ∧ ∃ G L ds P ex, Sat K G H L ∧ RpL K G ds vs ∧ F ds L P ex ∧ Po K G H L P Q ∧
  ∀ C G' H' L', Nx G H L G' H' L' → Sat K G' H' L' → ex C L' → E (.ref C) none H'
/-- the def x of the module keeps F, at most k calls deep -/
structure Fn (P : Program) (w : World) (K : PySem.W.Frag) (mg : Str → Option Value) (base : Heap) (k : Nat) (x : Str) (n : Nat) (F : FT) : Prop where
  ex : ∃ (f : Addr) (fd : FuncData) (ps : List Str), mg x = some (.ref f) ∧ PySem.W.keepIn K (.ref f) = true ∧ Binds K fd ps [] ∧ FnOk P w K mg base (L2.CX P w) k f fd ps (spD K n F)
/-- where a def's body stands -/
structure Cok (X : Cx) (W : WX) (N : List Str) (sc : Scope) (k : Nat) : Prop where
  hN : X.N = N
  hs : X.env.scope = sc
  calm : X.calm = true
  room : Room k X.A
  takes : Takes X W
  own : PassesOwn (model X.prog X.w) X.A X.env X.xe
  fn : ∀ x, X.fn x = true
  stk : X.stack = X.env :: X.outer
  frm : X.env.frame = some X.env.locals
  exs : X.ex = []
/-- a scope that says of the names what another says (but free ones may be cells) -/
structure Sc (s' s : Scope) : Prop where
  vis : ∀ x, Vis s x → Vis s' x
  loc : ∀ x, s.names.lookup x = some .local → s'.names.lookup x = some .local
  glo : ∀ x, s.names.lookup x = some .globalImplicit → s'.names.lookup x = some .globalImplicit
  cap : ∀ x, s.names.lookup x = some .cell ∨ s.names.lookup x = some .free → s'.names.lookup x = some .cell ∨ s'.names.lookup x = some .free
theorem Sc.refl (s : Scope) : Sc s s := ⟨fun _ h => h, fun _ h => h, fun _ h => h, fun _ h => h⟩
structure Nm (X : Cx) (N : List Str) (sc : Scope) : Prop where
  hN : X.N = N
  hs : Sc X.env.scope sc
theorem Cok.nm {X : Cx} {W : WX} {N : List Str} {sc : Scope} {k : Nat} (h : Cok X W N sc k) : Nm X N sc := ⟨h.hN, by rw [h.hs]; exact Sc.refl _⟩
/-- the name in slot i -/
theorem Nm.pv {X : Cx} {N : List Str} {sc : Scope} {x : Str} {pos : Pos} (h : Nm X N sc) (i : Nat) (hi : N[i]? = some x) (hv : Vis sc x) (hd : (x == ("__debug__" : Str)) = false := by decide) (hcd : (x == ("__classdict__" : Str)) = false := by decide) : PE X (.Name x pos) (tVar i) :=
  pe_var (by rw [h.hN]; exact hi) (h.hs.vis x hv) hd hcd
theorem Nm.gl {X : Cx} {N : List Str} {sc : Scope} {x : Str} (h : Nm X N sc) (hv : sc.names.lookup x = some .globalImplicit) : Gl X x := h.hs.glo x hv
/-- a store to the local name in slot i -/
theorem Nm.pg {X : Cx} {N : List Str} {sc : Scope} {x : Str} {pos : Pos} (h : Nm X N sc) (i : Nat) (nd : N.Nodup) (hi : N[i]? = some x) (hv : sc.names.lookup x = some .local) : PG X (.Name x pos) (gName i) :=
  pg_name (by rw [h.hN]; exact nd) (by rw [h.hN]; exact hi) (.inl (h.hs.loc x hv)) (.inr (h.hs.loc x hv))
/-- .. that is captured by a block within -/
theorem Cok.pgc {X : Cx} {W : WX} {N : List Str} {sc : Scope} {k : Nat} {x : Str} {pos : Pos} (h : Cok X W N sc k) (i : Nat) (nd : N.Nodup) (hi : N[i]? = some x) (hv : sc.names.lookup x = some .cell) : PG X (.Name x pos) (gName i) :=
  pg_name (by rw [h.hN]; exact nd) (by rw [h.hN]; exact hi) (.inr (by rw [h.hs]; exact hv)) (.inl (h.fn x))
section
variable {P : Program} {w : World} {K : PySem.W.Frag} {mg : Str → Option Value} {base : Heap}
theorem Fn.mono {j k : Nat} {x : Str} {n : Nat} {F : FT} (h : Fn P w K mg base j x n F) (hk : j ≤ k) : Fn P w K mg base k x n F := by
  obtain ⟨f, fd, ps, h1, h2, h3, h4⟩ := h.ex
  exact ⟨f, fd, ps, h1, h2, h3, h4.mono hk⟩
theorem Fn.imp {k : Nat} {x : Str} {n : Nat} {F F' : FT} (h : Fn P w K mg base k x n F) (hF : ∀ ds L P ex, F' ds L P ex → F ds L P ex) : Fn P w K mg base k x n F' := by
  obtain ⟨f, fd, ps, h1, h2, h3, h4⟩ := h.ex
  exact ⟨f, fd, ps, h1, h2, h3, h4.imp fun vs H Q E ⟨e, G, L, ds, P, ex, a, b, c, d⟩ => ⟨e, G, L, ds, P, ex, a, b, hF _ _ _ _ c, d⟩⟩
theorem start_rep {G : Hp} {N : List Str} {ds : List D} {vs : List V} (h : RpL K G ds vs) : SRep K G (L2.start N vs) (ds.map some ++ List.replicate (N.length - ds.length) none) := by
  have hl := h.len
  refine ⟨by unfold L2.start; simp [hl], fun i d e => ?_⟩
  by_cases hi : i < ds.length
  · rw [List.getElem?_append_left (by simpa using hi), List.getElem?_map] at e
    have e' : ds[i]? = some d := by
      cases q : ds[i]? with
      | none => rw [q] at e; cases e
      | some y => rw [q] at e; exact congrArg some (Option.some.inj (Option.some.inj e))
    obtain ⟨v, hv, r⟩ := h.get e'
    refine ⟨v, ?_, r⟩
    unfold L2.start
    rw [List.getElem?_append_left (by rw [List.length_map, hl]; exact hi), List.getElem?_map, hv]
    rfl
  · rw [List.getElem?_append_right (by simpa using hi), List.getElem?_replicate] at e
    split at e <;> cases e
/-- THE RULE for a def -/
theorem fn_mk {x qual : Str} {st : Stmt} {f : Addr} {fd : FuncData} {N ps : List Str} {k n : Nat} {F : FT} (hm : mg x = some (.ref f)) (hf : L2.Fun K x qual st f fd) (S : FnScope N ps (defScope st)) (hb : Binds K fd ps []) (hn : ps.length = n)
    (body : ∀ (X : Cx) (W : WX), X.prog = P → X.w = w → X.K = K → X.mg = mg → X.base = base → Cok X W N (defScope st) k → ∀ ds L Pd ex, ds.length = n → F ds L Pd ex →
      XB X W (defBody st) (ds.map some ++ List.replicate (N.length - n) none) L { nx := fun _ L' => Pd .non L', rt := Pd, ex := fun C _ L' => ex C L' }) : Fn P w K mg base (k + 1) x n F := by
  refine ⟨f, fd, ps, hm, hf.kp, hb, hf.okX S (fun vs H Q E h => by rw [hn]; exact h.1) (fun cdv A outer s H vs Q E hr h => ⟨_, pb_tw, ?_⟩)⟩
  obtain ⟨hl, G, L, ds, Pd, ex, sat, rep, hF, hp, hx⟩ := h
  have hd : ds.length = n := by rw [← rep.len]; exact hl
  have r := start_rep (N := N) rep
  rw [hd] at r
  refine body _ (fun cls d _ H => E cls d H) rfl rfl rfl rfl rfl ⟨rfl, rfl, rfl, hr, takes_of rfl rfl rfl rfl, passes_of rfl, fun _ => rfl, rfl, rfl, rfl⟩ ds L Pd ex hd hF G H _ _ sat r ⟨?_, hp, ?_, ?_, ?_⟩
  · exact fun σ' ρ' G' H' L' n' s' _ q => hp .non .non G' H' L' n' s' rfl q
  · exact fun _ _ _ _ _ _ _ _ q => q.elim
  · exact fun _ _ _ _ _ _ _ _ q => q.elim
  · exact fun C σ' ρ' G' H' L' n' s' _ q => hx C G' H' L' n' s' q
end
section
variable {X : Cx} {W : WX} {a b c e o : Expr} {es : List Expr} {st : Stmt} {sts : List Stmt} {ρ : Env} {L : Store} {P : PD} {ex : PX} {κ : SK} {pos : Pos} {N : List Str} {sc : Scope} {k : Nat}
/-- a call of such a def over a part of the store -/
theorem xe_call {x : Str} {n : Nat} {F : FT} {p0 : Pos} (m : List Bool) (h : Fn X.prog X.w X.K X.mg X.base k x n F) (hr : Room k X.A) (tk : Takes X W) (hg : Gl X x)
    (ha : XA X W (e :: es) ρ L (fun ds L1 => ds.length = n ∧ F ds (pick m L1) (fun d A => P d (join m A (rest m L1))) (fun C A => ex C (join m A (rest m L1)))) ex) (hdb : (x == ("__debug__" : Str)) = false := by decide)
    (he : starEach (e :: es) X.env = (false, eval e X.env) :: starEach es X.env := by rfl) (hpl : (backTo pos (starEach es X.env)).any (·.1) = false := by rfl) : XE X W (.Call (.Name x p0) (e :: es) [] pos) ρ L P ex := fun G H σ Q s r p x => by
  obtain ⟨f, fd, ps, h1, h2, h3, h4⟩ := h.ex
  refine tw_of (pe_callS h4 hr hg h1 h2 h3 (fun σ => passAt tk σ) pa_tw hdb he hpl) (ha G H σ _ s r (fun ds vs G1 H1 L1 n1 s1 r1 ⟨hl, q⟩ => ?_) x)
  obtain ⟨n0, s0⟩ := s1.perm (pick_rest m L1)
  have sA : Sat X.K G1 H1 (pick m L1) := (s0.drop (List.sublist_append_left _ _)).2
  refine ⟨by rw [r1.len]; exact hl, G1, pick m L1, ds, _, _, sA, r1, q, fun d v G' H' L' n' s' rd q' => ?_, fun C G' H' L' n' s' q' => ?_⟩
  · obtain ⟨n2, s2⟩ := s0.frame n' s'
    obtain ⟨n3, s3⟩ := s2.perm (join_perm m L' (rest m L1))
    exact p d v G' H' _ (n1.trans ((n0.trans n2).trans n3)) s3 rd q'
  · obtain ⟨n2, s2⟩ := s0.frame n' s'
    obtain ⟨n3, s3⟩ := s2.perm (join_perm m L' (rest m L1))
    exact x C G' H' _ (n1.trans ((n0.trans n2).trans n3)) s3 q'

/-! ### raise -/
/-- an own class of exceptions, made with a text -/
structure ExcK (K : PySem.W.Frag) (mg : Str → Option Value) (x : Str) (C : Addr) : Prop where
  g : mg x = some (.ref C)
  q : PySem.W.excIn K C HandSPX.veTail "ValueError.__new__" = true
  kp : PySem.W.keepIn K (.ref C) = true
  b : PySem.W.subIn K (.ref C) (.type "BaseException") = some true
  t : PySem.W.typeIn K (.ref C) = some (.type "type")
theorem xs_raise {x m : Str} {C : Addr} {j : Nat} {p1 p2 p3 : Pos} (hc : X.calm = true) (tk : Takes X W) (T : ExcK X.K X.mg x C) (hg : Gl X x) (q : κ.ex C ρ L) (hdb : (x == ("__debug__" : Str)) = false := by decide) :
    XS X W (.Raise (some (.Call (.Name x p1) [.Constant (.str m) j p2] [] p3)) none pos) ρ L κ := fun G H σ E s r p =>
  tsw_of (ps_raise hc tk (pmk_own PySem.F.excBase_ValueError T.q T.g T.kp (raises_own T.b T.t) hg hdb)) (p.ex C σ ρ G H L (.refl _ _ _) s r q)

/-! ### while -/
theorem xs_while (I : Nat → Env → Store → Prop) (m0 : Nat) (hp : PassesOwn (model X.prog X.w) X.A X.env X.xe) (h0 : I m0 ρ L)
    (ht : ∀ m ρ' L', I m ρ' L' → XT X W c ρ' L' (fun k L1 => if k = true then XB X W sts ρ' L1 { κ with nx := fun ρ2 L2 => ∃ m', m' < m ∧ I m' ρ2 L2, ct := fun ρ2 L2 => ∃ m', m' < m ∧ I m' ρ2 L2, bk := κ.nx } else κ.nx ρ' L1) (onE κ.ex ρ')) :
    XS X W (.While c sts [] pos) ρ L κ := fun G H σ E s r p => by
  refine tsw_of (ps_while hp pt_tw pb_tw) ⟨fun m => LoopSt X.K G H L (I m), ⟨m0, G, ρ, L, .refl _ _ _, s, r, h0⟩, fun m σ' H' ⟨G', ρ', L', n', s', r', q'⟩ => ?_⟩
  refine ht m ρ' L' q' G' H' σ' _ s' r' (fun b G1 H1 L1 n1 s1 q1 => ?_) ((p.ex.step n').at' r')
  have n2 := n'.trans n1
  cases b with
  | true =>
    rw [if_pos rfl] at q1 ⊢
    refine ⟨LoopSt X.K G H L fun ρ2 L2 => ∃ m', m' < m ∧ I m' ρ2 L2, fun σ2 H2 ⟨G2, ρ2, L2, n3, s3, r3, m', hm, q3⟩ => ⟨m', hm, G2, ρ2, L2, n3, s3, r3, q3⟩, q1 G1 H1 σ' _ s1 (r'.mono n1.g) ?_⟩
    exact ⟨LoopSt.of.step n2, p.rt.step n2, p.nx.step n2, LoopSt.of.step n2, p.ex.step n2⟩
  | false =>
    rw [if_neg (by decide)] at q1 ⊢
    exact p.nx σ' ρ' G1 H1 L1 n2 s1 (r'.mono n1.g) q1
end
end MW

namespace MW
open PySem PySem.Spec PyProof.Rows L2

/-! ### try: .. except X as n: m = n (what is caught is held by m behind it) -/
section
variable {X : Cx} {pins : List (Addr × Obj)} {σ : Sl} {H : Hp} {s sI : Shared}
/-- an object that stands, new since the entry, is known from here on -/
theorem inv_hold {a : Addr} {o : HO} (I : Inv X pins σ H s) (h0 : X.s_0.heap.get? a = none) (hx : X.ex = []) (hn : H a = none) (hL : a ≠ X.env.locals) (hc : ∀ x c, X.env.cells.lookup x = some c → c ≠ a) (hp : ∀ p ∈ X.pn ++ pins, p.1 ≠ a)
    (new : ObjOk X.prog X.w (upd H a o) s.heap a o) : Inv X pins σ (upd H a o) s := by
  have old : ∀ b u, H b = some u → upd H a o b = some u := fun b u e => by rw [upd_ne (ne_of_none e hn)]; exact e
  have B := I.base
  exact { ok := I.ok, os := I.os, bare := I.bare, loc := I.loc, cell := I.cell, len := I.len
          free := by rw [upd_ne (Ne.symm hL)]; exact I.free
          freeC := fun x c e => by rw [upd_ne (hc x c e)]; exact I.freeC x c e
          pin := fun p hm => by
            obtain ⟨p1, p2, p3⟩ := I.pin p hm
            exact ⟨p1, by rw [upd_ne (hp p hm)]; exact p2, p3⟩
          hok := I.hok.laidN (fun _ _ q => q) hn new
          base := { keep := B.keep, slot := B.slot, there := B.there
                    free := fun b u e n hb => by
                      rw [upd_ne (fun q => by rw [q, h0] at e; cases e)]
                      exact B.free b u e n hb
                    tups := fun b xs e => old _ _ (B.tups b xs e)
                    frzs := fun b u v e => old _ _ (B.frzs b u v e)
                    tbls := fun b ps e => by
                      obtain ⟨more, q⟩ := B.tbls b ps e
                      exact ⟨more, old _ _ q⟩ } }
/-- what an exception in the air tells of its own place -/
theorem new_place {a : Addr} {B : Heap} (J : Inv X pins σ H sI) (nb : ∀ b o, sI.heap.get? b = some o → b ∉ frs X.stack → B.get? b = some o) (hB : B.get? a = none) (hf : a ∉ frs X.stack) (hx : X.ex = []) :
    X.s_0.heap.get? a = none ∧ (∀ x c, X.env.cells.lookup x = some c → c ≠ a) ∧ ∀ p ∈ X.pn ++ pins, p.1 ≠ a := by
  have hI : sI.heap.get? a = none := by
    cases q : sI.heap.get? a with
    | none => rfl
    | some o =>
      have z := nb a o q hf
      rw [hB] at z; cases z
  refine ⟨?_, fun x c e z => ?_, fun p hp z => ?_⟩
  · cases q : X.s_0.heap.get? a with
    | none => rfl
    | some o =>
      obtain ⟨o', z⟩ := J.base.there a o q (by rw [hx]; exact fun z => nomatch z)
      rw [hI] at z; cases z
  · obtain ⟨v, o, ho, _⟩ := J.cell x c e
    rw [z, hI] at ho; cases ho
  · have q := (J.pin p hp).1
    rw [z, hI] at q; cases q
end
def wHold (K : PySem.W.Frag) (c : Value) (i j : Nat) (Wout : WX) (D : Ends) : WX := fun cls d σ H => ∃ b, PySem.W.exmOne K cls c = some b ∧
  (b = true → ∃ C, cls = .ref C ∧ d = none ∧ ∀ a, H a = none → D.nx (((σ.set i (some (.ref a))).set j (some (.ref a))).set i none) (upd H a (ExH C a))) ∧ (b = false → Wout cls d σ H)
section
variable {X : Cx} {x n m : Str} {c : Value} {i j : Nat} {body : List Stmt} {np pos pos' pm pn2 pa : Pos} {tb : WX → TS} {Wout : WX}
theorem ps_try_hold (hs : X.stack = X.env :: X.outer) (hf : X.env.frame = some X.env.locals) (hex : X.ex = []) (hN : X.N.Nodup) (hi : X.N[i]? = some n) (hln : X.env.kindOf n = some .local) (hj : X.N[j]? = some m) (hlm : Loc X.env.scope m) (hfm : X.fn m = true)
    (hdn : (n == ("__debug__" : Str)) = false) (hcn : (n == ("__classdict__" : Str)) = false) (hc : Names X x c) (tk : Takes X Wout)
    (hb : ∀ (W : WX) (pn : List (Addr × Obj)) (xe : Value → Shared → Prop), Takes (X.tr pn xe) W → PassesOwn (model X.prog X.w) X.A X.env xe → PSs (X.tr pn xe) body (tb W)) :
    PS X (.Try body [.ExceptHandler (some (.Name x np)) (some n) [.Assign [.Name m pm] (.Name n pn2) pa] pos'] [] [] pos) (fun D σ H => tb (wHold X.K c i j Wout D) D σ H) := by
  refine ⟨fun pins s σ H D I h => ?_⟩
  have ok := I.ok
  have fr : X.A.frames = some (X.env :: X.outer) := by rw [ok.frames, hs]
  refine wpAny_Try_except ?_
  refine wpAny_mono ((hb (wHold X.K c i j Wout D) (X.pn ++ pins) _ (fun u s' xx => ?_) PassesOwn.looking).run [] s σ H D (I.toTry _) h) (fun f s1 q => ?_) (fun e s1 he => he)
  · obtain ⟨a, B, sI, pins1, σ1, H1, cls, d, rfl, JI, nb, up, sky, na, os, ag, b, hb1, hyes, hno⟩ := xx
    have J : Inv X pins σ1 H1 sI := JI.ofTry ok
    have sky1 : Sky B (X.env :: X.outer) a (Zc cls d) X.env.locals s'.heap := by rw [← hs]; exact sky
    refine Sky.land Zc.steady fr hf sky1 fun h3 fl3 up3 => ?_
    have J3 : Inv X pins σ1 H1 { s' with heap := h3 } := J.landed nb fl3.1 (up.trans up3) os ag
    obtain ⟨oe3, vs3, he3, hz3, hd3⟩ := fl3.there
    have nfr : a ∉ frs (X.env :: X.outer) := fun hm => by
      obtain ⟨_, o', e', hnf⟩ := fl3.2.2.1.mem hm
      rw [he3] at e'; cases e'
      exact hnf _ hd3
    have nL : a ≠ X.env.locals := fun z => nfr (List.mem_filterMap.mpr ⟨X.env, List.mem_cons_self, by rw [hf, z]⟩)
    have nF : a ∉ X.fs := fun hm => by
      obtain ⟨e, he, q⟩ := List.mem_filterMap.mp hm
      exact nfr (List.mem_filterMap.mpr ⟨e, List.mem_cons_of_mem _ he, q⟩)
    obtain ⟨g1, g2, g3⟩ := new_place J nb fl3.2.1 (by rw [hs]; exact nfr) hex
    have S3 := J3.suite he3 hd3 na nL nF
    refine wpAny_handleBy_cons (codeAny_handlers_test ?_) (by intro q; cases q)
    have LM := PySem.W.exm_one (M := model X.prog X.w) (J3.kIn) (fun A Q E s k q => wpAny_typeOf_ref (k _ _ he3) (by rw [hz3.1]; exact q)) hb1
    have asked : ∀ {Q : Value → Shared → Prop} {E : Value → Shared → Prop}, Q c { s' with heap := h3 } → wpAny (model X.prog X.w) (X.A.mark (some (.ref a))) (eval (.Name x np) X.env) Q E { s' with heap := h3 } := fun {Q E} q => by
      obtain ⟨hg, hdbg, hm | ⟨hm, hv, hnn⟩⟩ := hc
      · exact ld_glob (X := X.suite a ((a, oe3) :: (X.pn ++ pins))) S3 hg hm q hdbg
      · exact ld_blt (X := X.suite a ((a, oe3) :: (X.pn ++ pins))) S3 hg hm hv q hnn hdbg
    refine asked (LM.here ?_)
    cases b with
    | true =>
      obtain ⟨C, ec, ed, hk⟩ := hyes rfl
      refine codeAny_handlers_suite_as ?_
      refine HandSPX.lands_againZ fl3 fun h4 fl4 up4 => ?_
      have J4 : Inv X pins σ1 H1 { s' with heap := h4 } := J.landed nb fl4.1 ((up.trans up3).trans up4) os ag
      obtain ⟨oe4, vs4, he4, hz4, hd4⟩ := fl4.there
      have S4 := J4.suite he4 hd4 na nL nF
      refine store_ok (X := X.suite a ((a, oe4) :: (X.pn ++ pins))) (v := .ref a) S4 hN hi (.inl hln) rfl (fun s5 S5 => ?_) (.inr hln)
      have st : PSs (X.suite a ((a, oe4) :: (X.pn ++ pins))) [.Assign [.Name m pm] (.Name n pn2) pa] (tAsg (tVar i) (gName j)) := pss_one (ps_asg (pe_var hi (.inl hln) hdn hcn) (pg_name hN hj hlm (.inl hfm)))
      refine wpAny_mono (st.run [] s5 _ H1 { nx := fun σ' H' => σ' = (σ1.set i (some (.ref a))).set j (some (.ref a)) ∧ H' = H1, rt := fun _ _ => False } S5 ⟨.ref a, ?_, rfl, rfl⟩) (fun f s6 hsp => ?_) (fun _ _ z => False.elim z)
      · refine List.getElem?_set_self ?_
        rw [J.len]
        exact (List.getElem?_eq_some_iff.mp hi).1
      · cases f with
        | next =>
          obtain ⟨σ6, H6, S6, e1, e2⟩ := hsp
          subst e1 e2
          obtain ⟨p1, p2, _⟩ := S6.pin (a, oe4) (List.mem_append_left _ List.mem_cons_self)
          have U6 : Inv X pins _ H6 s6 := S6.unsuite ok
          have V6 : Inv X pins _ (upd H6 a (ExH C a)) s6 := inv_hold U6 g1 hex p2 nL g2 g3 ⟨⟨oe4, vs4, p1, by rw [← ec, ← ed]; exact hz4, hd4⟩, ⟨oe4, p1⟩, fun h1 h2 ⟨o, v, q, r⟩ k => ⟨o, v, k o q, r⟩⟩
          exact gone_ok V6 hN hi hln fun s7 J7 => ⟨_, _, J7, hk a p2⟩
        | brk =>
          obtain ⟨_, _, _, q⟩ := hsp
          exact q.elim
        | cont =>
          obtain ⟨_, _, _, q⟩ := hsp
          exact q.elim
        | ret u =>
          obtain ⟨_, _, _, _, _, q⟩ := hsp
          exact q.elim
    | false =>
      show wpAny _ X.A (handleBy (.ref a) X.env []) _ _ _
      refine wpAny_handleBy_nil ?_
      obtain ⟨k1, k2, k3, oe, vs, T, oT, ts, he, hz, hd, h1, hr⟩ := id fl3
      unfold PySem.passOn
      refine wpAny_bind (wpAny_field he hd h1 ?_)
      rw [if_neg (show ¬ ((Value.ref T == Value.none) = true) from by simp)]
      have fin : wpAny (model X.prog X.w) X.A (setFlight (.ref a) X.env.frame) (fun _ s4 => wpAny (model X.prog X.w) X.A (throw (.ref a) : Sem Flow) (SP X pins D) X.xe s4) X.xe { s' with heap := h3 } := by
        rw [hf]
        refine HandSPX.setFlight_upZ fl3 fun h4 hh4 up4 => wpAny_throw (tk _ _ ?_)
        exact ⟨a, B, sI, pins, σ1, H1, cls, d, rfl, J, nb, (up.trans up3).trans up4, .inr (.inr (by rw [hs]; exact hh4)), na, os, ag, hno rfl⟩
      first
        | exact wpAny_bind (wpAny_pure (wpAny_bind fin))
        | exact wpAny_bind fin
  · cases f with
    | next =>
      obtain ⟨σ2, H2, J2, r⟩ := q
      exact wpAny_execs_nil ⟨σ2, H2, J2.ofTry ok, r⟩
    | brk =>
      obtain ⟨σ2, H2, J2, r⟩ := q
      exact ⟨σ2, H2, J2.ofTry ok, r⟩
    | cont =>
      obtain ⟨σ2, H2, J2, r⟩ := q
      exact ⟨σ2, H2, J2.ofTry ok, r⟩
    | ret u =>
      obtain ⟨v, σ2, H2, J2, r1, r2⟩ := q
      exact ⟨v, σ2, H2, J2.ofTry ok, r1, r2⟩
end
section
variable {X : Cx} {W : WX} {x n m : Str} {CM : Addr} {i j : Nat} {body : List Stmt} {np pos pos' pm pn2 pa : Pos} {ρ : Env} {L : Store} {κ : SK} {N : List Str} {sc : Scope} {k : Nat}
/-- try: body / except x as n: m = n, where the class at CM catches each class C of which ok C is said; slot i: n, slot j: m -/
theorem xs_try (hX : Cok X W N sc k) (hN : N.Nodup) (hi : N[i]? = some n) (hln : sc.names.lookup n = some .local) (hj : N[j]? = some m) (hlm : Loc sc m) (hdn : (n == ("__debug__" : Str)) = false) (hcn : (n == ("__classdict__" : Str)) = false)
    (hc : Names X x (.ref CM)) (ok : Addr → Prop) (hok : ∀ C, ok C → PySem.W.exmOne X.K (.ref C) (.ref CM) = some true)
    (h : ∀ (X' : Cx) (W' : WX), X'.prog = X.prog → X'.w = X.w → X'.K = X.K → X'.mg = X.mg → X'.base = X.base → Cok X' W' N sc k →
      XB X' W' body ρ L { nx := κ.nx, rt := κ.rt, bk := κ.bk, ct := κ.ct, ex := fun C ρ' L' => ok C ∧ κ.nx (((ρ'.set i (some (.exc C))).set j (some (.exc C))).set i none) L' }) :
    XS X W (.Try body [.ExceptHandler (some (.Name x np)) (some n) [.Assign [.Name m pm] (.Name n pn2) pa] pos'] [] [] pos) ρ L κ := fun G H σ E s r p => by
  refine tsw_of (ps_try_hold (i := i) (j := j) (c := .ref CM) (Wout := fun _ _ _ _ => False) (tb := fun W' => fun D σ H => ∀ pn xe, Takes (X.tr pn xe) W' → PassesOwn (model X.prog X.w) X.A X.env xe → tbw (X.tr pn xe) body D σ H)
    hX.stk hX.frm hX.exs (by rw [hX.hN]; exact hN) (by rw [hX.hN]; exact hi) (show X.env.scope.names.lookup n = some .local by rw [hX.hs]; exact hln) (by rw [hX.hN]; exact hj) (by rw [hX.hs]; exact hlm) (hX.fn m) hdn hcn hc takes0
    (fun W' pn xe tk own => ⟨fun pins sh σ H D I q => q pn xe tk own pins sh I⟩)) fun pn xe tk own => ?_
  refine h (X.tr pn xe) _ rfl rfl rfl rfl rfl ⟨hX.hN, hX.hs, hX.calm, hX.room, tk, own, hX.fn, hX.stk, hX.frm, hX.exs⟩ G H σ E s r ⟨p.nx, p.rt, p.bk, p.ct, ?_⟩
  rintro C σ' ρ' G' H' L' n' s' r' ⟨okC, q⟩
  refine ⟨true, hok C okC, fun _ => ⟨C, rfl, rfl, fun a ha => ?_⟩, fun q => by cases q⟩
  obtain ⟨n2, s2⟩ := s'.fresh (ExH C a) ha
  have rp : Rp X.K (upd G' a (ExH C a)) (.exc C) (.ref a) := ⟨a, rfl, upd_same⟩
  exact p.nx _ _ _ _ L' (n'.trans n2) s2 ((((r'.mono n2.g).set i rp).set j rp).unset i) q
/-- a class, a built-in class, by its name -/
theorem xe_glob {v : V} {u : Value} {d : D} {P : PD} {ex : PX} (hg : Gl X x) (hm : X.mg x = some u) (hr : RelV v u) (hd : ∀ G, Rp X.K G d v) (q : P d L) (hdb : (x == ("__debug__" : Str)) = false := by decide) : XE X W (.Name x pos) ρ L P ex := xe_c (pe_glob hg hm hr hdb) hd q
theorem xe_bltn {v : V} {u : Value} {d : D} {P : PD} {ex : PX} (hg : Gl X x) (hm : X.mg x = none) (hv : bootBuiltins x = some u) (hr : RelV v u) (hd : ∀ G, Rp X.K G d v) (q : P d L) (hn : x ≠ "__name__" := by decide) (hdb : (x == ("__debug__" : Str)) = false := by decide) : XE X W (.Name x pos) ρ L P ex := xe_c (pe_bltn hg hm hv hr hn hdb) hd q
end
/-! ### isinstance -/
def isExcC (K : PySem.W.Frag) (ds : List D) (L : Store) (P : PD) : Prop := match ds with
  | [.exc C, .raw c] => ExcC K C ∧ ∃ cv b, ClsV c cv ∧ PySem.W.kitOne K (.ref C) cv = some b ∧ P (.bl b) L
  | _ => False
theorem c_isExc {X : Cx} : CaD X (.builtin "isinstance") (isExcC X.K) := by
  refine ⟨fun vs H Q => ∃ C a c cv b, vs = [.ref a, c] ∧ H a = some (ExH C a) ∧ ExcC X.K C ∧ ClsV c cv ∧ PySem.W.kitOne X.K (.ref C) cv = some b ∧ Q (.bl b) H, ?_, fun G H L ds vs P Q s r q p => ?_⟩
  · intro pins s σ H xs us Q I r h
    obtain ⟨C, a, c, cv, b, rfl, ha, T, hcv, e, q⟩ := h
    obtain ⟨u1, u2, rfl, r1, r2⟩ := vals2 r
    cases r1
    have e2 := hcv.eq r2
    subst e2
    obtain ⟨⟨oe, vs, g1, g2, g3⟩, _⟩ := I.hok a _ ha
    have J : PySem.W.InstAt s.heap a oe C none := by
      obtain ⟨oc, od, oda, osl⟩ := oe
      obtain ⟨h1, h2⟩ := g2
      dsimp only at h1 h2 g3
      subst h1 h2 g3
      exact ⟨g1, rfl, rfl, trivial⟩
    exact PySem.W.kia_one (PySem.W.handS_kitx_exc T.hg T.hk T.hs T.hd T.ha T.hn T.ht T.hm) I.kIn J e (fun z => nomatch z) fun tk => ⟨.bl b, H, I.kept (t' := tk) fun _ _ z => z, rfl, q⟩
  · unfold isExcC at q
    split at q
    · rename_i C c
      obtain ⟨T, cv, b, k1, k2, q⟩ := q
      obtain ⟨v1, v2, rfl, r1, r2⟩ := r.v2
      obtain ⟨a, rfl, ha⟩ := r1
      have e : v2 = c := r2
      subst e
      exact ⟨C, a, v2, cv, b, rfl, s.ex _ _ ha, T, k1, k2, p (.bl b) _ G H L (.refl _ _ _) s rfl q⟩
    · exact q.elim
/-- the built-in type of a datum -/
def tyN (d : D) (L : Store) (k : String → Prop) : Prop := match d with
  | .non => k "NoneType"
  | .bl _ => k "bool"
  | .int _ => k "int"
  | .str _ => k "str"
  | .tup _ => k "tuple"
  | .lst _ => k "list"
  | .cell c => ∃ (i : Nat) (l : List D), L[i]? = some (c, MO.lst l) ∧ k "list"
  | _ => False
theorem tyN.ok {K : PySem.W.Frag} {G H : Hp} {L : Store} {d : D} {v : V} {k : String → Prop} (s : Sat K G H L) (r : Rp K G d v) (h : tyN d L k) : ∃ T, TyX K H v (.type T) ∧ k T := by
  cases d with
  | non => have e : v = .non := r; subst e; exact ⟨_, .base .non, h⟩
  | bl b => have e : v = .bl b := r; subst e; exact ⟨_, .base (.bl b), h⟩
  | int b => have e : v = .int b := r; subst e; exact ⟨_, .base (.int b), h⟩
  | str b => have e : v = .str b := r; subst e; exact ⟨_, .base (.str b), h⟩
  | tup l =>
    obtain ⟨a, vs, e, h1, h2⟩ := r
    subst e
    exact ⟨_, .base (.tup (s.ex _ _ h1)), h⟩
  | lst l =>
    obtain ⟨a, vs, e, h1, h2⟩ := r
    subst e
    exact ⟨_, .base (.lst (s.ex _ _ h1)), h⟩
  | cell c =>
    have e : v = .ref c := r
    subst e
    obtain ⟨i, l, h1, h2⟩ := h
    obtain ⟨u, hu, vs, rfl, h3⟩ := s.cell h1
    exact ⟨_, .base (.lst hu), h2⟩
  | _ => exact h.elim
def isTyD (ds : List D) (L : Store) (P : PD) : Prop := match ds with
  | [d, .raw (.ty T)] => tyN d L fun n => ∃ b, kitB n T = some b ∧ P (.bl b) L
  | _ => False
theorem c_isTy {X : Cx} : CaD X (.builtin "isinstance") isTyD := by
  refine ⟨_, call_isi, fun G H L ds vs P Q s r q p => ?_⟩
  unfold isTyD at q
  split at q
  · rename_i d T
    obtain ⟨v1, v2, rfl, r1, r2⟩ := r.v2
    have e : v2 = .ty T := r2
    subst e
    obtain ⟨n, h1, b, h2, q⟩ := q.ok s r1
    exact ⟨v1, _, _, _, b, rfl, .ty T, h1, kit_ty h2, p (.bl b) _ G H L (.refl _ _ _) s rfl q⟩
  · exact q.elim
end MW

namespace MW
open PySem PySem.Spec PyProof.Rows L2

/-! ### association lists -/
section
variable {κ β : Type} [DecidableEq κ]
def ag (kvs : List (κ × β)) (k : κ) : Option β := (kvs.find? fun kv => decide (kv.1 = k)).map (·.2)
def ap (kvs : List (κ × β)) (k : κ) (v : β) : List (κ × β) :=
  if (kvs.any fun kv => decide (kv.1 = k)) = true then kvs.map (fun kv => if kv.1 = k then (kv.1, v) else kv) else kvs ++ [(k, v)]
def ad (kvs : List (κ × β)) (k : κ) : List (κ × β) := kvs.filter fun kv => decide (kv.1 ≠ k)
theorem ag_nil {k : κ} : ag ([] : List (κ × β)) k = none := rfl
theorem ag_cons {p : κ × β} {r : List (κ × β)} {k : κ} : ag (p :: r) k = if p.1 = k then some p.2 else ag r k := by
  unfold ag
  by_cases e : p.1 = k
  · rw [List.find?_cons_of_pos (by simp [e]), if_pos e]; rfl
  · rw [List.find?_cons_of_neg (by simp [e]), if_neg e]
theorem ap_nil {k : κ} {v : β} : ap ([] : List (κ × β)) k v = [(k, v)] := by simp [ap]
theorem ag_any {kvs : List (κ × β)} {k : κ} : (kvs.any fun kv => decide (kv.1 = k)) = (ag kvs k).isSome := by
  induction kvs with
  | nil => rfl
  | cons p r ih =>
    rw [List.any_cons, ih, ag_cons]
    by_cases e : p.1 = k
    · simp [e]
    · simp [e]
theorem ag_map {k j : κ} {y : β} : ∀ {kvs : List (κ × β)}, ag (kvs.map fun kv => if kv.1 = k then (kv.1, y) else kv) j = (ag kvs j).map fun x => if j = k then y else x
  | [] => rfl
  | p :: r => by
    rw [List.map_cons, ag_cons, ag_cons, ag_map]
    by_cases e : p.1 = k
    · rw [if_pos e]
      by_cases e2 : p.1 = j
      · rw [if_pos e2, if_pos e2, Option.map_some, if_pos (e2.symm.trans e)]
      · rw [if_neg e2, if_neg e2]
    · rw [if_neg e]
      by_cases e2 : p.1 = j
      · rw [if_pos e2, if_pos e2, Option.map_some, if_neg (fun q => e (e2.trans q))]
      · rw [if_neg e2, if_neg e2]
theorem ag_app {k j : κ} {y : β} : ∀ {kvs : List (κ × β)}, ag (kvs ++ [(k, y)]) j = (ag kvs j).or (if k = j then some y else none)
  | [] => by
    rw [List.nil_append, ag_cons, ag_nil]
    simp
  | p :: r => by
    rw [List.cons_append, ag_cons, ag_cons, ag_app]
    by_cases e : p.1 = j
    · rw [if_pos e, if_pos e]; rfl
    · rw [if_neg e, if_neg e]
/-- what is found behind a store -/
theorem ag_ap {kvs : List (κ × β)} {k j : κ} {y : β} : ag (ap kvs k y) j = if j = k then some y else ag kvs j := by
  unfold ap
  by_cases h : (kvs.any fun kv => decide (kv.1 = k)) = true
  · rw [if_pos h, ag_map]
    rw [ag_any] at h
    obtain ⟨x, hx⟩ := Option.isSome_iff_exists.mp h
    by_cases e : j = k
    · subst e
      rw [hx, if_pos rfl]
      simp
    · rw [if_neg e]
      cases ag kvs j with
      | none => rfl
      | some z => simp [e]
  · rw [if_neg h, ag_app]
    rw [ag_any] at h
    by_cases e : j = k
    · subst e
      cases q : ag kvs j with
      | none => simp
      | some z => rw [q] at h; exact absurd rfl h
    · rw [if_neg (fun q => e q.symm), if_neg e, Option.or_none]
theorem ap_len {kvs : List (κ × β)} {k : κ} {y : β} : (ap kvs k y).length ≤ kvs.length + 1 := by
  unfold ap
  split <;> simp
end
section
variable {κ : Type} [DecidableEq κ] {K : PySem.W.Frag} {G : Hp}
theorem RpK.get {xs : List (κ × D)} {ws : List (κ × V)} (h : RpK K G xs ws) (k : κ) : (ag xs k = none ∧ valV ws k = none) ∨ ∃ d v, ag xs k = some d ∧ valV ws k = some v ∧ Rp K G d v := by
  induction h with
  | nil => exact .inl ⟨rfl, rfl⟩
  | @cons p q xs ws r _ ih =>
    by_cases e : p.1 = k
    · refine .inr ⟨p.2, q.2, ?_, ?_, r.2⟩
      · rw [ag_cons, if_pos e]
      · exact valV_pos (r.1 ▸ e)
    · rw [ag_cons, if_neg e, valV_neg (fun z => e (r.1.trans z))]
      exact ih
theorem RpK.any {xs : List (κ × D)} {ws : List (κ × V)} (h : RpK K G xs ws) (k : κ) : (xs.any fun kv => decide (kv.1 = k)) = ws.any fun kv => decide (kv.1 = k) := by
  induction h with
  | nil => rfl
  | @cons p q xs ws r _ ih => rw [List.any_cons, List.any_cons, ih, r.1]
theorem RpK.repl {xs : List (κ × D)} {ws : List (κ × V)} (h : RpK K G xs ws) (k : κ) {d : D} {v : V} (r : Rp K G d v) : RpK K G (xs.map fun kv => if kv.1 = k then (kv.1, d) else kv) (ws.map fun kv => if kv.1 = k then (kv.1, v) else kv) := by
  induction h with
  | nil => exact .nil
  | @cons p q xs ws r' _ ih =>
    rw [List.map_cons, List.map_cons]
    refine .cons ?_ ih
    by_cases e : p.1 = k
    · rw [if_pos e, if_pos (r'.1 ▸ e)]
      exact ⟨r'.1, r⟩
    · rw [if_neg e, if_neg (fun z => e (r'.1.trans z))]
      exact r'
theorem RpK.snoc {κ : Type} {K : PySem.W.Frag} {G : Hp} {xs : List (κ × D)} {ws : List (κ × V)} (h : RpK K G xs ws) (k : κ) {d : D} {v : V} (r : Rp K G d v) : RpK K G (xs ++ [(k, d)]) (ws ++ [(k, v)]) := by
  induction h with
  | nil => exact .cons ⟨rfl, r⟩ .nil
  | @cons p q xs ws r' _ ih => exact .cons r' ih
theorem RpK.put {xs : List (κ × D)} {ws : List (κ × V)} (h : RpK K G xs ws) (k : κ) {d : D} {v : V} (r : Rp K G d v) : RpK K G (ap xs k d) (putK ws k v) := by
  unfold ap putK
  rw [h.any k]
  split
  · exact h.repl k r
  · exact h.snoc k r
end

/-! ### dicts -/
def key1 : D → Option Key
  | .int i => some (.inl i)
  | .str s => some (.inr s)
  | _ => none
def keyL : List D → Option (List Key)
  | [] => some []
  | d :: ds => match key1 d, keyL ds with
    | some k, some ks => some (k :: ks)
    | _, _ => none
theorem keyL.ok {K : PySem.W.Frag} {G : Hp} : ∀ {ds : List D} {ks : List Key} {vs : List V}, keyL ds = some ks → RpL K G ds vs → vs = ks.map kV
  | [], ks, vs, h, r => by
    have e : vs = [] := r
    subst e
    cases h
    rfl
  | d :: ds, ks, vs, h, r => by
    obtain ⟨v, us, e, h1, h2⟩ := r
    subst e
    unfold keyL at h
    split at h
    · rename_i k ks' e1 e2
      cases h
      rw [List.map_cons, keyL.ok e2 h2]
      congr 1
      cases d <;> simp [key1] at e1
      · subst e1; exact h1
      · subst e1; exact h1
    · cases h
/-- what is asked of a dict by a key: the cell, what it holds under it -/
def dGet (d k : D) (L : Store) (q : Option D → Prop) : Prop := match d, k with
  | .cell c, .tup l => ∃ (i : Nat) (kvs : List (List Key × D)) (ks : List Key), (L[i]? = some (c, MO.dT kvs) ∨ L[i]? = some (c, MO.lkT kvs)) ∧ keyL l = some ks ∧ q (ag kvs ks)
  | .cell c, .int n => ∃ (i : Nat) (kvs : List (Key × D)), L[i]? = some (c, MO.dK kvs) ∧ q (ag kvs (.inl n))
  | .cell c, .str n => ∃ (i : Nat) (kvs : List (Key × D)), L[i]? = some (c, MO.dK kvs) ∧ q (ag kvs (.inr n))
  | _, _ => False
theorem dGet.ok {K : PySem.W.Frag} {G H : Hp} {L : Store} {d k : D} {v u : V} {q : Option D → Prop} (s : Sat K G H L) (r1 : Rp K G d v) (r2 : Rp K G k u) (h : dGet d k L q) :
    ∃ (c : Addr) (o : Option D) (z : Option V), v = .ref c ∧ DGet H c u z ∧ q o ∧ ((o = none ∧ z = none) ∨ ∃ x y, o = some x ∧ z = some y ∧ Rp K G x y) := by
  unfold dGet at h
  split at h
  · rename_i c l
    obtain ⟨i, kvs, ks, hi, hk, h⟩ := h
    obtain ⟨b, vs, rfl, h1, h2⟩ := r2
    have e := keyL.ok hk h2
    subst e
    have hb := s.ex _ _ h1
    rcases hi with hi | hi
    · obtain ⟨w, hw, ws, rfl, r⟩ := s.cell hi
      exact ⟨c, _, _, r1, DGet.t hw hb, h, r.get ks⟩
    · obtain ⟨w, hw, o, ws, rfl, r⟩ := s.cell hi
      exact ⟨c, _, _, r1, .inr ⟨ws, ks, b, .inr ⟨o, hw⟩, rfl, hb, rfl⟩, h, r.get ks⟩
  · rename_i c n
    obtain ⟨i, kvs, hi, h⟩ := h
    obtain ⟨w, hw, ws, rfl, r⟩ := s.cell hi
    have e : u = .int n := r2
    subst e
    exact ⟨c, _, _, r1, DGet.k (k := .inl n) hw, h, r.get _⟩
  · rename_i c n
    obtain ⟨i, kvs, hi, h⟩ := h
    obtain ⟨w, hw, ws, rfl, r⟩ := s.cell hi
    have e : u = .str n := r2
    subst e
    exact ⟨c, _, _, r1, DGet.k (k := .inr n) hw, h, r.get _⟩
  · exact h.elim
def isDict (d : D) (L : Store) (k : Prop) : Prop := match d with
  | .cell c => (∃ (i : Nat) (m : MO), L[i]? = some (c, m) ∧ match m with | .dT _ => True | .dK _ => True | .lkT _ => True | _ => False) ∧ k
  | _ => False
theorem isDict.ok {K : PySem.W.Frag} {G H : Hp} {L : Store} {d : D} {v : V} {k : Prop} (s : Sat K G H L) (r : Rp K G d v) (h : isDict d L k) : ∃ c, v = .ref c ∧ IsD H c ∧ k := by
  unfold isDict at h
  split at h
  · rename_i c
    obtain ⟨⟨i, m, hi, hm⟩, h⟩ := h
    obtain ⟨w, hw, r'⟩ := s.cell hi
    refine ⟨c, r, ?_, h⟩
    cases m with
    | dT kvs => obtain ⟨ws, rfl, _⟩ := r'; exact .inr ⟨ws, .inl hw⟩
    | dK kvs => obtain ⟨ws, rfl, _⟩ := r'; exact .inl ⟨ws, .inl hw⟩
    | lkT kvs => obtain ⟨o, ws, rfl, _⟩ := r'; exact .inr ⟨ws, .inr ⟨o, hw⟩⟩
    | _ => exact hm.elim
  · exact h.elim
section
variable {X : Cx} {W : WX} {a b c e o f value : Expr} {es : List Expr} {ρ : Env} {L : Store} {P : PD} {ex : PX} {κ : SK} {pos apos cpos pos' : Pos} {i : Expr}
/-- d[k], there -/
theorem xe_dget (hu : X.A.units + 1 < cLine) (h : XE X W o ρ L (fun d L1 => XE X W i ρ L1 (fun k L2 => dGet d k L2 fun z => ∃ x, z = some x ∧ P x L2) ex) ex) (hs : NoSl i := by intro _ _; rfl) : XE X W (.Subscript o i pos) ρ L P ex := fun G H σ Q s rs p x =>
  tw_of (pe_dget hu pe_tw pe_tw hs) (two h s rs x fun d1 d2 v u G2 H2 L2 n s2 r1 r2 q => by
    obtain ⟨c, o, z, rfl, h1, ⟨x, rfl, q⟩, h2⟩ := q.ok s2 r1 r2
    rcases h2 with ⟨e, _⟩ | ⟨x', y, e, rfl, r3⟩
    · cases e
    · cases e
      exact ⟨c, y, rfl, h1, (p.step n) x y G2 H2 L2 (.refl _ _ _) s2 r3 q⟩)
theorem m2_mk (hb : attributeBase o "get" X.env (eval o X.env) = eval o X.env) (hl : (apos.endLine == cpos.line) = true) (ht : starEach [e, f] X.env = [(false, eval e X.env), (false, eval f X.env)]) : M2 X o "get" apos e f cpos :=
  ⟨hb, by rw [ht]; rfl, hl, by rw [ht]; rfl⟩
/-- d.get(k, x) -/
theorem xe_get2 (hu : X.A.units + 1 < cLine) (h : XE X W o ρ L (fun d L1 => isDict d L1 (XE X W e ρ L1 (fun k L2 => XE X W f ρ L2 (fun y L3 => dGet d k L3 fun z => P (z.getD y) L3) ex) ex)) ex)
    (hb : attributeBase o "get" X.env (eval o X.env) = eval o X.env := by rfl) (hl : (apos.endLine == cpos.line) = true := by rfl) (ht : starEach [e, f] X.env = [(false, eval e X.env), (false, eval f X.env)] := by rfl) :
    XE X W (.Call (.Attribute o "get" apos) [e, f] [] cpos) ρ L P ex := fun G H σ Q s rs p x =>
  tw_of (pe_dget2 hu pe_tw pe_tw pe_tw (m2_mk hb hl ht)) (h G H σ _ s rs (fun d v G1 H1 L1 n1 s1 r1 q1 => by
    obtain ⟨c, rfl, h1, q1⟩ := q1.ok s1 r1
    refine ⟨c, rfl, h1, q1 G1 H1 σ _ s1 (rs.mono n1.g) (fun k u G2 H2 L2 n2 s2 r2 q2 => q2 G2 H2 σ _ s2 ((rs.mono n1.g).mono n2.g) (fun y w G3 H3 L3 n3 s3 r3 q3 => ?_) ((x.step n1).step n2)) (x.step n1)⟩
    obtain ⟨c', o, z, e1, h3, q, h4⟩ := q3.ok s3 (r1.mono (n2.g.trans n3.g)) (r2.mono n3.g)
    cases e1
    refine ⟨z, h3, ?_⟩
    rcases h4 with ⟨rfl, rfl⟩ | ⟨x', y', rfl, rfl, r4⟩
    · exact p y w G3 H3 L3 ((n1.trans n2).trans n3) s3 r3 q
    · exact p x' y' G3 H3 L3 ((n1.trans n2).trans n3) s3 r4 q) x)
/-- d[k] = v -/
def dPut (d k v : D) (L : Store) (q : Store → Prop) : Prop := match d, k with
  | .cell c, .tup l => ∃ (i : Nat) (kvs : List (List Key × D)) (ks : List Key), L[i]? = some (c, MO.dT kvs) ∧ keyL l = some ks ∧ kvs.length < sizeLine ∧ q (L.set i (c, .dT (ap kvs ks v)))
  | .cell c, .int n => ∃ (i : Nat) (kvs : List (Key × D)), L[i]? = some (c, MO.dK kvs) ∧ kvs.length < sizeLine ∧ q (L.set i (c, .dK (ap kvs (.inl n) v)))
  | .cell c, .str n => ∃ (i : Nat) (kvs : List (Key × D)), L[i]? = some (c, MO.dK kvs) ∧ kvs.length < sizeLine ∧ q (L.set i (c, .dK (ap kvs (.inr n) v)))
  | _, _ => False
theorem dPut.ok {K : PySem.W.Frag} {G H : Hp} {L : Store} {d k v : D} {d' k' v' : V} {q : Store → Prop} (s : Sat K G H L) (r1 : Rp K G d d') (r2 : Rp K G k k') (r3 : Rp K G v v') (h : dPut d k v L q) :
    ∃ (c : Addr) (H' : Hp) (L' : Store), d' = .ref c ∧ DPut H c k' v' H' ∧ Nx G H L G H' L' ∧ Sat K G H' L' ∧ q L' := by
  unfold dPut at h
  split at h
  · rename_i c l
    obtain ⟨i, kvs, ks, hi, hk, hz, h⟩ := h
    obtain ⟨b, vs, rfl, h1, h2⟩ := r2
    have e := keyL.ok hk h2
    subst e
    obtain ⟨w, hw, ws, rfl, r⟩ := s.cell hi
    obtain ⟨n1, s1⟩ := s.write (m' := .dT (ap kvs ks v)) (o := .dT (putK ws ks v')) hi ⟨_, rfl, r.put ks r3⟩
    exact ⟨c, _, _, r1, DPut.t hw (s.ex _ _ h1) (by rw [← r.len]; exact hz), n1, s1, h⟩
  · rename_i c n
    obtain ⟨i, kvs, hi, hz, h⟩ := h
    obtain ⟨w, hw, ws, rfl, r⟩ := s.cell hi
    have e : k' = .int n := r2
    subst e
    obtain ⟨n1, s1⟩ := s.write (m' := .dK (ap kvs (.inl n) v)) (o := .dK (putK ws (.inl n) v')) hi ⟨_, rfl, r.put _ r3⟩
    exact ⟨c, _, _, r1, DPut.k (k := .inl n) hw (by rw [← r.len]; exact hz), n1, s1, h⟩
  · rename_i c n
    obtain ⟨i, kvs, hi, hz, h⟩ := h
    obtain ⟨w, hw, ws, rfl, r⟩ := s.cell hi
    have e : k' = .str n := r2
    subst e
    obtain ⟨n1, s1⟩ := s.write (m' := .dK (ap kvs (.inr n) v)) (o := .dK (putK ws (.inr n) v')) hi ⟨_, rfl, r.put _ r3⟩
    exact ⟨c, _, _, r1, DPut.k (k := .inr n) hw (by rw [← r.len]; exact hz), n1, s1, h⟩
  · exact h.elim
theorem xs_dput (hu : X.A.units + 1 < cLine) (h : XE X W value ρ L (fun v L1 => XE X W o ρ L1 (fun d L2 => XE X W i ρ L2 (fun k L3 => dPut d k v L3 fun L4 => κ.nx ρ L4) (onE κ.ex ρ)) (onE κ.ex ρ)) (onE κ.ex ρ))
    (hs : swapsWith value (some (.Subscript o i pos')) pos.line X.env = pure false := by rfl) : XS X W (.Assign [.Subscript o i pos'] value pos) ρ L κ := fun G H σ E s r p =>
  tsw_of (ps_dput hu pe_tw pe_tw pe_tw hs) (h G H σ _ s r (fun v v' G1 H1 L1 n1 s1 r1 q1 => two q1 s1 (r.mono n1.g) ((p.ex.at' r).step n1) fun d k d' k' G3 H3 L3 n3 s3 r2 r3 q3 => by
    obtain ⟨c, H4, L4, rfl, h1, n4, s4, q4⟩ := q3.ok s3 r2 r3 (r1.mono n3.g)
    exact ⟨c, H4, rfl, h1, p.nx σ ρ _ H4 L4 ((n1.trans n3).trans n4) s4 (r.mono ((n1.trans n3).trans n4).g) q4⟩) (p.ex.at' r))
/-- k in d, k not in d -/
theorem xe_din (hu : X.A.units + 1 < cLine) (h : XE X W i ρ L (fun k L1 => XE X W o ρ L1 (fun d L2 => dGet d k L2 fun z => P (.bl z.isSome) L2) ex) ex) (h1 : behindInMarks .In o = false := by rfl) : XE X W (.Compare i [.In] [o] pos) ρ L P ex := fun G H σ Q s rs p x =>
  tw_of (pe_cmp (pc_din hu pe_tw pe_tw) h1) (two h s rs x fun d1 d2 v u G2 H2 L2 n s2 r1 r2 q => by
    obtain ⟨c, o, z, rfl, h1, q, h2⟩ := q.ok s2 r2 r1
    refine ⟨c, z, rfl, h1, (p.step n) (.bl o.isSome) _ G2 H2 L2 (.refl _ _ _) s2 ?_ q⟩
    rcases h2 with ⟨rfl, rfl⟩ | ⟨x', y, rfl, rfl, r3⟩ <;> rfl)
end
end MW

namespace MW
open PySem PySem.Spec PyProof.Rows L2

/-! ### a cell is frozen -/
theorem erase_perm {α : Type} : ∀ {l : List α} {i : Nat} {x : α}, l[i]? = some x → (x :: l.eraseIdx i).Perm l
  | [], i, x, h => by simp at h
  | y :: l, 0, x, h => by
    have e : y = x := by simpa using h
    subst e
    exact List.Perm.refl _
  | y :: l, i + 1, x, h => by
    have ih := erase_perm (l := l) (i := i) (x := x) (by simpa using h)
    exact (List.Perm.swap y x _).trans (ih.cons y)
section
variable {K : PySem.W.Frag} {G H : Hp} {L : Store}
theorem Sat.freeze0 {c : Addr} {l : List D} (s : Sat K G H ((c, .lst l) :: L)) : ∃ G', Nx G H ((c, .lst l) :: L) G' H L ∧ Sat K G' H L ∧ Rp K G' (.lst l) (.ref c) := by
  obtain ⟨g0, u, hu, vs, rfl, r⟩ := s.cl c (.lst l) List.mem_cons_self
  have nd : (c :: dom L).Nodup := s.nd
  obtain ⟨n1, n2⟩ := List.nodup_cons.mp nd
  have hx : Ex (upd G c (.lst vs)) H := fun a o e => by
    by_cases h : a = c
    · subst h; rw [upd_same] at e; rw [hu]; exact e
    · rw [upd_ne h] at e; exact s.ex a o e
  refine ⟨upd G c (.lst vs), ⟨.new g0, fun _ _ _ e => e, fun _ e => e, fun p _ h2 h3 => ?_, fun p hp => .inl (List.mem_cons_of_mem _ hp)⟩, ⟨hx, n2, fun d o hm => ?_⟩, ⟨c, vs, rfl, upd_same, r.mono (.new g0)⟩⟩
  · rw [upd_ne (fun e => h2 (by rw [e]; exact List.mem_cons_self))]; exact h3
  · obtain ⟨h1, w, h2, h3⟩ := s.cl d o (List.mem_cons_of_mem _ hm)
    refine ⟨?_, w, h2, h3.mono (.new g0)⟩
    rw [upd_ne (fun e => n1 (by rw [← e]; exact List.mem_map.mpr ⟨_, hm, rfl⟩))]
    exact h1
theorem Sat.freeze {i : Nat} {c : Addr} {l : List D} (s : Sat K G H L) (h : L[i]? = some (c, .lst l)) : ∃ G', Nx G H L G' H (L.eraseIdx i) ∧ Sat K G' H (L.eraseIdx i) ∧ Rp K G' (.lst l) (.ref c) := by
  obtain ⟨n1, s1⟩ := s.perm (erase_perm h)
  obtain ⟨G', n2, s2, r⟩ := s1.freeze0
  exact ⟨G', n1.trans n2, s2, r⟩
end
section
variable {X : Cx} {W : WX} {a b c e o f value : Expr} {es : List Expr} {st : Stmt} {sts : List Stmt} {ρ : Env} {L : Store} {P : PD} {ex : PX} {κ : SK} {pos apos cpos pos' : Pos}
/-- the name in slot j holds the cell of place i: frozen from here on -/
theorem xb_freeze (i j : Nat) {c : Addr} {l : List D} (h : L[i]? = some (c, .lst l)) (hj : ρ[j]? = some (some (.cell c))) (k : XB X W sts (ρ.set j (some (.lst l))) (L.eraseIdx i) κ) : XB X W sts ρ L κ := fun G H σ E s r p => by
  obtain ⟨G', n, s', rp⟩ := s.freeze h
  obtain ⟨v, hv, e⟩ := r.at' j _ hj
  have e' : v = .ref c := e
  subst e'
  have hs : σ.set j (some (.ref c)) = σ := by
    apply List.ext_getElem?
    intro q
    by_cases hq : j = q
    · subst hq
      rw [List.getElem?_set_self (List.getElem?_eq_some_iff.mp hv).1, hv]
    · rw [List.getElem?_set_ne hq]
  have r' := (r.mono n.g).set j rp
  rw [hs] at r'
  exact k G' H σ E s' r' (p.step n)
/-- what an expression gives, a cell: frozen -/
theorem XE.freeze (h : XE X W e ρ L (fun d L1 => ∃ (i : Nat) (c : Addr) (l : List D), d = .cell c ∧ L1[i]? = some (c, MO.lst l) ∧ P (.lst l) (L1.eraseIdx i)) ex) : XE X W e ρ L P ex := fun G H σ Q s r p x =>
  h G H σ Q s r (fun d v G' H' L' n s' rd ⟨i, c, l, e1, hi, q⟩ => by
    subst e1
    obtain ⟨G2, n2, s2, rp⟩ := s'.freeze hi
    have e' : v = .ref c := rd
    subst e'
    exact p (.lst l) _ G2 H' _ (n.trans n2) s2 rp q) x

/-! ### list comprehensions -/
def setAll {α : Type} (σ : List (Option α)) : List Nat → List α → List (Option α)
  | j :: js, x :: xs => setAll (σ.set j (some x)) js xs
  | _, _ => σ
def wipeG {α : Type} (σ : List (Option α)) : List Nat → List (Option α)
  | [] => σ
  | v :: vs => (wipeG σ vs).set v none
theorem wipe_at {σ : Sl} {i : Nat} : ∀ {vs : List Nat}, (wipe σ vs)[i]? = if i ∈ vs then σ[i]?.map fun _ => none else σ[i]?
  | [] => by simp [wipe]
  | v :: vs => by
    unfold wipe
    by_cases h : v = i
    · subst h
      have hl := wipe_length σ vs
      by_cases hv : v < σ.length
      · rw [List.getElem?_set_self (by rw [hl]; exact hv), if_pos List.mem_cons_self, List.getElem?_eq_getElem hv]
        rfl
      · rw [List.getElem?_eq_none (by rw [List.length_set, hl]; omega), if_pos List.mem_cons_self, List.getElem?_eq_none (by omega)]
        rfl
    · rw [List.getElem?_set_ne h, wipe_at]
      have e : (i ∈ v :: vs) ↔ i ∈ vs := by rw [List.mem_cons]; exact ⟨fun z => z.resolve_left (fun q => h q.symm), .inr⟩
      by_cases q : i ∈ vs
      · rw [if_pos q, if_pos (e.mpr q)]
      · rw [if_neg q, if_neg (fun z => q (e.mp z))]
theorem wipe_set {σ : Sl} {vs : List Nat} {j : Nat} {x : Option V} (h : j ∈ vs) : wipe (σ.set j x) vs = wipe σ vs := by
  apply List.ext_getElem?
  intro i
  rw [wipe_at, wipe_at]
  by_cases q : i ∈ vs
  · rw [if_pos q, if_pos q]
    by_cases e : j = i
    · subst e
      by_cases hv : j < σ.length
      · rw [List.getElem?_set_self hv, List.getElem?_eq_getElem hv]; rfl
      · rw [List.getElem?_eq_none (by rw [List.length_set]; omega), List.getElem?_eq_none (by omega)]
    · rw [List.getElem?_set_ne e]
  · rw [if_neg q, if_neg q, List.getElem?_set_ne (fun e => q (by rw [← e]; exact h))]
theorem wipe_all {vs : List Nat} : ∀ {js : List Nat} {σ : Sl} {xs : List V}, (∀ j ∈ js, j ∈ vs) → wipe (setAll σ js xs) vs = wipe σ vs
  | [], σ, xs, _ => by cases xs <;> rfl
  | j :: js, σ, [], _ => rfl
  | j :: js, σ, x :: xs, h => by
    unfold setAll
    rw [wipe_all (fun q hq => h q (List.mem_cons_of_mem _ hq)), wipe_set (h j List.mem_cons_self)]
theorem wipe_wipe {σ : Sl} {vs : List Nat} : wipe (wipe σ vs) vs = wipe σ vs := by
  apply List.ext_getElem?
  intro i
  rw [wipe_at, wipe_at]
  by_cases q : i ∈ vs
  · rw [if_pos q, if_pos q]
    cases σ[i]? <;> rfl
  · rw [if_neg q, if_neg q]
theorem wipeG_at {ρ : Env} {i : Nat} {d : D} : ∀ {vs : List Nat}, (wipeG ρ vs)[i]? = some (some d) → ρ[i]? = some (some d) ∧ i ∉ vs
  | [], h => ⟨h, by simp⟩
  | v :: vs, h => by
    unfold wipeG at h
    by_cases e : v = i
    · subst e
      by_cases hv : v < (wipeG ρ vs).length
      · rw [List.getElem?_set_self hv] at h; cases h
      · rw [List.getElem?_eq_none (by rw [List.length_set]; omega)] at h; cases h
    · rw [List.getElem?_set_ne e] at h
      obtain ⟨h1, h2⟩ := wipeG_at h
      exact ⟨h1, fun z => (List.mem_cons.mp z).elim (fun q => e q.symm) h2⟩
theorem wipeG_len {ρ : Env} : ∀ {vs : List Nat}, (wipeG ρ vs).length = ρ.length
  | [] => rfl
  | v :: vs => by unfold wipeG; rw [List.length_set, wipeG_len]
theorem SRep.wipe {K : PySem.W.Frag} {G : Hp} {σ : Sl} {ρ : Env} (h : SRep K G σ ρ) (vs : List Nat) : SRep K G (L2.wipe σ vs) (wipeG ρ vs) := by
  refine ⟨by rw [wipe_length, wipeG_len]; exact h.len, fun i d e => ?_⟩
  obtain ⟨h1, h2⟩ := wipeG_at e
  obtain ⟨v, hv, r⟩ := h.at' i d h1
  exact ⟨v, by rw [wipe_at, if_neg h2]; exact hv, r⟩
theorem SRep.setAll {K : PySem.W.Frag} {G : Hp} : ∀ {js : List Nat} {σ : Sl} {ρ : Env} {ds : List D} {vs : List V}, SRep K G σ ρ → RpL K G ds vs → SRep K G (setAll σ js vs) (setAll ρ js ds)
  | [], σ, ρ, ds, vs, h, _ => by cases ds <;> cases vs <;> exact h
  | j :: js, σ, ρ, [], vs, h, r => by
    have e : vs = [] := r
    subst e
    exact h
  | j :: js, σ, ρ, d :: ds, vs, h, r => by
    obtain ⟨v, us, e, h1, h2⟩ := r
    subst e
    exact SRep.setAll (js := js) (h.set j h1) h2
def gNames : List Nat → TGs
  | [] => gNil
  | j :: js => gCons (gName j) (gNames js)
theorem gNames_ok : ∀ {js : List Nat} {vs : List V} {σ : Sl} {H : Hp} {Q : Sl → Hp → Prop}, vs.length = js.length → Q (setAll σ js vs) H → gNames js vs σ H Q
  | [], [], σ, H, Q, _, q => ⟨rfl, q⟩
  | [], v :: vs, _, _, _, h, _ => by simp at h
  | j :: js, [], _, _, _, h, _ => by simp at h
  | j :: js, v :: vs, σ, H, Q, h, q => ⟨v, vs, rfl, gNames_ok (js := js) (by simpa using h) q⟩
theorem relab_look {env : PySem.Env} {x : Str} : ∀ {ns : List (Str × NameKind)}, (ns.lookup x = some .free ∧ ((ns.map fun (n, k) => if (k == NameKind.free && env.scope.kind == .function && env.kindOf n == some .cell) then (n, NameKind.cell) else (n, k)).lookup x = some .cell ∨ (ns.map fun (n, k) => if (k == NameKind.free && env.scope.kind == .function && env.kindOf n == some .cell) then (n, NameKind.cell) else (n, k)).lookup x = some .free)) ∨
    (ns.map fun (n, k) => if (k == NameKind.free && env.scope.kind == .function && env.kindOf n == some .cell) then (n, NameKind.cell) else (n, k)).lookup x = ns.lookup x
  | [] => .inr rfl
  | (n, k) :: r => by
    have ih := @relab_look env x r
    cases hx : x == n with
    | true =>
      by_cases hc : (k == NameKind.free && env.scope.kind == .function && env.kindOf n == some .cell) = true
      · have hk : k = .free := by
          simp only [Bool.and_eq_true, beq_iff_eq] at hc
          exact hc.1.1
        subst hk
        refine .inl ⟨by simp [List.lookup_cons, hx], .inl ?_⟩
        rw [List.map_cons]
        show List.lookup x ((if (NameKind.free == NameKind.free && env.scope.kind == .function && env.kindOf n == some .cell) = true then (n, NameKind.cell) else (n, NameKind.free)) :: _) = _
        rw [if_pos hc]
        simp [List.lookup_cons, hx]
      · refine .inr ?_
        rw [List.map_cons]
        show List.lookup x ((if (k == NameKind.free && env.scope.kind == .function && env.kindOf n == some .cell) = true then (n, NameKind.cell) else (n, k)) :: _) = _
        rw [if_neg hc]
        simp [List.lookup_cons, hx]
    | false =>
      have e1 : List.lookup x ((n, k) :: r) = List.lookup x r := by simp [List.lookup_cons, hx]
      have e2 : ∀ k' l, List.lookup x ((n, k') :: l) = List.lookup x (l : List (Str × NameKind)) := fun k' l => by simp [List.lookup_cons, hx]
      rw [List.map_cons, e1]
      show (_ ∧ (List.lookup x ((if (k == NameKind.free && env.scope.kind == .function && env.kindOf n == some .cell) = true then (n, NameKind.cell) else (n, k)) :: _) = _ ∨ List.lookup x ((if (k == NameKind.free && env.scope.kind == .function && env.kindOf n == some .cell) = true then (n, NameKind.cell) else (n, k)) :: _) = _)) ∨ List.lookup x ((if (k == NameKind.free && env.scope.kind == .function && env.kindOf n == some .cell) = true then (n, NameKind.cell) else (n, k)) :: _) = _
      by_cases hc : (k == NameKind.free && env.scope.kind == .function && env.kindOf n == some .cell) = true
      · rw [if_pos hc, e2]; exact ih
      · rw [if_neg hc, e2]; exact ih
theorem sc_relab {scope : Scope} {env : PySem.Env} : Sc (PySem.relabel scope env) scope := by
  have key := fun x => @relab_look env x scope.names
  refine ⟨fun x h => ?_, fun x h => ?_, fun x h => ?_, fun x h => ?_⟩
  · rcases key x with ⟨_, q | q⟩ | q
    · exact .inr (.inl q)
    · exact .inr (.inr q)
    · show (PySem.relabel scope env).names.lookup x = _ ∨ (PySem.relabel scope env).names.lookup x = _ ∨ (PySem.relabel scope env).names.lookup x = _
      rw [show (PySem.relabel scope env).names.lookup x = scope.names.lookup x from q]
      exact h
  · rcases key x with ⟨q, _⟩ | q
    · rw [q] at h; cases h
    · exact q.trans h
  · rcases key x with ⟨q, _⟩ | q
    · rw [q] at h; cases h
    · exact q.trans h
  · rcases key x with ⟨_, q⟩ | q
    · exact q
    · show (PySem.relabel scope env).names.lookup x = _ ∨ (PySem.relabel scope env).names.lookup x = _
      rw [show (PySem.relabel scope env).names.lookup x = scope.names.lookup x from q]
      exact h
/-- where a comprehension's block stands -/
structure Blk (X X' : Cx) (N : List Str) (sc : Scope) (k : Nat) : Prop where
  hp : X'.prog = X.prog
  hw : X'.w = X.w
  hK : X'.K = X.K
  hm : X'.mg = X.mg
  hb : X'.base = X.base
  nm : Nm X' N sc
  calm : X'.calm = true
  room : Room k X'.A
abbrev WF : WX := fun _ _ _ _ => False
abbrev noX : PX := fun _ _ => False
theorem noX_pe {K : PySem.W.Frag} {G H : Hp} {L : Store} {W : WX} {σ : Sl} : Pe K G H L noX W σ := fun _ _ _ _ _ _ q => q.elim
/-- one turn of a comprehension: what is asked of its tests and its element; acc: what is made so far -/
def Turn1 (X : Cx) (N : List Str) (scope : Scope) (k : Nat) (ifs : List Expr) (elt : Expr) (ρ2 : Env) (L : Store) (acc : List D) (J : List D → Store → Prop) : Prop :=
  ∀ X', Blk X X' N scope k → match ifs with
    | [] => XE X' WF elt ρ2 L (fun y L3 => acc.length < sizeLine ∧ J (acc ++ [y]) L3) noX
    | [t] => XT X' WF t ρ2 L (fun b L2 => if b = true then ∀ X'', Blk X X'' N scope k → XE X'' WF elt ρ2 L2 (fun y L3 => acc.length < sizeLine ∧ J (acc ++ [y]) L3) noX else J acc L2) noX
    | _ => False
section
variable {N : List Str} {sc scope : Scope} {k : Nat} {own : List (Str × Nat)} {elt tg iter : Expr} {ifs : List Expr}
/-- the state between two turns -/
def CSt (K : PySem.W.Frag) (G0 H0 : Hp) (L0 : Store) (A : Addr) (J : List D → Store → Prop) (H : Hp) : Prop := ∃ G acc L, Nx G0 H0 L0 G H ((A, .lst acc) :: L) ∧ Sat K G H ((A, .lst acc) :: L) ∧ J acc L
def teC (X : Cx) (scope : Scope) (elt : Expr) : TE := fun σ H Q => ∀ (s : Shared) (H0 : Hp) (C : Addr) (cl : List (Str × Addr)) (fp : List Addr), tw (X.blk s H0 scope (compEnvC scope cl C X.env) fp) elt σ H Q
def ttC (X : Cx) (scope : Scope) (t : Expr) : TT := fun σ H Q => ∀ (s : Shared) (H0 : Hp) (C : Addr) (cl : List (Str × Addr)) (fp : List Addr), ttw (X.blk s H0 scope (compEnvC scope cl C X.env) fp) t σ H Q
def tifs (X : Cx) (scope : Scope) : List Expr → TT
  | [] => tYes
  | [t] => ttC X scope t
  | _ => fun _ _ _ => False
theorem elt_ok {X : Cx} {scope : Scope} {elt : Expr} {σ2 : Sl} {G0 H0 G H : Hp} {L0 L : Store} {A : Addr} {acc : List D} {J : List D → Store → Prop} {ρ2 : Env} {k : Nat} {N : List Str} {Qn : Hp → Prop}
    (hb : ∀ (s : Shared) (H0 : Hp) (C : Addr) (cl : List (Str × Addr)) (fp : List Addr), XE (X.blk s H0 scope (compEnvC scope cl C X.env) fp) WF elt ρ2 L (fun y L3 => acc.length < sizeLine ∧ J (acc ++ [y]) L3) noX)
    (n : Nx G0 H0 L0 G H ((A, .lst acc) :: L)) (s : Sat X.K G H ((A, .lst acc) :: L)) (r : SRep X.K G σ2 ρ2) (hq : ∀ H', CSt X.K G0 H0 L0 A J H' → Qn H') :
    teC X scope elt σ2 H fun y H4 => ∃ av, H4 A = some (.lst av) ∧ av.length < sizeLine ∧ Qn (upd H4 A (.lst (av ++ [y]))) := by
  intro s0 H0' C cl fp
  have pm : (L ++ [(A, MO.lst acc)]).Perm ((A, MO.lst acc) :: L) := by
    have z := List.perm_append_comm (l₁ := L) (l₂ := [(A, MO.lst acc)])
    exact z
  obtain ⟨n1, s1⟩ := s.perm pm
  have sL : Sat X.K G H L := (s1.drop (List.sublist_append_left _ _)).2
  refine hb s0 H0' C cl fp G H σ2 _ sL r (fun d v G4 H4 L4 n4 s4 rd q => ?_) noX_pe
  obtain ⟨n5, s5⟩ := s1.frame n4 s4
  have pm2 : ((A, MO.lst acc) :: L4).Perm (L4 ++ [(A, MO.lst acc)]) := by
    have z := List.perm_append_comm (l₁ := [(A, MO.lst acc)]) (l₂ := L4)
    exact z
  obtain ⟨n6, s6⟩ := s5.perm pm2
  obtain ⟨u, hu, vs, rfl, rv⟩ := s6.cell (i := 0) rfl
  obtain ⟨n7, s7⟩ := s6.write (i := 0) (c := A) (m' := .lst (acc ++ [d])) (o := .lst (vs ++ [v])) rfl ⟨_, rfl, rv.app (.one rd)⟩
  exact ⟨vs, hu, by rw [rv.len]; exact q.1, hq _ ⟨G4, acc ++ [d], L4, (((n.trans n1).trans n5).trans n6).trans n7, s7, q.2⟩⟩
theorem turn_ok {X : Cx} {σ2 : Sl} {G0 H0 G H : Hp} {L0 L : Store} {A : Addr} {acc : List D} {J : List D → Store → Prop} {ρ2 : Env} {Qn : Hp → Prop} (calm : X.calm = true) (room : Room k X.A) (hNX : X.N = N)
    (ht : Turn1 X N scope k ifs elt ρ2 L acc J) (n : Nx G0 H0 L0 G H ((A, .lst acc) :: L)) (s : Sat X.K G H ((A, .lst acc) :: L)) (r : SRep X.K G σ2 ρ2) (hq : ∀ H', CSt X.K G0 H0 L0 A J H' → Qn H') :
    tifs X scope ifs σ2 H fun b H3 => if b = true then teC X scope elt σ2 H3 fun y H4 => ∃ av, H4 A = some (.lst av) ∧ av.length < sizeLine ∧ Qn (upd H4 A (.lst (av ++ [y]))) else Qn H3 := by
  have bk : ∀ (s : Shared) (H0 : Hp) (C : Addr) (cl : List (Str × Addr)) (fp : List Addr), Blk X (X.blk s H0 scope (compEnvC scope cl C X.env) fp) N scope k := fun s H0 C cl fp => ⟨rfl, rfl, rfl, rfl, rfl, ⟨hNX, sc_relab⟩, calm, room⟩
  match ifs, ht with
  | [], ht =>
    show (if true = true then (teC X scope elt σ2 H fun y H4 => ∃ av, H4 A = some (.lst av) ∧ av.length < sizeLine ∧ Qn (upd H4 A (.lst (av ++ [y])))) else Qn H)
    rw [if_pos rfl]
    exact elt_ok (k := k) (N := N) (fun s H0 C cl fp => ht _ (bk s H0 C cl fp)) n s r hq
  | [t], ht =>
    intro s0 H0' C cl fp
    have pm : (L ++ [(A, MO.lst acc)]).Perm ((A, MO.lst acc) :: L) := List.perm_append_comm (l₁ := L) (l₂ := [(A, MO.lst acc)])
    obtain ⟨n1, s1⟩ := s.perm pm
    have sL : Sat X.K G H L := (s1.drop (List.sublist_append_left _ _)).2
    refine ht _ (bk s0 H0' C cl fp) G H σ2 _ sL r (fun b G4 H4 L4 n4 s4 q => ?_) noX_pe
    obtain ⟨n5, s5⟩ := s1.frame n4 s4
    have pm2 : ((A, MO.lst acc) :: L4).Perm (L4 ++ [(A, MO.lst acc)]) := List.perm_append_comm (l₁ := [(A, MO.lst acc)]) (l₂ := L4)
    obtain ⟨n6, s6⟩ := s5.perm pm2
    have nn := ((n.trans n1).trans n5).trans n6
    cases b with
    | true =>
      rw [if_pos rfl] at q ⊢
      exact elt_ok (k := k) (N := N) (fun s H0 C cl fp => q _ (bk s H0 C cl fp)) nn s6 (r.mono n4.g) hq
    | false =>
      rw [if_neg (by decide)] at q ⊢
      exact hq _ ⟨G4, acc, L4, nn, s6, q⟩
  | _ :: _ :: _, ht => exact (ht _ (bk X.s_0 X.H_0 (0 : Nat) [] [])).elim
theorem tifs_ok {X : Cx} (s : Shared) (H0 : Hp) (C : Addr) (cl : List (Str × Addr)) (fp : List Addr) : ∀ (ifs : List Expr), PTs (X.blk s H0 scope (compEnvC scope cl C X.env) fp) ifs (tifs X scope ifs)
  | [] => pts_nil
  | [t] => pts_one ⟨fun pins sh σ H Q I h => h s H0 C cl fp pins sh I⟩
  | _ :: _ :: _ => ⟨fun _ _ _ _ _ _ h => h.elim⟩
theorem teC_ok {X : Cx} (s : Shared) (H0 : Hp) (C : Addr) (cl : List (Str × Addr)) (fp : List Addr) : PE (X.blk s H0 scope (compEnvC scope cl C X.env) fp) elt (teC X scope elt) := ⟨fun pins sh σ H Q I h => h s H0 C cl fp pins sh I⟩
/-- the targets that stand in our comprehensions: one name, a tuple of names -/
inductive TgOk (X : Cx) (scope : Scope) (vs : List Nat) : Expr → (D → Env → Env → Prop) → Prop
  | one {tg : Expr} {j : Nat} (hj : j ∈ vs) (h : ∀ (s : Shared) (H0 : Hp) (C : Addr) (cl : List (Str × Addr)) (fp : List Addr), PG (X.blk s H0 scope (compEnvC scope cl C X.env) fp) tg (gName j)) : TgOk X scope vs tg (fun d ρ ρ2 => ρ2 = ρ.set j (some d))
  | tup {tg : Expr} {js : List Nat} (hj : ∀ j ∈ js, j ∈ vs) (h : ∀ (s : Shared) (H0 : Hp) (C : Addr) (cl : List (Str × Addr)) (fp : List Addr), PG (X.blk s H0 scope (compEnvC scope cl C X.env) fp) tg (gTup X.K js.length (gNames js))) :
      TgOk X scope vs tg (fun d ρ ρ2 => ∃ l, d = .tup l ∧ l.length = js.length ∧ ρ2 = setAll ρ js l)
theorem TgOk.run {X : Cx} {vs : List Nat} {T : D → Env → Env → Prop} (h : TgOk X scope vs tg T) : ∃ g : TG, (∀ (s : Shared) (H0 : Hp) (C : Addr) (cl : List (Str × Addr)) (fp : List Addr), PG (X.blk s H0 scope (compEnvC scope cl C X.env) fp) tg g) ∧
    ∀ G H L σ ρ d v (Q : Sl → Hp → Prop), Sat X.K G H L → SRep X.K G σ ρ → Rp X.K G d v → (∃ ρ2, T d ρ ρ2) → (∀ σ2 ρ2, T d ρ ρ2 → SRep X.K G σ2 ρ2 → wipe σ2 vs = wipe σ vs → Q σ2 H) → g v σ H Q := by
  cases h with
  | one hj h => exact ⟨_, h, fun G H L σ ρ d v Q s r rd _ k => k _ _ rfl (r.set _ rd) (wipe_set hj)⟩
  | @tup js hj h =>
    refine ⟨_, h, fun G H L σ ρ d v Q s r rd ⟨ρ2, l, e, hl, e2⟩ k => ?_⟩
    subst e
    obtain ⟨a, us, rfl, h1, h2⟩ := rd
    have hu : us.length = js.length := h2.len.trans hl
    exact ⟨a, us, rfl, SqT.of (s.ex _ _ h1), hu, gNames_ok hu (k _ _ ⟨l, rfl, hl, rfl⟩ (r.setAll h2) (wipe_all hj))⟩
/-- a comprehension as a value, as what one name gets -/
def LcE (X : Cx) (W : WX) (e : Expr) (ρ : Env) (L : Store) (P : PD) (ex : PX) : Prop := ∃ t : TE, PE X e t ∧
  (∀ (i : Nat) (y : Str) (py spos : Pos), X.N.Nodup → X.N[i]? = some y → X.env.scope.names.lookup y = some .local → swapsWith e (some (.Name y py)) spos.line X.env = pure true → PS X (.Assign [.Name y py] e spos) (tAsg t (gName i))) ∧
  ∀ G H σ Q, Sat X.K G H L → SRep X.K G σ ρ → Po X.K G H L P Q → Pe X.K G H L ex W σ → t σ H Q
/-- [elt for tg in (a list) if ..], frozen; J: what is so of the items gone, of those made, of the store -/
theorem lc_L {T : D → Env → Env → Prop} (J : Nat → List D → Store → Prop) (hc : X.calm = true) (hr : Room k X.A) (nm : Nm X N sc) (hN : N.Nodup) (ok : BlkOk N sc scope own) (tgk : TgOk X scope (own.map (·.2)) tg T)
    (h : XE X W iter ρ L (fun d L1 => isLst d fun ds => J 0 [] L1 ∧ (∀ i x acc L', ds[i]? = some x → J i acc L' → (∃ ρ2, T x (wipeG ρ (own.map (·.2))) ρ2) ∧ ∀ ρ2, T x (wipeG ρ (own.map (·.2))) ρ2 → Turn1 X N scope k ifs elt ρ2 L' acc (J (i + 1))) ∧ ∀ acc L', J ds.length acc L' → P (.lst acc) L') ex)
    (hs : ∀ x, foldedSetIterable iter X.env x = pure x := by intro _; rfl) : LcE X W (.ListComp elt [⟨tg, iter, ifs, 0⟩] scope pos) ρ L P ex := by
  obtain ⟨g, hg, hgo⟩ := tgk.run
  have okX : BlkOk X.N X.env.scope scope own := ⟨ok.kind, ok.uniq, fun p hp => by rw [nm.hN]; exact ok.ix p hp, fun y hy e => nm.hs.cap _ (ok.free y hy e), fun y hy e => by rw [nm.hN]; exact ok.own y hy e⟩
  refine ⟨_, pe_lc hc (by rw [nm.hN]; exact hN) (pi_list pe_tw) okX hg (fun s H0 C cl fp => tifs_ok s H0 C cl fp ifs) (fun s H0 C cl fp => teC_ok s H0 C cl fp) hs, fun i y py spos nd hy hyl hsw => ps_setLc hc nd hy hyl hsw (pi_list pe_tw) okX hg (fun s H0 C cl fp => tifs_ok s H0 C cl fp ifs) (fun s H0 C cl fp => teC_ok s H0 C cl fp) hs, fun G H σ Q s r p x => h G H σ _ s r (fun d v G1 H1 L1 n1 s1 r1 q => ?_) x⟩
  obtain ⟨ds, rfl, h0, ht, hd⟩ := q.get
  obtain ⟨a, vs, rfl, h1, h2⟩ := r1
  have p1 := p.step n1
  have rs := r.mono n1.g
  refine ⟨a, rfl, ⟨vs, SqL.of (s1.ex _ _ h1)⟩, fun A hA => ?_⟩
  obtain ⟨n2, s2⟩ := s1.newCell (m := .lst []) (o := .lst []) hA ⟨[], rfl, rfl⟩
  refine lc_list (K := X.K) (a := a) (xs := vs) (fun i => CSt X.K G1 H1 L1 A (J i)) ⟨G1, [], L1, n2, s2, h0⟩ (fun i H' _ ⟨G', acc, L', n', s', _⟩ => SqL.of (s'.ex _ _ (n'.g _ _ h1))) (fun i v H' hi ⟨G', acc, L', n', s', q'⟩ => ?_) (fun H' ⟨G', acc, L', n', s', q'⟩ => ?_)
  · obtain ⟨dx, e1, rx⟩ := h2.getV hi
    obtain ⟨t1, t2⟩ := ht i dx acc L' e1 q'
    refine hgo G' H' _ _ _ dx v _ s' ((rs.mono n'.g).wipe _) (rx.mono n'.g) t1 fun σ2 ρ2 hT r2 hw => ⟨hw.trans wipe_wipe, turn_ok hc hr nm.hN (t2 ρ2 hT) n' s' r2 fun H3 z => z⟩
  · rw [h2.len] at q'
    obtain ⟨G2, n3, s3, rp⟩ := s'.freeze0
    exact p1 (.lst acc) _ G2 H' L' (n'.trans n3) s3 rp (hd acc L' q')
/-- .. over range(n) -/
theorem lc_R1 {T : D → Env → Env → Prop} {a : Expr} {p0 pc : Pos} (J : Nat → List D → Store → Prop) (hc : X.calm = true) (hr : Room k X.A) (nm : Nm X N sc) (hN : N.Nodup) (ok : BlkOk N sc scope own) (tgk : TgOk X scope (own.map (·.2)) tg T) (hgr : Gl X "range") (hm : X.mg "range" = none)
    (h : XA X W [a] ρ L (fun ds L1 => isInt1 ds fun m => -(2 ^ 62) ≤ m ∧ m < 2 ^ 62 ∧ J 0 [] L1 ∧ (∀ (i : Nat) acc L', (i : Int) < m → J i acc L' → (∃ ρ2, T (.int i) (wipeG ρ (own.map (·.2))) ρ2) ∧ ∀ ρ2, T (.int i) (wipeG ρ (own.map (·.2))) ρ2 → Turn1 X N scope k ifs elt ρ2 L' acc (J (i + 1))) ∧ ∀ acc L', J m.toNat acc L' → P (.lst acc) L') ex)
    (hs : ∀ x, foldedSetIterable (.Call (.Name "range" p0) [a] [] pc) X.env x = pure x := by intro _; rfl) (he : starEach [a] X.env = [(false, eval a X.env)] := by rfl) :
    LcE X W (.ListComp elt [⟨tg, .Call (.Name "range" p0) [a] [] pc, ifs, 0⟩] scope pos) ρ L P ex := by
  obtain ⟨g, hg, hgo⟩ := tgk.run
  have okX : BlkOk X.N X.env.scope scope own := ⟨ok.kind, ok.uniq, fun p hp => by rw [nm.hN]; exact ok.ix p hp, fun y hy e => nm.hs.cap _ (ok.free y hy e), fun y hy e => by rw [nm.hN]; exact ok.own y hy e⟩
  refine ⟨_, pe_lc hc (by rw [nm.hN]; exact hN) (pi_range1 hgr hm pa_tw he) okX hg (fun s H0 C cl fp => tifs_ok s H0 C cl fp ifs) (fun s H0 C cl fp => teC_ok s H0 C cl fp) hs, fun i y py spos nd hy hyl hsw => ps_setLc hc nd hy hyl hsw (pi_range1 hgr hm pa_tw he) okX hg (fun s H0 C cl fp => tifs_ok s H0 C cl fp ifs) (fun s H0 C cl fp => teC_ok s H0 C cl fp) hs, fun G H σ Q s r p x => h G H σ _ s r (fun ds vs G1 H1 L1 n1 s1 r1 q => ?_) x⟩
  obtain ⟨m, rfl, b1, b2, h0, ht, hd⟩ := q.get
  have e1 : vs = [V.int m] := by
    obtain ⟨v, rfl, h1⟩ := r1.v1
    have e2 : v = .int m := h1
    rw [e2]
  have p1 := p.step n1
  have rs := r.mono n1.g
  refine ⟨m, e1, b1, b2, fun A hA => ?_⟩
  obtain ⟨n2, s2⟩ := s1.newCell (m := .lst []) (o := .lst []) hA ⟨[], rfl, rfl⟩
  refine lc_range (n := m.toNat) (fun i => CSt X.K G1 H1 L1 A (J i)) ⟨G1, [], L1, n2, s2, h0⟩ (fun i H' hi ⟨G', acc, L', n', s', q'⟩ => ?_) (fun H' ⟨G', acc, L', n', s', q'⟩ => ?_)
  · obtain ⟨t1, t2⟩ := ht i acc L' (by omega) q'
    have ez : (0 : Int) + (i : Int) = i := Int.zero_add _
    rw [ez]
    exact hgo G' H' _ _ _ (.int i) (.int i) _ s' ((rs.mono n'.g).wipe _) rfl t1 fun σ2 ρ2 hT r2 hw => ⟨hw.trans wipe_wipe, turn_ok hc hr nm.hN (t2 ρ2 hT) n' s' r2 fun H3 z => z⟩
  · obtain ⟨G2, n3, s3, rp⟩ := s'.freeze0
    exact p1 (.lst acc) _ G2 H' L' (n'.trans n3) s3 rp (hd acc L' q')
/-- .. over range(lo, hi) -/
theorem lc_R2 {T : D → Env → Env → Prop} {a b : Expr} {p0 pc : Pos} (J : Nat → List D → Store → Prop) (hc : X.calm = true) (hr : Room k X.A) (nm : Nm X N sc) (hN : N.Nodup) (ok : BlkOk N sc scope own) (tgk : TgOk X scope (own.map (·.2)) tg T) (hgr : Gl X "range") (hm : X.mg "range" = none)
    (h : XA X W [a, b] ρ L (fun ds L1 => isInt2 ds fun lo hi => -(2 ^ 62) ≤ lo ∧ lo < 2 ^ 62 ∧ -(2 ^ 62) ≤ hi ∧ hi < 2 ^ 62 ∧ J 0 [] L1 ∧ (∀ (i : Nat) acc L', lo + (i : Int) < hi → J i acc L' → (∃ ρ2, T (.int (lo + i)) (wipeG ρ (own.map (·.2))) ρ2) ∧ ∀ ρ2, T (.int (lo + i)) (wipeG ρ (own.map (·.2))) ρ2 → Turn1 X N scope k ifs elt ρ2 L' acc (J (i + 1))) ∧ ∀ acc L', J (hi - lo).toNat acc L' → P (.lst acc) L') ex)
    (hs : ∀ x, foldedSetIterable (.Call (.Name "range" p0) [a, b] [] pc) X.env x = pure x := by intro _; rfl) (he : starEach [a, b] X.env = [(false, eval a X.env), (false, eval b X.env)] := by rfl) (he2 : starEach [b] X.env = [(false, eval b X.env)] := by rfl) :
    LcE X W (.ListComp elt [⟨tg, .Call (.Name "range" p0) [a, b] [] pc, ifs, 0⟩] scope pos) ρ L P ex := by
  obtain ⟨g, hg, hgo⟩ := tgk.run
  have okX : BlkOk X.N X.env.scope scope own := ⟨ok.kind, ok.uniq, fun p hp => by rw [nm.hN]; exact ok.ix p hp, fun y hy e => nm.hs.cap _ (ok.free y hy e), fun y hy e => by rw [nm.hN]; exact ok.own y hy e⟩
  refine ⟨_, pe_lc hc (by rw [nm.hN]; exact hN) (pi_range2 hgr hm pa_tw he he2) okX hg (fun s H0 C cl fp => tifs_ok s H0 C cl fp ifs) (fun s H0 C cl fp => teC_ok s H0 C cl fp) hs, fun i y py spos nd hy hyl hsw => ps_setLc hc nd hy hyl hsw (pi_range2 hgr hm pa_tw he he2) okX hg (fun s H0 C cl fp => tifs_ok s H0 C cl fp ifs) (fun s H0 C cl fp => teC_ok s H0 C cl fp) hs, fun G H σ Q s r p x => h G H σ _ s r (fun ds vs G1 H1 L1 n1 s1 r1 q => ?_) x⟩
  obtain ⟨lo, hi, rfl, b1, b2, b3, b4, h0, ht, hd⟩ := q.get
  have e1 : vs = [V.int lo, V.int hi] := by
    obtain ⟨v, v', rfl, h1, h2⟩ := r1.v2
    have e2 : v = .int lo := h1
    have e3 : v' = .int hi := h2
    rw [e2, e3]
  have p1 := p.step n1
  have rs := r.mono n1.g
  refine ⟨lo, hi, e1, ⟨b1, b2, b3, b4⟩, fun A hA => ?_⟩
  obtain ⟨n2, s2⟩ := s1.newCell (m := .lst []) (o := .lst []) hA ⟨[], rfl, rfl⟩
  refine lc_range (lo := lo) (n := (hi - lo).toNat) (fun i => CSt X.K G1 H1 L1 A (J i)) ⟨G1, [], L1, n2, s2, h0⟩ (fun i H' hi ⟨G', acc, L', n', s', q'⟩ => ?_) (fun H' ⟨G', acc, L', n', s', q'⟩ => ?_)
  · obtain ⟨t1, t2⟩ := ht i acc L' (by omega) q'
    exact hgo G' H' _ _ _ (.int (lo + i)) (.int (lo + i)) _ s' ((rs.mono n'.g).wipe _) rfl t1 fun σ2 ρ2 hT r2 hw => ⟨hw.trans wipe_wipe, turn_ok hc hr nm.hN (t2 ρ2 hT) n' s' r2 fun H3 z => z⟩
  · obtain ⟨G2, n3, s3, rp⟩ := s'.freeze0
    exact p1 (.lst acc) _ G2 H' L' (n'.trans n3) s3 rp (hd acc L' q')
end
end
theorem LcE.e {X : Cx} {W : WX} {e : Expr} {ρ : Env} {L : Store} {P : PD} {ex : PX} (h : LcE X W e ρ L P ex) : XE X W e ρ L P ex := fun G H σ Q s r p x => by
  obtain ⟨t, h1, _, h3⟩ := h
  exact tw_of h1 (h3 G H σ Q s r p x)
/-- name = [..] -/
theorem xs_setLc {X : Cx} {W : WX} {e : Expr} {ρ : Env} {L : Store} {κ : SK} {i : Nat} {y : Str} {py spos : Pos} (hN : X.N.Nodup) (hy : X.N[i]? = some y) (hyl : X.env.scope.names.lookup y = some .local)
    (h : LcE X W e ρ L (fun d L1 => κ.nx (ρ.set i (some d)) L1) (onE κ.ex ρ)) (hsw : swapsWith e (some (.Name y py)) spos.line X.env = pure true := by rfl) : XS X W (.Assign [.Name y py] e spos) ρ L κ := fun G H σ E s r p => by
  obtain ⟨t, _, h2, h3⟩ := h
  exact tsw_of (h2 i y py spos hN hy hyl hsw) (h3 G H σ _ s r (fun d v G' H' L' n s' rd q => p.nx (σ.set i (some v)) _ G' H' L' n s' ((r.mono n.g).set i rd) q) (p.ex.at' r))
theorem Nm.setLc {X : Cx} {W : WX} {N : List Str} {sc : Scope} {e : Expr} {ρ : Env} {L : Store} {κ : SK} {x : Str} {py spos : Pos} (c : Nm X N sc) (i : Nat) (nd : N.Nodup) (hi : N[i]? = some x) (hv : sc.names.lookup x = some .local)
    (h : LcE X W e ρ L (fun d L1 => κ.nx (ρ.set i (some d)) L1) (onE κ.ex ρ)) (hsw : swapsWith e (some (.Name x py)) spos.line X.env = pure true := by rfl) : XS X W (.Assign [.Name x py] e spos) ρ L κ :=
  xs_setLc (by rw [c.hN]; exact nd) (by rw [c.hN]; exact hi) (c.hs.loc x hv) h hsw
/-- a comprehension's target: a name, a tuple of names -/
theorem tg_pg {X : Cx} {N : List Str} {sc scope : Scope} {j : Nat} {x : Str} {pos : Pos} (c : Nm X N sc) (nd : N.Nodup) (hj : N[j]? = some x) (hv : scope.names.lookup x = some .local ∨ scope.names.lookup x = some .cell) (s : Shared) (H0 : Hp) (C : Addr) (cl : List (Str × Addr)) (fp : List Addr) :
    PG (X.blk s H0 scope (compEnvC scope cl C X.env) fp) (.Name x pos) (gName j) := by
  have hs : Sc (X.blk s H0 scope (compEnvC scope cl C X.env) fp).env.scope scope := sc_relab
  refine pg_name (by rw [show (X.blk s H0 scope (compEnvC scope cl C X.env) fp).N = N from c.hN]; exact nd) (by rw [show (X.blk s H0 scope (compEnvC scope cl C X.env) fp).N = N from c.hN]; exact hj) ?_ ?_
  · rcases hv with h | h
    · exact .inl (hs.loc x h)
    · refine .inr ?_
      rcases @relab_look X.env x scope.names with ⟨q, _⟩ | q
      · rw [h] at q; cases q
      · exact Eq.trans q h
  · rcases hv with h | h
    · exact .inr (hs.loc x h)
    · exact .inl (by show (scope.names.lookup x == some .cell) = true; rw [h]; rfl)
theorem tg_one {X : Cx} {N : List Str} {sc scope : Scope} {own : List (Str × Nat)} {j : Nat} {x : Str} {pos : Pos} (c : Nm X N sc) (nd : N.Nodup) (hj : N[j]? = some x) (hv : scope.names.lookup x = some .local ∨ scope.names.lookup x = some .cell) (hm : j ∈ own.map (·.2)) :
    TgOk X scope (own.map (·.2)) (.Name x pos) (fun d ρ ρ2 => ρ2 = ρ.set j (some d)) := .one hm (tg_pg c nd hj hv)
theorem gn_nil {X : Cx} : PGs X [] (gNames []) := pgs_nil
theorem tg_tup2 {X : Cx} {N : List Str} {sc scope : Scope} {own : List (Str × Nat)} {j k n : Nat} {x y : Str} {pos p1 p2 : Pos} (hc : X.calm = true) (c : Nm X N sc) (nd : N.Nodup) (hj : N[j]? = some x) (hk : N[k]? = some y) (hv : scope.names.lookup x = some .local ∨ scope.names.lookup x = some .cell)
    (hw : scope.names.lookup y = some .local ∨ scope.names.lookup y = some .cell) (hm : ∀ i ∈ [j, k], i ∈ own.map (·.2)) : TgOk X scope (own.map (·.2)) (.Tuple [.Name x p1, .Name y p2] n pos) (fun d ρ ρ2 => ∃ l, d = .tup l ∧ l.length = 2 ∧ ρ2 = setAll ρ [j, k] l) :=
  .tup hm fun s H0 C cl fp => pg_tup hc (pgs_cons (tg_pg c nd hj hv s H0 C cl fp) (pgs_cons (tg_pg c nd hk hw s H0 C cl fp) gn_nil))
theorem tg_tup3 {X : Cx} {N : List Str} {sc scope : Scope} {own : List (Str × Nat)} {j k m n : Nat} {x y z : Str} {pos p1 p2 p3 : Pos} (hc : X.calm = true) (c : Nm X N sc) (nd : N.Nodup) (hj : N[j]? = some x) (hk : N[k]? = some y) (hl : N[m]? = some z) (hv : scope.names.lookup x = some .local ∨ scope.names.lookup x = some .cell)
    (hw : scope.names.lookup y = some .local ∨ scope.names.lookup y = some .cell) (hz : scope.names.lookup z = some .local ∨ scope.names.lookup z = some .cell) (hm : ∀ i ∈ [j, k, m], i ∈ own.map (·.2)) :
    TgOk X scope (own.map (·.2)) (.Tuple [.Name x p1, .Name y p2, .Name z p3] n pos) (fun d ρ ρ2 => ∃ l, d = .tup l ∧ l.length = 3 ∧ ρ2 = setAll ρ [j, k, m] l) :=
  .tup hm fun s H0 C cl fp => pg_tup hc (pgs_cons (tg_pg c nd hj hv s H0 C cl fp) (pgs_cons (tg_pg c nd hk hw s H0 C cl fp) (pgs_cons (tg_pg c nd hl hz s H0 C cl fp) gn_nil)))
/-- a test's answer -/
theorem ite_s {b : Bool} {A B : Prop} (ht : b = true → A) (hf : b = false → B) : if b = true then A else B := by
  cases b with
  | true => rw [if_pos rfl]; exact ht rfl
  | false => rw [if_neg (by decide)]; exact hf rfl
theorem ite_t {b : Bool} {A B : Prop} (h : b = true) (ht : A) : if b = true then A else B := by rw [if_pos h]; exact ht
theorem ite_f {b : Bool} {A B : Prop} (h : b = false) (hf : B) : if b = true then A else B := by rw [h, if_neg (by decide)]; exact hf
theorem xe_gint {X : Cx} {W : WX} {x : Str} {i : Int} {pos : Pos} {ρ : Env} {L : Store} {P : PD} {ex : PX} (hg : Gl X x) (hm : ∃ t, X.mg x = some (.int i t)) (q : P (.int i) L) (hdb : (x == ("__debug__" : Str)) = false := by decide) : XE X W (.Name x pos) ρ L P ex := by
  obtain ⟨t, hm⟩ := hm
  exact xe_c (d := .int i) (pe_glob (v := .int i) hg hm ⟨t, rfl⟩ hdb) (fun _ => rfl) q
theorem xe_gstr {X : Cx} {W : WX} {x z : Str} {pos : Pos} {ρ : Env} {L : Store} {P : PD} {ex : PX} (hg : Gl X x) (hm : ∃ t, X.mg x = some (.str z t)) (q : P (.str z) L) (hdb : (x == ("__debug__" : Str)) = false := by decide) : XE X W (.Name x pos) ρ L P ex := by
  obtain ⟨t, hm⟩ := hm
  exact xe_c (d := .str z) (pe_glob (v := .str z) hg hm ⟨t, rfl⟩ hdb) (fun _ => rfl) q
end MW

namespace MW
open PySem PySem.Spec PyProof.Rows L2

/-! ### methods of built-in types -/
def MeD (X : Cx) (id : String) (δ : D → List D → Store → PD → Prop) : Prop :=
  ∃ r, MtR X id r ∧ ∀ G H L d ds v vs P Q, Sat X.K G H L → Rp X.K G d v → RpL X.K G ds vs → δ d ds L P → Po X.K G H L P Q → r v vs H Q
def isTy (T : String) (d : D) (L : Store) (k : Prop) : Prop := match d with
  | .str _ => T = "str" ∧ k
  | .int _ => T = "int" ∧ k
  | .lst _ => T = "list" ∧ k
  | .sq _ => T = "list" ∧ k
  | .cell c => (∃ (i : Nat) (m : MO), L[i]? = some (c, m) ∧ match m with | .lst _ => T = "list" | .dT _ => T = "dict" | .dK _ => T = "dict" | _ => False) ∧ k
  | _ => False
theorem isTy.ok {K : PySem.W.Frag} {G H : Hp} {L : Store} {T : String} {d : D} {v : V} {k : Prop} (s : Sat K G H L) (r : Rp K G d v) (h : isTy T d L k) : tyV K T v H ∧ k := by
  cases d with
  | str x => have e : v = .str x := r; subst e; exact h
  | int x => have e : v = .int x := r; subst e; exact h
  | lst l =>
    obtain ⟨a, vs, e, h1, h2⟩ := r
    subst e
    exact ⟨.inl ⟨h.1, vs, SqL.of (s.ex _ _ h1)⟩, h.2⟩
  | sq l =>
    obtain ⟨a, vs, e, h1, h2⟩ := r
    subst e
    exact ⟨.inl ⟨h.1, vs, s.ex.sqL h1⟩, h.2⟩
  | cell c =>
    have e : v = .ref c := r
    subst e
    obtain ⟨⟨i, m, hi, hm⟩, h⟩ := h
    obtain ⟨u, hu, r'⟩ := s.cell hi
    refine ⟨?_, h⟩
    cases m with
    | lst l => obtain ⟨vs, rfl, _⟩ := r'; exact .inl ⟨hm, vs, SqL.of hu⟩
    | dT l => obtain ⟨vs, rfl, _⟩ := r'; exact .inr (.inr (.inl ⟨hm, .inr ⟨vs, hu⟩⟩))
    | dK l => obtain ⟨vs, rfl, _⟩ := r'; exact .inr (.inr (.inl ⟨hm, .inl ⟨vs, hu⟩⟩))
    | _ => exact hm.elim
  | _ => exact h.elim
section
variable {X : Cx} {W : WX} {a b c e o f value : Expr} {es : List Expr} {st : Stmt} {sts : List Stmt} {ρ : Env} {L : Store} {P : PD} {ex : PX} {κ : SK} {pos apos cpos pos' : Pos} {T id : String} {name : Str} {δ : D → List D → Store → PD → Prop}
theorem xe_bm (pa : PlainAttrs T) (slot : Slot T name id) (hty : typeOf (.builtin id) = pure (.type "method_descriptor")) (hm : MeD X id δ) (h : XE X W o ρ L (fun d L1 => isTy T d L1 (XA X W (e :: es) ρ L1 (fun ds L2 => δ d ds L2 P) ex)) ex)
    (hbase : attributeBase o name X.env (eval o X.env) = eval o X.env := by rfl)
    (hfew : ((backTo cpos (starEach (e :: es) X.env)).all (fun x => !x.1) && (backToKw cpos (keywordEach [] X.env)).all (fun x => x.1.isSome)
      && decide ((e :: es).length + ([] : List Keyword).length + (if ([] : List Keyword).isEmpty then 0 else 1) < 30)) = true := by rfl)
    (hline : (apos.endLine == cpos.line) = true := by rfl) (hs : starEach (e :: es) X.env = (false, eval e X.env) :: starEach es X.env := by rfl) (hplain : (backTo cpos (starEach es X.env)).any (·.1) = false := by rfl) :
    XE X W (.Call (.Attribute o name apos) (e :: es) [] cpos) ρ L P ex := fun G H σ Q s r p x => by
  obtain ⟨rr, h1, h2⟩ := hm
  refine tw_of (pe_bm pa slot hty h1 pe_tw pa_tw hbase hfew hline hs hplain) (h G H σ _ s r (fun d v G1 H1 L1 n1 s1 r1 q1 => ?_) x)
  obtain ⟨t1, q1⟩ := q1.ok s1 r1
  exact ⟨t1, q1 G1 H1 σ _ s1 (r.mono n1.g) (fun ds vs G2 H2 L2 n2 s2 r2 q2 => h2 G2 H2 L2 d ds v vs P Q s2 (r1.mono n2.g) r2 q2 ((p.step n1).step n2)) (x.step n1)⟩
theorem xe_bm0 (pa : PlainAttrs T) (slot : Slot T name id) (hty : typeOf (.builtin id) = pure (.type "method_descriptor")) (hm : MeD X id δ) (h : XE X W o ρ L (fun d L1 => isTy T d L1 (δ d [] L1 P)) ex)
    (hbase : attributeBase o name X.env (eval o X.env) = eval o X.env := by rfl) (hline : (apos.endLine == cpos.line) = true := by rfl) : XE X W (.Call (.Attribute o name apos) [] [] cpos) ρ L P ex := fun G H σ Q s r p x => by
  obtain ⟨rr, h1, h2⟩ := hm
  refine tw_of (pe_bm0 pa slot hty h1 pe_tw hbase hline) (h G H σ _ s r (fun d v G1 H1 L1 n1 s1 r1 q1 => ?_) x)
  obtain ⟨t1, q1⟩ := q1.ok s1 r1
  exact ⟨t1, h2 G1 H1 L1 d [] v [] P Q s1 r1 rfl q1 (p.step n1)⟩
/-- xs.append(x) -/
def appD (d : D) (ds : List D) (L : Store) (P : PD) : Prop := match d, ds with
  | .cell c, [y] => ∃ (i : Nat) (l : List D), L[i]? = some (c, MO.lst l) ∧ l.length < sizeLine ∧ P .non (L.set i (c, .lst (l ++ [y])))
  | _, _ => False
theorem m_append : MeD X "list.append" appD := by
  refine ⟨rAppend, mt_append, fun G H L d ds v vs P Q s r rs q p => ?_⟩
  unfold appD at q
  split at q
  · rename_i c y
    obtain ⟨i, l, hi, hz, q⟩ := q
    obtain ⟨u, hu, us, rfl, r'⟩ := s.cell hi
    obtain ⟨w, rfl, rw'⟩ := rs.v1
    obtain ⟨n1, s1⟩ := s.write (m' := .lst (l ++ [y])) (o := .lst (us ++ [w])) hi ⟨_, rfl, r'.app (.one rw')⟩
    exact ⟨c, us, w, r, rfl, hu, by rw [r'.len]; exact hz, p .non .non _ _ _ n1 s1 rfl q⟩
  · exact q.elim
/-- xs.extend(a list) -/
def extD (d : D) (ds : List D) (L : Store) (P : PD) : Prop := match d, ds with
  | .cell c, [.lst m] => ∃ (i : Nat) (l : List D), L[i]? = some (c, MO.lst l) ∧ l.length + m.length ≤ sizeLine ∧ P .non (L.set i (c, .lst (l ++ m)))
  | _, _ => False
theorem m_extend : MeD X "list.extend" extD := by
  refine ⟨rExtend, mt_extend, fun G H L d ds v vs P Q s r rs q p => ?_⟩
  unfold extD at q
  split at q
  · rename_i c m
    obtain ⟨i, l, hi, hz, q⟩ := q
    obtain ⟨u, hu, us, rfl, r'⟩ := s.cell hi
    obtain ⟨w, rfl, a, ws, rfl, h1, h2⟩ := rs.v1
    obtain ⟨n1, s1⟩ := s.write (m' := .lst (l ++ m)) (o := .lst (us ++ ws)) hi ⟨_, rfl, r'.app h2⟩
    exact ⟨c, a, us, ws, r, rfl, hu, s.ex _ _ h1, by rw [r'.len, h2.len]; exact hz, p .non .non _ _ _ n1 s1 rfl q⟩
  · exact q.elim
/-- xs.pop() -/
def popD (d : D) (ds : List D) (L : Store) (P : PD) : Prop := match d, ds with
  | .cell c, [] => ∃ (i : Nat) (l : List D) (y : D), L[i]? = some (c, MO.lst l) ∧ l[l.length - 1]? = some y ∧ P y (L.set i (c, .lst l.dropLast))
  | _, _ => False
theorem m_pop : MeD X "list.pop" popD := by
  refine ⟨rPop, mt_pop, fun G H L d ds v vs P Q s r rs q p => ?_⟩
  unfold popD at q
  split at q
  · rename_i c
    obtain ⟨i, l, y, hi, hy, q⟩ := q
    obtain ⟨u, hu, us, rfl, r'⟩ := s.cell hi
    have e : vs = [] := rs
    obtain ⟨w, hw, rw'⟩ := r'.get hy
    obtain ⟨n1, s1⟩ := s.write (m' := .lst l.dropLast) (o := .lst us.dropLast) hi ⟨_, rfl, r'.dropLast⟩
    exact ⟨c, us, w, r, e, hu, by rw [r'.len]; exact hw, p y w _ _ _ n1 s1 rw' q⟩
  · exact q.elim
/-- xs.count(x), xs.index(x) of truths -/
theorem count_flat : MtR X "list.count" (fun x xs H Q => ∃ (a : Addr) (ys : List V) (y : V), x = V.ref a ∧ xs = [y] ∧ SqL X.K H a ys ∧ flatV y = true ∧ ys.all flatV = true ∧ Q (.int ((ys.countP fun z => eqV z y) : Nat)) H) := by
  intro pins s σ H x xs v us Q I rx rxs h
  obtain ⟨a, ys, y, rfl, rfl, hs, fy, fys, q⟩ := h
  cases rx
  obtain ⟨uy, rfl, ry⟩ := rxs.one
  obtain ⟨its, rv, ⟨⟨cls, dd, data, sl⟩, n, ho, hc, hdn, hd⟩, hlen⟩ := I.list hs
  simp only at hc hd
  subst hc hd
  have cnt : ∀ {ys : List V} {us : List Value}, Vals ys us → ys.all flatV = true → us.countP (eqU y) = ys.countP fun z => eqV z y := by
    intro ys us r
    induction r with
    | nil => intro _; rfl
    | @cons p q ps qs r1 _ ih =>
      intro hf
      rw [List.all_cons, Bool.and_eq_true] at hf
      rw [List.countP_cons, List.countP_cons, ih hf.2, eqU_of r1 hf.1]
  refine call_meets PySem.F.slot_list_count ⟨_, ho, rfl⟩ PySem.F.entry_list_count (PySem.F.args_list_count_2 _ _)
    (SeqAt.list_countAt a its.toArray n dd sl uy (eqU y)) ⟨ho, fun u hu => (mem_eqAt ry fy rv fys u (by simpa using hu)), ?_⟩
  have ec : its.toArray.toList.countP (eqU y) = ys.countP fun z => eqV z y := cnt rv fys
  refine ⟨.int ((ys.countP fun z => eqV z y) : Nat), H, I.tok _, ⟨s.toks, ?_⟩, q⟩
  show Value.int ((its.toArray.toList.countP (eqU y) : Nat) : Int) s.toks = Value.int (((ys.countP fun z => eqV z y) : Nat) : Int) s.toks
  rw [ec]
def cntB (d : D) (ds : List D) (L : Store) (P : PD) : Prop := match d, ds with
  | .lst l, [.bl b] => ∃ bs : List Bool, l = bs.map D.bl ∧ P (.int (bs.count b : Nat)) L
  | _, _ => False
theorem m_count : MeD X "list.count" cntB := by
  refine ⟨_, count_flat, fun G H L d ds v vs P Q s r rs q p => ?_⟩
  unfold cntB at q
  split at q
  · rename_i l b
    obtain ⟨bs, rfl, q⟩ := q
    obtain ⟨a, us, rfl, h1, h2⟩ := r
    obtain ⟨w, rfl, rw'⟩ := rs.v1
    have e : w = .bl b := rw'
    subst e
    have e2 := h2.bls
    subst e2
    refine ⟨a, _, _, rfl, rfl, SqL.of (s.ex _ _ h1), rfl, ?_, ?_⟩
    · rw [List.all_map]; exact List.all_eq_true.mpr fun _ _ => rfl
    · have ec : (bs.map V.bl).countP (fun z => eqV z (.bl b)) = bs.count b := by
        rw [List.countP_map]
        rfl
      rw [ec]
      exact p (.int _) _ G H L (.refl _ _ _) s rfl q
  · exact q.elim
def idxB (d : D) (ds : List D) (L : Store) (P : PD) : Prop := match d, ds with
  | .lst l, [.bl b] => ∃ (bs : List Bool) (j : Nat), l = bs.map D.bl ∧ bs[j]? = some b ∧ (∀ m, m < j → bs[m]? = some (!b)) ∧ P (.int (j : Nat)) L
  | _, _ => False
theorem m_index : MeD X "list.index" idxB := by
  refine ⟨_, mt_index, fun G H L d ds v vs P Q s r rs q p => ?_⟩
  unfold idxB at q
  split at q
  · rename_i l b
    obtain ⟨bs, j, rfl, hj, hb, q⟩ := q
    obtain ⟨a, us, rfl, h1, h2⟩ := r
    obtain ⟨w, rfl, rw'⟩ := rs.v1
    have e : w = .bl b := rw'
    subst e
    have e2 := h2.bls
    subst e2
    refine ⟨a, _, _, j, .bl b, rfl, rfl, SqL.of (s.ex _ _ h1), rfl, ?_, by rw [List.getElem?_map, hj]; rfl, by cases b <;> rfl, fun m z hm hz => ?_, p (.int _) _ G H L (.refl _ _ _) s rfl q⟩
    · rw [List.all_map]; exact List.all_eq_true.mpr fun _ _ => rfl
    · rw [List.getElem?_map, hb m hm] at hz
      cases hz
      cases b <;> rfl
  · exact q.elim
/-- sep.join(a list of texts) -/
def joinD (d : D) (ds : List D) (L : Store) (P : PD) : Prop := match d, ds with
  | .str a, [.lst l] => ∃ ys : List Str, l = ys.map D.str ∧ (ys.map (·.length)).sum + ys.length * a.length ≤ 16777216 ∧ P (.str (Txt.join a ys)) L
  | .str a, [.cell c] => ∃ (i : Nat) (ys : List Str), L[i]? = some (c, MO.lst (ys.map D.str)) ∧ (ys.map (·.length)).sum + ys.length * a.length ≤ 16777216 ∧ P (.str (Txt.join a ys)) L
  | _, _ => False
theorem m_join : MeD X "str.join" joinD := by
  refine ⟨_, mt_join, fun G H L d ds v vs P Q s r rs q p => ?_⟩
  unfold joinD at q
  split at q
  · obtain ⟨ys, rfl, hz, q⟩ := q
    obtain ⟨w, rfl, a, us, rfl, h1, h2⟩ := rs.v1
    have e2 := h2.strs
    subst e2
    exact ⟨_, a, ys, r, rfl, .inl (SqL.of (s.ex _ _ h1)), hz, p (.str _) _ G H L (.refl _ _ _) s rfl q⟩
  · obtain ⟨i, ys, hi, hz, q⟩ := q
    obtain ⟨w, rfl, rw'⟩ := rs.v1
    have e : w = .ref _ := rw'
    subst e
    obtain ⟨u, hu, us, rfl, h2⟩ := s.cell hi
    have e2 := h2.strs
    subst e2
    exact ⟨_, _, ys, r, rfl, .inl (SqL.of hu), hz, p (.str _) _ G H L (.refl _ _ _) s rfl q⟩
  · exact q.elim
/-- one sign in a text -/
def inS (d e : D) (L : Store) (P : PD) : Prop := match d, e with
  | .str x, .str z => ∃ c, x = ⟨#[c]⟩ ∧ P (.bl (decide (c ∈ z.cps.toList))) L
  | _, _ => False
def ninS (d e : D) (L : Store) (P : PD) : Prop := match d, e with
  | .str x, .str z => ∃ c, x = ⟨#[c]⟩ ∧ P (.bl (!decide (c ∈ z.cps.toList))) L
  | _, _ => False
theorem o_inS : OpD X (compareOp .In) inS := by
  refine ⟨_, op_in_sign, fun G H L d1 d2 v u P Q s r1 r2 q p => ?_⟩
  unfold inS at q
  split at q
  · obtain ⟨c, rfl, q⟩ := q
    exact ⟨c, _, r1, r2, p (.bl _) _ G H L (.refl _ _ _) s rfl q⟩
  · exact q.elim
theorem o_ninS : OpD X (compareOp .NotIn) ninS := by
  refine ⟨_, op_notIn_sign, fun G H L d1 d2 v u P Q s r1 r2 q p => ?_⟩
  unfold ninS at q
  split at q
  · obtain ⟨c, rfl, q⟩ := q
    exact ⟨c, _, r1, r2, p (.bl _) _ G H L (.refl _ _ _) s rfl q⟩
  · exact q.elim
end
end MW

namespace MW
open PySem PySem.Spec PyProof.Rows L2
theorem fun_ofD {K : PySem.W.Frag} {x qual : Str} {st : Stmt} {f : Addr} {fd : FuncData} (h : FunD K x qual (defArgs st) (defBody st) (defScope st) [] [] f fd) : L2.Fun K x qual st f fd := by
  obtain ⟨oc, od, dV, kV, doc, pm, an, cdv, ct, osl, e, lk, hc, hd, _⟩ := h.ex
  have e2 : dV = .none := by
    rcases hd with ⟨_, e2⟩ | ⟨e2, _⟩
    · exact e2
    · exact absurd rfl e2
  subst e2
  exact ⟨⟨oc, od, kV, doc, pm, an, cdv, ct, osl, e, lk, hc⟩, h.kp⟩
/-- a def of no defaults, its arguments bound -/
structure Df (K : PySem.W.Frag) (mg : Str → Option Value) (x : Str) (st : Stmt) (ps : List Str) : Prop where
  ex : ∃ f fd, mg x = some (.ref f) ∧ L2.Fun K x x st f fd ∧ Binds K fd ps []
theorem df_mk {P : Program} {w : World} {K : PySem.W.Frag} {mg : Str → Option Value} {base : Heap} {x : Str} {st : Stmt} {N ps : List Str} {k n : Nat} {F : FT} (h : Df K mg x st ps) (S : FnScope N ps (defScope st)) (hn : ps.length = n)
    (body : ∀ (X : Cx) (W : WX), X.prog = P → X.w = w → X.K = K → X.mg = mg → X.base = base → Cok X W N (defScope st) k → ∀ ds L Pd ex, ds.length = n → F ds L Pd ex →
      XB X W (defBody st) (ds.map some ++ List.replicate (N.length - n) none) L { nx := fun _ L' => Pd .non L', rt := Pd, ex := fun C _ L' => ex C L' }) : Fn P w K mg base (k + 1) x n F := by
  obtain ⟨f, fd, h1, h2, h3⟩ := h.ex
  exact fn_mk h1 h2 S h3 hn body
/-! ### facts within a comprehension's block -/
theorem Blk.m {X X' : Cx} {N : List Str} {sc : Scope} {k : Nat} (b : Blk X X' N sc k) {x : Str} {u : Option Value} (h : X.mg x = u) : X'.mg x = u := by rw [b.hm]; exact h
theorem Blk.mi {X X' : Cx} {N : List Str} {sc : Scope} {k : Nat} (b : Blk X X' N sc k) {x : Str} {i : Int} (h : ∃ t, X.mg x = some (.int i t)) : ∃ t, X'.mg x = some (.int i t) := by rw [b.hm]; exact h
theorem Blk.ms {X X' : Cx} {N : List Str} {sc : Scope} {k : Nat} (b : Blk X X' N sc k) {x z : Str} (h : ∃ t, X.mg x = some (.str z t)) : ∃ t, X'.mg x = some (.str z t) := by rw [b.hm]; exact h
theorem Blk.fn {X X' : Cx} {N : List Str} {sc : Scope} {j k n : Nat} {x : Str} {F : FT} (b : Blk X X' N sc k) (h : Fn X.prog X.w X.K X.mg X.base j x n F) : Fn X'.prog X'.w X'.K X'.mg X'.base j x n F := by
  rw [b.hp, b.hw, b.hK, b.hm, b.hb]; exact h
/-- name = [..], the name a local -/
theorem Cok.setLc {X : Cx} {W : WX} {N : List Str} {sc scope : Scope} {k : Nat} {elt : Expr} {gs : List Comprehension} {ρ : Env} {L : Store} {κ : SK} {x : Str} {py spos pos : Pos} (c : Cok X W N sc k) (i : Nat) (nd : N.Nodup) (hi : N[i]? = some x) (hv : sc.names.lookup x = some .local) (hf : sc.kind = .function)
    (h : LcE X W (.ListComp elt gs scope pos) ρ L (fun d L1 => κ.nx (ρ.set i (some d)) L1) (onE κ.ex ρ)) (hl : (py.line == pos.line && !(scope.names.any fun (n, k) => n == x && (k == .local || k == .cell))) = true) : XS X W (.Assign [.Name x py] (.ListComp elt gs scope pos) spos) ρ L κ := by
  refine xs_setLc (by rw [c.hN]; exact nd) (by rw [c.hN]; exact hi) (by rw [c.hs]; exact hv) h ?_
  have h1 : (X.env.blockKind == .function) = true := by
    unfold Env.blockKind
    rw [c.hs, hf]; rfl
  have h2 : (X.env.kindOf x == some .local) = true := by
    show (X.env.scope.names.lookup x == some .local) = true
    rw [c.hs, hv]; rfl
  show pure (X.env.blockKind == .function && X.env.kindOf x == some .local && py.line == pos.line && !(scope.names.any fun (n, k) => n == x && (k == .local || k == .cell))) = pure true
  rw [h1, h2, Bool.true_and, Bool.true_and, hl]
theorem Cok.hu {X : Cx} {W : WX} {N : List Str} {sc : Scope} {k : Nat} (c : Cok X W N sc k) : X.A.units + 64 < cLine := c.room.units
theorem Blk.hu {X X' : Cx} {N : List Str} {sc : Scope} {k : Nat} (b : Blk X X' N sc k) : X'.A.units + 64 < cLine := b.room.units
section
variable {X : Cx} {W : WX} {a b c e o elt tg iter : Expr} {ifs es : List Expr} {ρ : Env} {L : Store} {P : PD} {ex : PX} {pos : Pos} {N : List Str} {sc scope : Scope} {k : Nat} {own : List (Str × Nat)}
theorem xe_neg (h : XE X W a ρ L (fun d L1 => isInt d fun i => P (.int (-i)) L1) ex) : XE X W (.UnaryOp .USub a pos) ρ L P ex :=
  xe_un (δ := fun d L P => isInt d fun i => P (.int (-i)) L) un_neg (fun G H L d v P Q s r q p => by
    obtain ⟨i, rfl, q⟩ := q.get
    exact ⟨i, r, p (.int _) _ G H L (.refl _ _ _) s rfl q⟩) h
def isStr (d : D) (k : Str → Prop) : Prop := match d with
  | .str x => k x
  | _ => False
theorem isStr.get {d : D} {k : Str → Prop} (h : isStr d k) : ∃ x, d = .str x ∧ k x := by
  cases d with
  | str x => exact ⟨x, rfl, h⟩
  | _ => exact h.elim
theorem lc_sgn {z : Str} {g : TG} {tt : TT} {te : TE} {vs : List Nat} {σ : Sl} {H1 : Hp} {D : Addr} {Qd : Hp → Prop} (Pv : Nat → Hp → Prop) (h0 : Pv 0 (upd H1 D (.lst [])))
    (hs : ∀ i c H, z.cps[i]? = some c → Pv i H → g (.str ⟨#[c]⟩) (wipe σ vs) H fun σ2 H2 => wipe σ2 vs = wipe σ vs ∧ tt σ2 H2 fun b H3 => if b = true then te σ2 H3 fun y H4 => ∃ acc, H4 D = some (.lst acc) ∧ acc.length < sizeLine ∧ Pv (i + 1) (upd H4 D (.lst (acc ++ [y]))) else Pv (i + 1) H3)
    (hd : ∀ H, Pv z.cps.size H → Qd H) :
    ∃ Wq : Nat → Nat → Hp → Prop, (∃ m, Wq 0 m (upd H1 D (.lst []))) ∧ ∀ i m H, Wq i m H → ((Its z).stop i H ∧ Qd H) ∨ ((Its z).go i H ∧ ∃ Nx : Hp → Prop, (∀ H', Nx H' → ∃ m', m' < m ∧ Wq (i + 1) m' H') ∧
      ∀ x H', (Its z).yld i H x H' → g x (wipe σ vs) H' fun σ2 H2 => wipe σ2 vs = wipe σ vs ∧ tt σ2 H2 fun b H3 => if b = true then te σ2 H3 fun y H4 => ∃ acc, H4 D = some (.lst acc) ∧ acc.length < sizeLine ∧ Nx (upd H4 D (.lst (acc ++ [y]))) else Nx H3) := by
  refine ⟨fun i m H => i + m = z.cps.size ∧ Pv i H, ⟨z.cps.size, Nat.zero_add _, h0⟩, fun i m H ⟨e, p⟩ => ?_⟩
  cases m with
  | zero =>
    have e2 : i = z.cps.size := e
    refine .inl ⟨Nat.le_of_eq e2.symm, hd H (e2 ▸ p)⟩
  | succ m =>
    refine .inr ⟨show i < z.cps.size by omega, Pv (i + 1), fun H' p' => ⟨m, Nat.lt_succ_self m, by omega, p'⟩, fun x H' y => ?_⟩
    obtain ⟨eH, c, hc, ev⟩ := y
    subst eH ev
    exact hs i c _ hc p
/-- .. over the signs of a text -/
theorem lc_S {T : D → Env → Env → Prop} (J : Nat → List D → Store → Prop) (hc : X.calm = true) (hr : Room k X.A) (nm : Nm X N sc) (hN : N.Nodup) (ok : BlkOk N sc scope own) (tgk : TgOk X scope (own.map (·.2)) tg T)
    (h : XE X W iter ρ L (fun d L1 => isStr d fun z => J 0 [] L1 ∧ (∀ i x acc L', z.cps[i]? = some x → J i acc L' → (∃ ρ2, T (.str ⟨#[x]⟩) (wipeG ρ (own.map (·.2))) ρ2) ∧ ∀ ρ2, T (.str ⟨#[x]⟩) (wipeG ρ (own.map (·.2))) ρ2 → Turn1 X N scope k ifs elt ρ2 L' acc (J (i + 1))) ∧ ∀ acc L', J z.cps.size acc L' → P (.lst acc) L') ex)
    (hs : ∀ x, foldedSetIterable iter X.env x = pure x := by intro _; rfl) : LcE X W (.ListComp elt [⟨tg, iter, ifs, 0⟩] scope pos) ρ L P ex := by
  obtain ⟨g, hg, hgo⟩ := tgk.run
  have okX : BlkOk X.N X.env.scope scope own := ⟨ok.kind, ok.uniq, fun p hp => by rw [nm.hN]; exact ok.ix p hp, fun y hy e => nm.hs.cap _ (ok.free y hy e), fun y hy e => by rw [nm.hN]; exact ok.own y hy e⟩
  refine ⟨_, pe_lc hc (by rw [nm.hN]; exact hN) (pi_str pe_tw) okX hg (fun s H0 C cl fp => tifs_ok s H0 C cl fp ifs) (fun s H0 C cl fp => teC_ok s H0 C cl fp) hs, fun i y py spos nd hy hyl hsw => ps_setLc hc nd hy hyl hsw (pi_str pe_tw) okX hg (fun s H0 C cl fp => tifs_ok s H0 C cl fp ifs) (fun s H0 C cl fp => teC_ok s H0 C cl fp) hs, fun G H σ Q s r p x => h G H σ _ s r (fun d v G1 H1 L1 n1 s1 r1 q => ?_) x⟩
  obtain ⟨z, rfl, h0, ht, hd⟩ := q.get
  have p1 := p.step n1
  have rs := r.mono n1.g
  refine ⟨z, r1, fun A hA => ?_⟩
  obtain ⟨n2, s2⟩ := s1.newCell (m := .lst []) (o := .lst []) hA ⟨[], rfl, rfl⟩
  refine lc_sgn (fun i => CSt X.K G1 H1 L1 A (J i)) ⟨G1, [], L1, n2, s2, h0⟩ (fun i c H' hi ⟨G', acc, L', n', s', q'⟩ => ?_) (fun H' ⟨G', acc, L', n', s', q'⟩ => ?_)
  · obtain ⟨t1, t2⟩ := ht i c acc L' hi q'
    exact hgo G' H' _ _ _ (.str ⟨#[c]⟩) (.str ⟨#[c]⟩) _ s' ((rs.mono n'.g).wipe _) rfl t1 fun σ2 ρ2 hT r2 hw => ⟨hw.trans wipe_wipe, turn_ok hc hr nm.hN (t2 ρ2 hT) n' s' r2 fun H3 z => z⟩
  · obtain ⟨G2, n3, s3, rp⟩ := s'.freeze0
    exact p1 (.lst acc) _ G2 H' L' (n'.trans n3) s3 rp (hd acc L' q')

/-! ### sorted(set(pairs)) -/
def prD (p : Int × Int) : D := .tup [.int p.1, .int p.2]
def SsOk (ps : List (Int × Int)) : Prop := ps.length < 64 ∧ ∀ p ∈ ps, (0 ≤ p.1 ∧ p.1 < 64) ∧ 0 ≤ p.2 ∧ p.2 < 64
def pLt (p q : Int × Int) : Prop := p.1 < q.1 ∨ (p.1 = q.1 ∧ p.2 < q.2)
theorem pair_keys {K : PySem.W.Frag} {G : Hp} : ∀ {ps : List (Int × Int)} {vs : List V}, RpL K G (ps.map prD) vs → ∃ ks : List (Addr × List Int), vs = (ks.map fun p => V.ref p.1) ∧ ks.map (·.2) = ps.map (fun p => [p.1, p.2]) ∧ ∀ p ∈ ks, G p.1 = some (.tup (p.2.map V.int))
  | [], vs, r => ⟨[], r, rfl, fun p hp => by cases hp⟩
  | p :: ps, vs, r => by
    obtain ⟨v, us, rfl, ⟨t, xs, rfl, h1, h2⟩, h3⟩ := r
    obtain ⟨ks, rfl, e2, h4⟩ := pair_keys h3
    have e3 := RpL.ints (ns := [p.1, p.2]) h2
    subst e3
    refine ⟨(t, [p.1, p.2]) :: ks, rfl, by rw [List.map_cons, e2]; rfl, fun q hq => ?_⟩
    rcases List.mem_cons.mp hq with e | hq
    · rw [e]; exact h1
    · exact h4 q hq
theorem keys_pair {K : PySem.W.Frag} {G : Hp} : ∀ {ps : List (Int × Int)} {ks : List (Addr × List Int)}, ks.map (·.2) = ps.map (fun p => [p.1, p.2]) → (∀ p ∈ ks, G p.1 = some (.tup (p.2.map V.int))) → RpL K G (ps.map prD) (ks.map fun p => V.ref p.1)
  | [], [], _, _ => rfl
  | [], _ :: _, e, _ => by cases e
  | _ :: _, [], e, _ => by cases e
  | p :: ps, q :: ks, e, h => by
    injection e with e1 e2
    refine ⟨_, _, rfl, ⟨q.1, _, rfl, h q List.mem_cons_self, ?_⟩, keys_pair e2 fun z hz => h z (List.mem_cons_of_mem _ hz)⟩
    have e3 : q.2 = [p.1, p.2] := e1
    rw [e3]
    exact RpL.of_ints [p.1, p.2]
theorem two_of : ∀ {l : List (Addr × List Int)}, (∀ p ∈ l, ∃ x y, p.2 = [x, y]) → ∃ qs : List (Int × Int), l.map (·.2) = qs.map fun p => [p.1, p.2]
  | [], _ => ⟨[], rfl⟩
  | p :: l, h => by
    obtain ⟨x, y, e⟩ := h p List.mem_cons_self
    obtain ⟨qs, e2⟩ := two_of (l := l) fun q hq => h q (List.mem_cons_of_mem _ hq)
    exact ⟨(x, y) :: qs, by rw [List.map_cons, List.map_cons, e, e2]⟩
theorem mem_two {l : List (Addr × List Int)} {qs : List (Int × Int)} (e : l.map (·.2) = qs.map fun p => [p.1, p.2]) (q : Int × Int) : q ∈ qs ↔ [q.1, q.2] ∈ l.map (·.2) := by
  rw [e]
  constructor
  · exact fun h => List.mem_map_of_mem (f := fun p : Int × Int => [p.1, p.2]) h
  · intro h
    obtain ⟨z, hz, e2⟩ := List.mem_map.mp h
    injection e2 with e3 e4
    injection e4 with e4 _
    have e5 : z = q := Prod.ext e3 e4
    rw [← e5]; exact hz
theorem xe_sset {p0 p1 p2 p3 : Pos} (hc : X.calm = true) (hu : X.A.units + 64 < cLine) (hg : Gl X "sorted") (hm : X.mg "sorted" = none) (hg2 : Gl X "set") (hm2 : X.mg "set" = none)
    (h : XE X W e ρ L (fun d L1 => isLst d fun l => ∃ ps : List (Int × Int), l = ps.map prD ∧ SsOk ps ∧ ∀ qs : List (Int × Int), qs.Pairwise pLt → (∀ q, q ∈ qs ↔ q ∈ ps) → P (.lst (qs.map prD)) L1) ex)
    (hs : starEach [e] X.env = [(false, eval e X.env)] := by rfl) : XE X W (.Call (.Name "sorted" p0) [.Call (.Name "set" p1) [e] [] p2] [] p3) ρ L P ex := fun G H σ Q s r p x => by
  refine tw_of (pe_callB (cr_sortedT hc) hg hm rfl (pa_cons (pe_callTy (cr_setOfT hc hu) hg2 hm2 rfl (pa_cons pe_tw pa_nil hs) (by decide) (by decide) hs (by unfold backTo; rw [show starEach ([] : List Expr) X.env = [] from rfl]; rfl)) pa_nil)) (h G H σ _ s r (fun d v G1 H1 L1 n1 s1 r1 q => ?_) x)
  obtain ⟨l, rfl, ps, rfl, ⟨hl, hb⟩, hP⟩ := q.get
  obtain ⟨a, vs, rfl, h1, h2⟩ := r1
  obtain ⟨ks, rfl, e1, hk⟩ := pair_keys h2
  have lenk : ks.length = ps.length := by rw [← List.length_map (f := (·.2)), e1, List.length_map]
  refine ⟨a, ks, rfl, SqL.of (s1.ex _ _ h1), fun p hp => SqT.of (s1.ex _ _ (hk p hp)), by omega, fun b Ls hbn hsub hall => ?_⟩
  obtain ⟨n2, s2⟩ := s1.fresh (SetTO X.prog X.w b Ls) hbn
  have hk2 : ∀ p ∈ Ls, G1 p.1 = some (.tup (p.2.map V.int)) := fun p hp => hk p (hsub p hp)
  have key : ∀ p ∈ Ls, ∃ x y, p.2 = [x, y] ∧ (x, y) ∈ ps := fun p hp => by
    have hm : p.2 ∈ ks.map (·.2) := List.mem_map_of_mem (hsub p hp)
    rw [e1] at hm
    obtain ⟨z, hz, e⟩ := List.mem_map.mp hm
    exact ⟨z.1, z.2, e.symm, hz⟩
  refine ⟨b, Ls, 2, 64, rfl, upd_same, fun p hp => SqT.of (s2.ex _ _ (n2.g _ _ (hk2 p hp))), by decide, fun p hp => ?_, fun L' t pm nd hfew pw ht => ?_⟩
  · obtain ⟨x, y, e, hz⟩ := key p hp
    rw [e]
    obtain ⟨b1, b2⟩ := hb _ hz
    refine ⟨rfl, fun m hm => ?_⟩
    rcases List.mem_cons.mp hm with rfl | hm
    · exact b1
    · rcases List.mem_cons.mp hm with rfl | hm
      · exact b2
      · cases hm
  · obtain ⟨n3, s3⟩ := s2.fresh (.lst (L'.map fun q => V.ref q.1)) ht
    have hk3 : ∀ p ∈ L', p ∈ Ls := fun p hp => pm.mem_iff.mp hp
    obtain ⟨qs, e2⟩ := two_of (l := L') fun p hp => let ⟨x, y, e, _⟩ := key p (hk3 p hp); ⟨x, y, e⟩
    have hin : ∀ q : Int × Int, q ∈ qs → q ∈ ps := fun q hq => by
      have h3 := (mem_two e2 q).mp hq
      obtain ⟨z, hz, e⟩ := List.mem_map.mp h3
      obtain ⟨x, y, e4, hz2⟩ := key z (hk3 z hz)
      rw [e4] at e
      injection e with e5 e6
      injection e6 with e6 _
      have e7 : (x, y) = q := Prod.ext e5 e6
      rw [← e7]; exact hz2
    refine p (.lst (qs.map prD)) _ _ _ L1 ((n1.trans n2).trans n3) s3 ⟨t, _, rfl, upd_same, keys_pair e2 fun z hz => n3.g _ _ (n2.g _ _ (hk2 z (hk3 z hz)))⟩ (hP qs ?_ fun q => ⟨hin q, fun hq => ?_⟩)
    · have pw2 : (L'.map (·.2)).Pairwise fun a b => TS.code 64 a ≤ TS.code 64 b := List.pairwise_map.mpr pw
      rw [e2] at pw2 nd
      have pw3 := List.pairwise_map.mp pw2
      have nd3 := List.pairwise_map.mp nd
      have both := pw3.and nd3
      refine List.Pairwise.imp_of_mem (fun {u v} hu hv z => ?_) both
      obtain ⟨b1, b2⟩ := hb u (hin u hu)
      obtain ⟨b3, b4⟩ := hb v (hin v hv)
      exact pair_lt z.1 z.2 b1 b2 b3 b4
    · have h3 : [q.1, q.2] ∈ ks.map (·.2) := by
        rw [e1]
        exact List.mem_map_of_mem (f := fun p : Int × Int => [p.1, p.2]) hq
      obtain ⟨z, hz, e⟩ := List.mem_map.mp h3
      have h4 := hall z hz
      rw [e] at h4
      rw [mem_two e2]
      exact (pm.map (·.2)).mem_iff.mpr h4
end
/-! ### the law itself -/
theorem end_ok {l : PySem.W.OpenLaw} {n k : Nat} {q : Program} {loose : List Str} {XP : (Str → Option Value) → Heap → Prop} {YP : World → Heap → Prop} {d : DefRec} {x : Str} {st : Stmt} {N : List Str} {FL : World → PySem.W.Frag → FT}
    (hn : l.most = some n) (hn2 : n ≤ sizeLine) (hdf : d.params.defaults = []) (hr : Room (k + 1) callerA) (S : FnScope N [x] (defScope st))
    (F : ∀ (w : World) (mg : Str → Option Value) (fa : Addr) (h : Heap), YP w h → h.Ns mainGlobals mg → mg d.name = some (.ref fa) →
      ∃ (K : PySem.W.Frag) (fd : FuncData) (nm : Str), K.In h ∧ L2.Fun K nm nm st fa fd ∧ (∀ (s : Shared) (u : Value), BindsTo s fd ⟨[u], []⟩ [(x, u)]) ∧
        ∀ base : Heap, K.In base → base.Ns mainGlobals mg → ∀ (X : Cx) (W : WX), X.prog = l.prog → X.w = w → X.K = K → X.mg = mg → X.base = base → Cok X W N (defScope st) k → ∀ (ns : List Int), ns.length ≤ n →
          XB X W (defBody st) ([some (.sq (ns.map D.int))] ++ List.replicate (N.length - 1) none) [] { nx := fun _ _ => False, rt := fun d _ => d = .bl true, ex := fun _ _ _ => False }) :
    PySem.W.WalkO q loose XP YP l.row.toRowW d [] (fun f vs => PySem.call f vs) := by
  refine Att.attach_call hn hdf fun w s₀ s₁ mg mb fa o pm cd doc a vs ns G Y ho hd hcd hmg hobj hints hlen hg => ?_
  obtain ⟨K, fd, nm, KX, hf, hb, hF⟩ := F w mg fa _ Y G.T.g hmg
  refine law_call (CX := L2.CX l.prog w) (sp := spD K 1 fun ds L Pd ex => L = [] ∧ ∃ ns : List Int, ds = [.sq (ns.map D.int)] ∧ ns.length ≤ n ∧ (∀ d L', d = .bl true → Pd d L')) KX G.T.g G.T.b G.T.builtins G.T.nolimit hg hobj hints (Nat.le_trans hlen hn2) hr
    (fun base h1 h2 => ?_) hb (fun H hO hS => ?_) fun H e s' z => ?_
  · refine hf.okX S (fun vs H Q E h => h.1) (fun cdv A outer s H vs Q E hr h => ⟨_, pb_tw, ?_⟩)
    obtain ⟨hl, G, L, ds, Pd, ex, sat, rep, ⟨rfl, ns', rfl, hl', hq⟩, hp, hx⟩ := h
    refine hF base h1 h2 _ (fun cls d _ H => E cls d H) rfl rfl rfl rfl rfl ⟨rfl, rfl, rfl, hr, takes_of rfl rfl rfl rfl, passes_of rfl, fun _ => rfl, rfl, rfl, rfl⟩ ns' hl' G H _ _ sat (start_rep (N := N) rep) ⟨?_, ?_, ?_, ?_, ?_⟩
    · exact fun _ _ _ _ _ _ _ _ q => q.elim
    · exact fun d v G' H' L' n' s' rd q => hp d v G' H' L' n' s' rd (hq d L' q)
    · exact fun _ _ _ _ _ _ _ _ q => q.elim
    · exact fun _ _ _ _ _ _ _ _ q => q.elim
    · exact fun _ _ _ _ _ _ _ _ _ q => q.elim
  · refine ⟨rfl, H, [], [.sq (ns.map D.int)], fun d _ => d = .bl true, fun _ _ => False, ⟨.refl _, List.nodup_nil, fun c o hm => by cases hm⟩, ⟨_, _, rfl, ⟨a, _, rfl, hS, RpL.of_ints ns⟩, rfl⟩, ⟨rfl, ns, rfl, hlen, fun d L' e => e⟩, ?_, fun C G' H' L' _ _ q => q.elim⟩
    intro d v G' H' L' n' s' rd e
    rw [e] at rd
    exact rd
  · obtain ⟨_, _, _, _, _, _, _, _, _, _, _, _, z⟩ := z
    exact z
end MW

namespace MW
open PySem PySem.Spec PyProof.Rows L2
/-! ### plain things -/
theorem szk {α : Type} {l : List α} (n : Nat) (h : l.length = n) (k : n ≤ 1000) : l.length ≤ sizeLine := Nat.le_of_lt (small1000 (h ▸ k))
theorem szk2 {α : Type} {l m : List α} (n k : Nat) (h : l.length = n) (h2 : m.length = k) (z : n + k ≤ 1000) : l.length + m.length ≤ sizeLine := Nat.le_of_lt (small1000 (by omega))
theorem tk_succ {α β : Type} {l : List α} {i : Nat} {x : α} {f : α → β} (h : l[i]? = some x) : (l.take (i + 1)).map f = (l.take i).map f ++ [f x] := by
  obtain ⟨hi, e⟩ := List.getElem?_eq_some_iff.mp h
  rw [List.take_succ, h, List.map_append]
  rfl
theorem tk_all {α β : Type} {l : List α} {f : α → β} : (l.take l.length).map f = l.map f := by rw [List.take_length]
theorem atI_in {α : Type} {l : List α} {r : Int} (h0 : 0 ≤ r) (h : r < l.length) : ∃ x, atI l r = some x ∧ x ∈ l := by
  obtain ⟨n, rfl⟩ := Int.eq_ofNat_of_zero_le h0
  have hn : n < l.length := by omega
  exact ⟨l[n], atI_nat (List.getElem?_eq_getElem hn), List.getElem_mem hn⟩
abbrev W3 (x y h : Int) : D := .tup [.int x, .int y, .int h]
abbrev Mark := Int × Int × Int
abbrev mkD (m : Mark) : D := W3 m.1 m.2.1 m.2.2
abbrev FL (fl : List Mark) : D := .lst (fl.map mkD)
def plc (m : Mark) : Int × Int := (m.1, m.2.1)
instance : DecidableRel pLt := fun p q => by unfold pLt; infer_instance
theorem pLt_irr (p : Int × Int) : ¬ pLt p p := by unfold pLt; omega
theorem pLt_trans {p q r : Int × Int} (a : pLt p q) (b : pLt q r) : pLt p r := by unfold pLt at *; omega
theorem pLt_as {p q : Int × Int} (a : pLt p q) (b : pLt q p) : False := pLt_irr p (pLt_trans a b)
theorem rising_nodup {l : List (Int × Int)} (h : l.Pairwise pLt) : l.Nodup := List.Pairwise.imp (R := pLt) (S := (· ≠ ·)) (fun {p q} z (e : p = q) => pLt_irr p (by rw [← e] at z; exact z)) h
theorem rising_eq {l m : List (Int × Int)} (h : l.Pairwise pLt) (k : m.Pairwise pLt) (e : ∀ q, q ∈ l ↔ q ∈ m) : l = m := by
  have p : l.Perm m := (List.perm_ext_iff_of_nodup (rising_nodup h) (rising_nodup k)).mpr e
  exact List.Perm.eq_of_pairwise (fun a b _ _ z w => (pLt_as z w).elim) h k p
theorem prD_ok : ∀ (qs : List (Int × Int)), (D.lst (qs.map prD)).ok = true := fun qs => by
  show D.okL 59 (qs.map prD) = true
  rw [okL_all, List.all_map]
  exact List.all_eq_true.mpr fun _ _ => rfl
theorem prD_nb : ∀ (qs : List (Int × Int)), (D.lst (qs.map prD)).nb = true := fun qs => by
  show D.nbL (qs.map prD) = true
  rw [nbL_all, List.all_map]
  exact List.all_eq_true.mpr fun _ _ => rfl
theorem prD_inj : ∀ {l m : List (Int × Int)}, l.map prD = m.map prD → l = m
  | [], [], _ => rfl
  | [], _ :: _, e => by cases e
  | _ :: _, [], e => by cases e
  | p :: l, q :: m, e => by
    injection e with e1 e2
    rw [prD_inj e2]
    injection e1 with e1
    injection e1 with e1 e3
    injection e3 with e3 _
    injection e1 with e1
    injection e3 with e3
    rw [Prod.ext e1 e3]
theorem pairs_eqv {l m : List (Int × Int)} : (D.lst (l.map prD)).eqv (.lst (m.map prD)) = decide (l = m) := by
  have h := eqv_iff (prD_nb l) (prD_nb m)
  by_cases e : l = m
  · rw [decide_eq_true e]; exact h.mpr (by rw [e])
  · rw [decide_eq_false e]
    cases q : (D.lst (l.map prD)).eqv (.lst (m.map prD)) with
    | false => rfl
    | true =>
      have z := h.mp q
      injection z with z
      exact absurd (prD_inj z) e
/-! ### what the program takes -/
abbrev signs : Str := "LNRU"
def ruleOk (r : Str) : Bool := decide (2 ≤ r.length ∧ r.length ≤ 5) && r.cps.toList.all fun c => decide (c ∈ signs.cps.toList)
def walkerOk (x y h : Int) : Bool := decide ((-100 ≤ x ∧ x ≤ 100) ∧ (-100 ≤ y ∧ y ≤ 100) ∧ 0 ≤ h ∧ h ≤ 3)
def markOk (n : Int) (m : Mark) : Bool := decide ((-100 ≤ m.1 ∧ m.1 ≤ 100) ∧ (-100 ≤ m.2.1 ∧ m.2.1 ≤ 100) ∧ 1 ≤ m.2.2 ∧ m.2.2 < n)
def rising (fl : List Mark) : Bool := decide ((fl.map plc).Pairwise pLt)
def floorOk (n : Int) (fl : List Mark) : Bool := decide (fl.length ≤ 200) && (fl.all (markOk n) && rising fl)
theorem rising_iff {fl : List Mark} {qs : List (Int × Int)} (h : qs.Pairwise pLt) (e : ∀ q, q ∈ qs ↔ q ∈ fl.map plc) : decide (qs = fl.map plc) = rising fl := by
  unfold rising
  by_cases k : (fl.map plc).Pairwise pLt
  · rw [decide_eq_true k, decide_eq_true (rising_eq h k e)]
  · rw [decide_eq_false k, decide_eq_false (fun z : qs = fl.map plc => k (z ▸ h))]
theorem all_take {α : Type} {l : List α} {f : α → Bool} (h : ∀ (j : Nat) m, l[j]? = some m → j < l.length → f m = true) : l.all f = true := List.all_eq_true.mpr fun x hx => by
  obtain ⟨j, hj, e⟩ := List.getElem_of_mem hx
  exact h j x (by rw [List.getElem?_eq_getElem hj, e]) hj
theorem all_not {α : Type} {l : List α} {f : α → Bool} {i : Nat} {x : α} (h : l[i]? = some x) (hx : f x = false) : l.all f = false := by
  cases q : l.all f with
  | false => rfl
  | true =>
    have z := List.all_eq_true.mp q x (List.mem_of_getElem? h)
    rw [hx] at z; cases z
theorem fl_get {fl : List Mark} {i : Nat} {x : D} (h : (fl.map mkD)[i]? = some x) : ∃ m, fl[i]? = some m ∧ x = mkD m := by
  rw [List.getElem?_map] at h
  cases q : fl[i]? with
  | none => rw [q] at h; cases h
  | some m =>
    rw [q] at h
    exact ⟨m, rfl, (Option.some.inj h).symm⟩
theorem ruleOk_t {r : Str} (h : ruleOk r = true) : (2 ≤ r.length ∧ r.length ≤ 5) ∧ (r.cps.toList.all fun c => decide (c ∈ signs.cps.toList)) = true := by
  obtain ⟨a, b⟩ := Bool.and_eq_true_iff.mp h
  exact ⟨of_decide_eq_true a, b⟩
theorem tk_lt {r : Str} {i : Nat} (h : r.length ≤ 100000) : (r.cps.toList.take i).length < sizeLine := by
  rw [List.length_take]
  exact Nat.lt_of_le_of_lt (Nat.min_le_right _ _) (Nat.lt_of_le_of_lt (show r.cps.toList.length ≤ 100000 by rw [Array.length_toList]; exact h) (by decide))
theorem tk_lt2 {α : Type} {l : List α} {i : Nat} (h : l.length ≤ 100000) : (l.take i).length < sizeLine := by
  rw [List.length_take]
  exact Nat.lt_of_le_of_lt (Nat.min_le_right _ _) (Nat.lt_of_le_of_lt h (by decide))
theorem tk_cps {r : Str} : r.cps.toList.take r.cps.size = r.cps.toList := by rw [← Array.length_toList, List.take_length]
theorem xb_dropX {X : Cx} {W : WX} {sts : List Stmt} {ρ : Env} {L : Store} {κ : SK} (h : XB X W sts ρ L { κ with ex := fun C ρ' L' => ∃ L2 : Store, L2.Sublist L' ∧ κ.ex C ρ' L2 }) : XB X W sts ρ L κ := fun G H σ E s r p =>
  h G H σ E s r ⟨p.nx, p.rt, p.bk, p.ct, fun C σ' ρ' G' H' L' n s' r' ⟨L2, hs, q⟩ => by
    obtain ⟨n2, s2⟩ := s'.drop hs
    exact p.ex C σ' ρ' G' H' L2 (n.trans n2) s2 r' q⟩
theorem xb_dropR {X : Cx} {W : WX} {sts : List Stmt} {ρ : Env} {L : Store} {κ : SK} (h : XB X W sts ρ L { κ with rt := fun d L' => ∃ L2 : Store, L2.Sublist L' ∧ κ.rt d L2 }) : XB X W sts ρ L κ := fun G H σ E s r p =>
  h G H σ E s r ⟨p.nx, fun d v G' H' L' n s' r' ⟨L2, hs, q⟩ => by
    obtain ⟨n2, s2⟩ := s'.drop hs
    exact p.rt d v G' H' L2 (n.trans n2) s2 r' q, p.bk, p.ct, p.ex⟩
theorem op1 {α : Type} {a b : Option α} {i j : α} (h : a = some i ∨ (a = none ∧ b = some i)) (g : a = some j) : i = j := by
  rcases h with h | ⟨h, _⟩
  · rw [h] at g; cases g; rfl
  · rw [h] at g; cases g
theorem op2 {α : Type} {a b : Option α} {i j : α} (h : a = some i ∨ (a = none ∧ b = some i)) (g1 : a = none) (g : b = some j) : i = j := by
  rcases h with h | ⟨_, h⟩
  · rw [h] at g1; cases g1
  · rw [h] at g; cases g; rfl
theorem op3 {α : Type} {a b : Option α} {i : α} (h : a = some i ∨ (a = none ∧ b = some i)) (g1 : a = none) (g : b = none) : False := by
  rcases h with h | ⟨_, h⟩
  · rw [h] at g1; cases g1
  · rw [h] at g; cases g
end MW

namespace MWL
open PySem PySem.Spec PyProof.Rows L2 MW
def top (i : Nat) : Stmt := PySem.Challenge.pw_markwalkers_k91_whole_two_at_once.main.body.getD i (.Pass ⟨0, 0, 0, 0⟩)

/-! ### what each def does -/
def cls (K : PySem.W.Frag) (i : Fin 5) : Addr := He.ga K (match i with | 0 => "BadRule" | 1 => "BadFloor" | 2 => "BadWalker" | 3 => "BadNumber" | 4 => "BadText")
def word (i : Fin 5) : Str := match i with | 0 => "rule" | 1 => "floor" | 2 => "walker" | 3 => "number" | 4 => "text"
theorem ref_cnt : ∀ i : Fin 5, (!decide (((List.count true [decide (i = 0), decide (i = 1), decide (i = 2), decide (i = 3), decide (i = 4)] : Nat) : Int) = 1)) = false := by decide
theorem ref_ix : ∀ i : Fin 5, [decide (i = 0), decide (i = 1), decide (i = 2), decide (i = 3), decide (i = 4)][i.val]? = some true := by decide
theorem ref_lo : ∀ (i : Fin 5) (m : Nat), m < i.val → [decide (i = 0), decide (i = 1), decide (i = 2), decide (i = 3), decide (i = 4)][m]? = some !true := by decide
theorem ref_wd (i : Fin 5) : atI [D.str "rule", D.str "floor", D.str "walker", D.str "number", D.str "text"] ((i.val : Nat) : Int) = some (D.str (word i)) := by
  refine atI_nat ?_
  match i with
  | 0 => rfl
  | 1 => rfl
  | 2 => rfl
  | 3 => rfl
  | 4 => rfl
def cellF : FT := fun ds L Pd _ => ∃ (ns : List Int) (k : Int), ds = [.sq (ns.map .int), .int k] ∧ ∀ i, Pd (.int i) L
def mixF : FT := fun ds L Pd _ => ∃ (ns : List Int) (k : Int), ds = [.sq (ns.map .int), .int k] ∧ ∀ i, 0 ≤ i → Pd (.int i) L
def drawF : FT := fun ds L Pd _ => ∃ (ns : List Int) (c : Addr) (l : List D) (m : Int), ds = [.sq (ns.map .int), .cell c, .int m] ∧ L = [(c, .lst l)] ∧ l.length < 100000 ∧ 0 < m ∧ ∀ r : Int, 0 ≤ r → r < m → Pd (.int r) [(c, .lst (l ++ [.int 0]))]
def pickF : FT := fun ds L Pd _ => ∃ (ns : List Int) (c : Addr) (l xs : List D), ds = [.sq (ns.map .int), .cell c, .lst xs] ∧ L = [(c, .lst l)] ∧ l.length < 100000 ∧ xs ≠ [] ∧ ∀ x ∈ xs, Pd x [(c, .lst (l ++ [.int 0]))]
def refusalF (K : PySem.W.Frag) : FT := fun ds L Pd _ => ∃ i : Fin 5, ds = [.exc (cls K i)] ∧ Pd (.tup [.str "refused", .str (word i)]) L
def lookRF (K : PySem.W.Frag) : FT := fun ds L Pd ex => ∃ r : Str, ds = [.str r] ∧ r.length ≤ 100000 ∧ (ruleOk r = true → Pd .non L) ∧ (ruleOk r = false → ex (cls K 0) L)
def lookWF (K : PySem.W.Frag) : FT := fun ds L Pd ex => ∃ x y h : Int, ds = [W3 x y h] ∧ (walkerOk x y h = true → Pd .non L) ∧ (walkerOk x y h = false → ex (cls K 2) L)
def ssIn (n : Int) (fl : List Mark) : Prop := fl.length ≤ 200 → fl.all (markOk n) = true → SsOk (fl.map plc)
def lookFF (K : PySem.W.Frag) : FT := fun ds L Pd ex => ∃ (r : Str) (fl : List Mark), ds = [.str r, FL fl] ∧ r.length ≤ 100000 ∧ fl.length ≤ 100000 ∧ ssIn r.length fl ∧ (floorOk r.length fl = true → Pd .non L) ∧ (floorOk r.length fl = false → ex (cls K 1) L)
/-- which is the first that can't be -/
def badAll (r : Str) (x y h : Int) (fl : List Mark) : Option (Fin 5) := if ruleOk r = true then (if walkerOk x y h = true then (if floorOk r.length fl = true then none else some 1) else some 2) else some 0
def okD (r : Str) (fl : List Mark) : Prop := r.length ≤ 100000 ∧ fl.length ≤ 100000 ∧ ssIn r.length fl
def lookAF (K : PySem.W.Frag) : FT := fun ds L Pd ex => ∃ (r : Str) (x y h : Int) (fl : List Mark), ds = [.str r, W3 x y h, FL fl] ∧ okD r fl ∧ (badAll r x y h fl = none → Pd .non L) ∧ (∀ i, badAll r x y h fl = some i → ex (cls K i) L)
def lookMF (K : PySem.W.Frag) : FT := fun ds L Pd ex => ∃ (n m : Int), ds = [.int n, .int m] ∧ ((0 ≤ n ∧ n ≤ m) → Pd .non L) ∧ (¬ (0 ≤ n ∧ n ≤ m) → ex (cls K 3) L)
def bad0 : Unit := ()
/-- refused by what look_all says | or by the number -/
def ref3 (K : PySem.W.Frag) : FT := fun ds L Pd ex => ∃ (r : Str) (x y h : Int) (fl : List Mark) (i : Fin 5), ds = [.str r, W3 x y h, FL fl] ∧ okD r fl ∧ badAll r x y h fl = some i ∧ ex (cls K i) L
def bad4 (most : Int) (r : Str) (x y h : Int) (fl : List Mark) (n : Int) : Option (Fin 5) := match badAll r x y h fl with
  | some i => some i
  | none => if 0 ≤ n ∧ n ≤ most then none else some 3
def ref4 (most : Int) (K : PySem.W.Frag) : FT := fun ds L Pd ex => ∃ (r : Str) (x y h : Int) (fl : List Mark) (n : Int) (i : Fin 5), ds = [.str r, W3 x y h, FL fl, .int n] ∧ okD r fl ∧ bad4 most r x y h fl n = some i ∧ ex (cls K i) L
/-- by look_all alone, of four | five -/
def refA (K : PySem.W.Frag) : FT := fun ds L Pd ex => ∃ (r : Str) (x y h : Int) (fl : List Mark) (d : D) (i : Fin 5), ds = [.str r, W3 x y h, FL fl, d] ∧ okD r fl ∧ badAll r x y h fl = some i ∧ ex (cls K i) L
def refA5 (K : PySem.W.Frag) : FT := fun ds L Pd ex => ∃ (r : Str) (x y h : Int) (fl : List Mark) (d e : D) (i : Fin 5), ds = [.str r, W3 x y h, FL fl, d, e] ∧ okD r fl ∧ badAll r x y h fl = some i ∧ ex (cls K i) L
def refL (K : PySem.W.Frag) : FT := fun ds L Pd ex => ∃ (r : Str) (x y h : Int) (fl : List Mark) (x' y' h' : Int) (fl' : List Mark) (i : Fin 5), ds = [.str r, W3 x y h, FL fl, W3 x' y' h', FL fl'] ∧ okD r fl ∧ okD r fl' ∧
  (badAll r x y h fl = some i ∨ (badAll r x y h fl = none ∧ badAll r x' y' h' fl' = some i)) ∧ ex (cls K i) L
def oneBF (K : PySem.W.Frag) : FT := fun ds L Pd ex => ∃ (k : Int) (r : Str) (x y h : Int) (fl : List Mark) (n : Int) (i : Fin 5), ds = [.int k, .lst [.str r, W3 x y h, FL fl, .int n]] ∧ okD r fl ∧ 13 ≤ k ∧ k < 18 ∧ badAll r x y h fl = some i ∧ ex (cls K i) L
def oneH (k : Int) (r : Str) (x y h : Int) (fl : List Mark) (n : Int) (i : Fin 5) : Prop := badAll r x y h fl = some i ∨ (badAll r x y h fl = none ∧ k < 8 ∧ (n < 0 ∨ 20000 < n) ∧ i = 3)
def oneF (K : PySem.W.Frag) : FT := fun ds L Pd ex => ∃ (k : Int) (r : Str) (x y h : Int) (fl : List Mark) (n : Int) (i : Fin 5), ds = [.int k, .lst [.str r, W3 x y h, FL fl, .int n]] ∧ okD r fl ∧ 0 ≤ k ∧ k < 18 ∧ oneH k r x y h fl n i ∧ ex (cls K i) L
def toldF (K : PySem.W.Frag) : FT := fun ds L Pd _ => ∃ (k : Int) (r : Str) (x y h : Int) (fl : List Mark) (n : Int) (i : Fin 5), ds = [.int k, .lst [.str r, W3 x y h, FL fl, .int n]] ∧ okD r fl ∧ 0 ≤ k ∧ k < 18 ∧ oneH k r x y h fl n i ∧ Pd (.tup [.str "refused", .str (word i)]) L
theorem oneA {k : Int} {r : Str} {x y h : Int} {fl : List Mark} {n : Int} {i : Fin 5} (e : oneH k r x y h fl n i) (g : 8 ≤ k) : badAll r x y h fl = some i := by
  rcases e with e | ⟨_, e, _⟩
  · exact e
  · omega
theorem oneN {k : Int} {r : Str} {x y h : Int} {fl : List Mark} {n : Int} {i : Fin 5} (e : oneH k r x y h fl n i) (m : Int) (hm : m ≤ 20000) : bad4 m r x y h fl n = some i := by
  rcases e with e | ⟨e, _, g, rfl⟩
  · simp only [bad4, e]
  · simp only [bad4, e]
    rw [if_neg (by omega)]
theorem okE {r : Str} {fl : List Mark} (h : okD r fl) : okD r [] := ⟨h.1, Nat.zero_le _, fun _ _ => ⟨by decide, fun p hp => by cases hp⟩⟩
theorem badE {r : Str} {x y h : Int} {fl : List Mark} {i : Fin 5} (e : badAll r x y h fl = some i) : badAll r 0 0 0 [] = some i ∨ (badAll r 0 0 0 [] = none ∧ badAll r x y h fl = some i) := by
  cases q : ruleOk r with
  | false =>
    have e1 : badAll r x y h fl = some 0 := by simp [badAll, q]
    rw [e1] at e
    exact .inl (by rw [← e]; simp [badAll, q])
  | true =>
    have e1 : walkerOk 0 0 0 = true := by decide
    have e2 : floorOk r.length [] = true := by
      unfold floorOk rising
      simp
    exact .inr ⟨by simp [badAll, q, e1, e2], e⟩
/-- a floor that can't be, of a rule of two signs -/
def badF (fl : List Mark) : Prop := fl.length ≤ 100000 ∧ (∀ n, ssIn n fl) ∧ floorOk 2 fl = false
theorem badF_s {fl : List Mark} (h1 : fl.length ≤ 60) (h2 : ∀ p ∈ fl.map plc, (0 ≤ p.1 ∧ p.1 < 64) ∧ 0 ≤ p.2 ∧ p.2 < 64) (h3 : floorOk 2 fl = false) : badF fl :=
  ⟨by omega, fun n _ _ => ⟨by rw [List.length_map]; omega, h2⟩, h3⟩
theorem badF_m {fl : List Mark} (h1 : fl.length ≤ 60) (h2 : ∀ n, fl.all (markOk n) = false) : badF fl :=
  ⟨by omega, fun n _ h => (by rw [h2 n] at h; cases h), by unfold floorOk; rw [h2 2, Bool.false_and, Bool.and_false]⟩
def longL : List Mark := (List.range 201).map fun (k : Nat) => ((k : Int) / 20, (k : Int) % 20, 1)
theorem longL_len : longL.length = 201 := by unfold longL; rw [List.length_map, List.length_range]
theorem longL_eq : D.lst ((List.range (Int.toNat 201)).map fun (k : Nat) => mkD ((k : Int) / 20, (k : Int) % 20, 1)) = FL longL := by
  unfold longL FL
  rw [List.map_map]
  rfl
theorem badF_long : badF longL := ⟨by rw [longL_len]; decide, fun n h _ => (by rw [longL_len] at h; omega), by unfold floorOk; rw [longL_len]; rfl⟩
theorem told_ok (i : Fin 5) : (D.tup [.str "refused", .str (word i)]).ok = true := by
  match i with
  | 0 => decide +kernel
  | 1 => decide +kernel
  | 2 => decide +kernel
  | 3 => decide +kernel
  | 4 => decide +kernel
theorem okL {r : Str} (h : r.length = 2) : okD r [(0, 0, 1)] := ⟨by omega, by decide, fun _ _ => ⟨by decide, by decide⟩⟩
theorem badL {r : Str} (h : ruleOk r = true) (h2 : r.length = 2) : badAll r 0 0 0 [(0, 0, 1)] = none := by
  have e1 : walkerOk 0 0 0 = true := by decide
  have e2 : floorOk 2 [(0, 0, 1)] = true := by decide
  simp [badAll, h, e1, h2, e2]

abbrev s__law_cell : Stmt := top 57
abbrev N__law_cell : List Str := ["_law_script", "_law_k"]
theorem S__law_cell : FnScope N__law_cell ["_law_script", "_law_k"] (defScope s__law_cell) := ⟨rfl, rfl, rfl, by decide +kernel, rfl, by decide +kernel, by decide +kernel⟩
abbrev s__law_mix : Stmt := top 58
abbrev N__law_mix : List Str := ["_law_script", "_law_k", "_law_number"]
theorem S__law_mix : FnScope N__law_mix ["_law_script", "_law_k"] (defScope s__law_mix) := ⟨rfl, rfl, rfl, by decide +kernel, rfl, by decide +kernel, by decide +kernel⟩
abbrev s__law_draw : Stmt := top 59
abbrev N__law_draw : List Str := ["_law_script", "_law_town", "_law_many"]
theorem S__law_draw : FnScope N__law_draw ["_law_script", "_law_town", "_law_many"] (defScope s__law_draw) := ⟨rfl, rfl, rfl, by decide +kernel, rfl, by decide +kernel, by decide +kernel⟩
abbrev s__law_pick : Stmt := top 60
abbrev N__law_pick : List Str := ["_law_script", "_law_town", "_law_some"]
theorem S__law_pick : FnScope N__law_pick ["_law_script", "_law_town", "_law_some"] (defScope s__law_pick) := ⟨rfl, rfl, rfl, by decide +kernel, rfl, by decide +kernel, by decide +kernel⟩
abbrev s__law_refusal : Stmt := top 61
abbrev N__law_refusal : List Str := ["_law_caught", "_law_kinds"]
theorem S__law_refusal : FnScope N__law_refusal ["_law_caught"] (defScope s__law_refusal) := ⟨rfl, rfl, rfl, by decide +kernel, rfl, by decide +kernel, by decide +kernel⟩
abbrev s_look_rule : Stmt := top 13
abbrev N_look_rule : List Str := ["rule", "sign"]
theorem S_look_rule : FnScope N_look_rule ["rule"] (defScope s_look_rule) := ⟨rfl, rfl, rfl, by decide +kernel, rfl, by decide +kernel, by decide +kernel⟩
abbrev s_look_walker : Stmt := top 14
abbrev N_look_walker : List Str := ["walker", "good"]
theorem S_look_walker : FnScope N_look_walker ["walker"] (defScope s_look_walker) := ⟨rfl, rfl, rfl, by decide +kernel, rfl, by decide +kernel, by decide +kernel⟩
abbrev s_look_floor : Stmt := top 15
abbrev N_look_floor : List Str := ["rule", "floor", "places", "x", "y", "colour", "mark"]
theorem S_look_floor : FnScope N_look_floor ["rule", "floor"] (defScope s_look_floor) := ⟨rfl, rfl, rfl, by decide +kernel, rfl, by decide +kernel, by decide +kernel⟩
abbrev s_look_all : Stmt := top 16
abbrev N_look_all : List Str := ["rule", "walker", "floor"]
theorem S_look_all : FnScope N_look_all ["rule", "walker", "floor"] (defScope s_look_all) := ⟨rfl, rfl, rfl, by decide +kernel, rfl, by decide +kernel, by decide +kernel⟩
abbrev s_look_many : Stmt := top 24
abbrev N_look_many : List Str := ["many", "most"]
theorem S_look_many : FnScope N_look_many ["many", "most"] (defScope s_look_many) := ⟨rfl, rfl, rfl, by decide +kernel, rfl, by decide +kernel, by decide +kernel⟩
abbrev s_run : Stmt := top 25
abbrev N_run : List Str := ["rule", "walker", "floor", "many", "colours", "k"]
theorem S_run : FnScope N_run ["rule", "walker", "floor", "many"] (defScope s_run) := ⟨rfl, rfl, rfl, by decide +kernel, rfl, by decide +kernel, by decide +kernel⟩
abbrev s_back : Stmt := top 26
abbrev N_back : List Str := ["rule", "walker", "floor", "many", "colours", "k"]
theorem S_back : FnScope N_back ["rule", "walker", "floor", "many"] (defScope s_back) := ⟨rfl, rfl, rfl, by decide +kernel, rfl, by decide +kernel, by decide +kernel⟩
abbrev s_path : Stmt := top 27
abbrev N_path : List Str := ["rule", "walker", "floor", "many", "colours", "found", "k"]
theorem S_path : FnScope N_path ["rule", "walker", "floor", "many"] (defScope s_path) := ⟨rfl, rfl, rfl, by decide +kernel, rfl, by decide +kernel, by decide +kernel⟩
abbrev s_read_colours : Stmt := top 28
abbrev N_read_colours : List Str := ["rule", "walker", "floor", "many", "colours", "found", "k"]
theorem S_read_colours : FnScope N_read_colours ["rule", "walker", "floor", "many"] (defScope s_read_colours) := ⟨rfl, rfl, rfl, by decide +kernel, rfl, by decide +kernel, by decide +kernel⟩
abbrev s_period : Stmt := top 45
abbrev N_period : List Str := ["rule", "walker", "floor", "many", "colours", "here", "k"]
theorem S_period : FnScope N_period ["rule", "walker", "floor", "many"] (defScope s_period) := ⟨rfl, rfl, rfl, by decide +kernel, rfl, by decide +kernel, by decide +kernel⟩
abbrev s_counts : Stmt := top 31
abbrev N_counts : List Str := ["rule", "walker", "floor", "many", "left", "colour", "mark"]
theorem S_counts : FnScope N_counts ["rule", "walker", "floor", "many"] (defScope s_counts) := ⟨rfl, rfl, rfl, by decide +kernel, rfl, by decide +kernel, by decide +kernel⟩
abbrev s_box : Stmt := top 30
abbrev N_box : List Str := ["rule", "walker", "floor", "many", "some", "xs", "ys", "one"]
theorem S_box : FnScope N_box ["rule", "walker", "floor", "many"] (defScope s_box) := ⟨rfl, rfl, rfl, by decide +kernel, rfl, by decide +kernel, by decide +kernel⟩
abbrev s_times_seen : Stmt := top 29
abbrev N_times_seen : List Str := ["rule", "walker", "floor", "many", "found", "one", "place"]
theorem S_times_seen : FnScope N_times_seen ["rule", "walker", "floor", "many"] (defScope s_times_seen) := ⟨rfl, rfl, rfl, by decide +kernel, rfl, by decide +kernel, by decide +kernel⟩
abbrev s_mirrored : Stmt := top 37
abbrev N_mirrored : List Str := ["rule", "walker", "floor"]
theorem S_mirrored : FnScope N_mirrored ["rule", "walker", "floor"] (defScope s_mirrored) := ⟨rfl, rfl, rfl, by decide +kernel, rfl, by decide +kernel, by decide +kernel⟩
abbrev s_plain : Stmt := top 38
abbrev N_plain : List Str := ["rule", "walker", "floor"]
theorem S_plain : FnScope N_plain ["rule", "walker", "floor"] (defScope s_plain) := ⟨rfl, rfl, rfl, by decide +kernel, rfl, by decide +kernel, by decide +kernel⟩
abbrev s_is_even : Stmt := top 41
abbrev N_is_even : List Str := ["rule", "walker", "floor", "seen"]
theorem S_is_even : FnScope N_is_even ["rule", "walker", "floor"] (defScope s_is_even) := ⟨rfl, rfl, rfl, by decide +kernel, rfl, by decide +kernel, by decide +kernel⟩
abbrev s_written : Stmt := top 55
abbrev N_written : List Str := ["rule", "walker", "floor", "words", "x", "y", "colour"]
theorem S_written : FnScope N_written ["rule", "walker", "floor"] (defScope s_written) := ⟨rfl, rfl, rfl, by decide +kernel, rfl, by decide +kernel, by decide +kernel⟩
abbrev s_turned : Stmt := top 35
abbrev N_turned : List Str := ["rule", "walker", "floor", "quarters"]
theorem S_turned : FnScope N_turned ["rule", "walker", "floor", "quarters"] (defScope s_turned) := ⟨rfl, rfl, rfl, by decide +kernel, rfl, by decide +kernel, by decide +kernel⟩
abbrev s_goes_on : Stmt := top 50
abbrev N_goes_on : List Str := ["rule", "walker", "floor", "long"]
theorem S_goes_on : FnScope N_goes_on ["rule", "walker", "floor", "long"] (defScope s_goes_on) := ⟨rfl, rfl, rfl, by decide +kernel, rfl, by decide +kernel, by decide +kernel⟩
abbrev s_shown : Stmt := top 51
abbrev N_shown : List Str := ["rule", "walker", "floor", "start", "long", "colours", "k"]
theorem S_shown : FnScope N_shown ["rule", "walker", "floor", "start", "long"] (defScope s_shown) := ⟨rfl, rfl, rfl, by decide +kernel, rfl, by decide +kernel, by decide +kernel⟩
abbrev s_way_on : Stmt := top 52
abbrev N_way_on : List Str := ["rule", "walker", "floor", "many", "most", "colours", "start", "long"]
theorem S_way_on : FnScope N_way_on ["rule", "walker", "floor", "many", "most"] (defScope s_way_on) := ⟨rfl, rfl, rfl, by decide +kernel, rfl, by decide +kernel, by decide +kernel⟩
abbrev s_are_alike : Stmt := top 40
abbrev N_are_alike : List Str := ["rule", "walker", "floor", "other_walker", "other_floor"]
theorem S_are_alike : FnScope N_are_alike ["rule", "walker", "floor", "other_walker", "other_floor"] (defScope s_are_alike) := ⟨rfl, rfl, rfl, by decide +kernel, rfl, by decide +kernel, by decide +kernel⟩
abbrev s__law_one_b : Stmt := top 62
abbrev N__law_one_b : List Str := ["_law_kind", "_law_some", "_law_rule", "_law_walker", "_law_floor", "_law_many"]
theorem S__law_one_b : FnScope N__law_one_b ["_law_kind", "_law_some"] (defScope s__law_one_b) := ⟨rfl, rfl, rfl, by decide +kernel, rfl, by decide +kernel, by decide +kernel⟩
abbrev s__law_one : Stmt := top 63
abbrev N__law_one : List Str := ["_law_kind", "_law_some", "_law_rule", "_law_walker", "_law_floor", "_law_many"]
theorem S__law_one : FnScope N__law_one ["_law_kind", "_law_some"] (defScope s__law_one) := ⟨rfl, rfl, rfl, by decide +kernel, rfl, by decide +kernel, by decide +kernel⟩
abbrev s__law_told : Stmt := top 64
abbrev N__law_told : List Str := ["_law_kind", "_law_some", "_law_caught", "_law_found", "e"]
theorem S__law_told : FnScope N__law_told ["_law_kind", "_law_some"] (defScope s__law_told) := ⟨rfl, rfl, rfl, by decide +kernel, rfl, by decide +kernel, by decide +kernel⟩
abbrev s_law : Stmt := top 65
abbrev N_law : List Str := ["_law_script", "_law_town", "_law_bad_rule", "_law_bad_walker", "_law_bad_floor", "_law_long", "_law_bad_many", "_law_good", "_law_cases", "_law_some", "_law_word", "_law_kind", "_law_k"]
theorem S_law : FnScope N_law ["_law_script"] (defScope s_law) := ⟨rfl, rfl, rfl, by decide +kernel, rfl, by decide +kernel, by decide +kernel⟩
structure Txt (K : PySem.W.Frag) (mg : Str → Option Value) : Prop where
  d__law_cell : Df K mg "_law_cell" s__law_cell ["_law_script", "_law_k"]
  d__law_mix : Df K mg "_law_mix" s__law_mix ["_law_script", "_law_k"]
  d__law_draw : Df K mg "_law_draw" s__law_draw ["_law_script", "_law_town", "_law_many"]
  d__law_pick : Df K mg "_law_pick" s__law_pick ["_law_script", "_law_town", "_law_some"]
  d__law_refusal : Df K mg "_law_refusal" s__law_refusal ["_law_caught"]
  d_look_rule : Df K mg "look_rule" s_look_rule ["rule"]
  d_look_walker : Df K mg "look_walker" s_look_walker ["walker"]
  d_look_floor : Df K mg "look_floor" s_look_floor ["rule", "floor"]
  d_look_all : Df K mg "look_all" s_look_all ["rule", "walker", "floor"]
  d_look_many : Df K mg "look_many" s_look_many ["many", "most"]
  d_run : Df K mg "run" s_run ["rule", "walker", "floor", "many"]
  d_back : Df K mg "back" s_back ["rule", "walker", "floor", "many"]
  d_path : Df K mg "path" s_path ["rule", "walker", "floor", "many"]
  d_read_colours : Df K mg "read_colours" s_read_colours ["rule", "walker", "floor", "many"]
  d_period : Df K mg "period" s_period ["rule", "walker", "floor", "many"]
  d_counts : Df K mg "counts" s_counts ["rule", "walker", "floor", "many"]
  d_box : Df K mg "box" s_box ["rule", "walker", "floor", "many"]
  d_times_seen : Df K mg "times_seen" s_times_seen ["rule", "walker", "floor", "many"]
  d_mirrored : Df K mg "mirrored" s_mirrored ["rule", "walker", "floor"]
  d_plain : Df K mg "plain" s_plain ["rule", "walker", "floor"]
  d_is_even : Df K mg "is_even" s_is_even ["rule", "walker", "floor"]
  d_written : Df K mg "written" s_written ["rule", "walker", "floor"]
  d_turned : Df K mg "turned" s_turned ["rule", "walker", "floor", "quarters"]
  d_goes_on : Df K mg "goes_on" s_goes_on ["rule", "walker", "floor", "long"]
  d_shown : Df K mg "shown" s_shown ["rule", "walker", "floor", "start", "long"]
  d_way_on : Df K mg "way_on" s_way_on ["rule", "walker", "floor", "many", "most"]
  d_are_alike : Df K mg "are_alike" s_are_alike ["rule", "walker", "floor", "other_walker", "other_floor"]
  d__law_one_b : Df K mg "_law_one_b" s__law_one_b ["_law_kind", "_law_some"]
  d__law_one : Df K mg "_law_one" s__law_one ["_law_kind", "_law_some"]
  d__law_told : Df K mg "_law_told" s__law_told ["_law_kind", "_law_some"]
  d_law : Df K mg "law" s_law ["_law_script"]
  b_len : mg "len" = none
  b_all : mg "all" = none
  b_sorted : mg "sorted" = none
  b_set : mg "set" = none
  b_isinstance : mg "isinstance" = none
  b_range : mg "range" = none
  b_ValueError : mg "ValueError" = none
  c_FAR : ∃ t, mg "FAR" = some (.int 100 t)
  c_MOST_MARKS : ∃ t, mg "MOST_MARKS" = some (.int 200 t)
  c_MOST_STEPS : ∃ t, mg "MOST_STEPS" = some (.int 20000 t)
  c_MOST_PATH : ∃ t, mg "MOST_PATH" = some (.int 2000 t)
  c_MOST_LONG : ∃ t, mg "MOST_LONG" = some (.int 120 t)
  c_MOST_START : ∃ t, mg "MOST_START" = some (.int 12000 t)
  c_SIGNS : ∃ t, mg "SIGNS" = some (.str signs t)
  e_BadRule : ExcK K mg "BadRule" (cls K 0)
  e_BadFloor : ExcK K mg "BadFloor" (cls K 1)
  e_BadWalker : ExcK K mg "BadWalker" (cls K 2)
  e_BadNumber : ExcK K mg "BadNumber" (cls K 3)
  e_BadText : ExcK K mg "BadText" (cls K 4)
  e_MarkError : mg "MarkError" = some (.ref (He.ga K "MarkError"))
  q : ∀ i, ExcC K (cls K i)
  k : ∀ i j, PySem.W.kitOne K (.ref (cls K i)) (.ref (cls K j)) = some (decide (i = j))
  kv : ∀ i, PySem.W.kitOne K (.ref (cls K i)) (.type "ValueError") = some true
  kp : PySem.W.keepIn K (.ref (He.ga K "MarkError")) = true
  x : ∀ i, PySem.W.exmOne K (.ref (cls K i)) (.ref (He.ga K "MarkError")) = some true
section
variable {P : Program} {w : World} {K : PySem.W.Frag} {mg : Str → Option Value} {base : Heap}
theorem ok__law_cell (T : Txt K mg)  : Fn P w K mg base 1 "_law_cell" 2 cellF := by
  refine df_mk T.d__law_cell S__law_cell rfl ?_
  rintro X W rfl rfl rfl rfl rfl c ds L Pd ex hn ⟨ns, k, rfl, hP⟩
  refine xb_cons ?_
  refine xs_if ?_
  refine xt_tru (by intro _; rfl) ?_
  refine xe_var (c.nm.pv 0 rfl (by first | exact Or.inl rfl | exact Or.inr (Or.inl rfl) | exact Or.inr (Or.inr rfl))) rfl ?_
  skip
  try dsimp only [isND, notND, isBl, truD, eqD, neD, i2N]
  refine ite_s (fun hs => ?_) (fun hs => ?_)
  · try simp only [decide_eq_true_eq, decide_eq_false_iff_not, Bool.not_eq_true', Bool.not_eq_false'] at hs
    refine xb_one ?_
    refine xs_ret ?_
    refine xe_ix ?_
    refine xe_var (c.nm.pv 0 rfl (by first | exact Or.inl rfl | exact Or.inr (Or.inl rfl) | exact Or.inr (Or.inr rfl))) rfl ?_
    refine xe_bin o_mod ?_
    refine xe_var (c.nm.pv 1 rfl (by first | exact Or.inl rfl | exact Or.inr (Or.inl rfl) | exact Or.inr (Or.inr rfl))) rfl ?_
    refine xe_callB c_len (c.nm.gl rfl) T.b_len rfl ?_
    refine xa_cons ?_
    refine xe_var (c.nm.pv 0 rfl (by first | exact Or.inl rfl | exact Or.inr (Or.inl rfl) | exact Or.inr (Or.inr rfl))) rfl ?_
    refine xa_nil ?_
    have hp : 0 < ((ns.map D.int).length : Int) := by
      cases ns with
      | nil => cases hs
      | cons a r => rw [List.length_map, List.length_cons]; omega
    refine ⟨hp, ?_⟩
    obtain ⟨x, e1, e2⟩ := atI_in (l := ns.map D.int) (r := k % ((ns.map D.int).length : Int)) (Int.emod_nonneg _ (by omega)) (Int.emod_lt_of_pos _ hp)
    obtain ⟨i, _, rfl⟩ := List.mem_map.mp e2
    refine ⟨_, e1, ?_⟩
    exact hP _
  · try simp only [decide_eq_true_eq, decide_eq_false_iff_not, Bool.not_eq_true', Bool.not_eq_false'] at hs
    refine xb_nil ?_
    refine xb_one ?_
    refine xs_ret ?_
    refine xe_int ?_
    exact hP _
theorem ok__law_mix (T : Txt K mg) (F__law_cell : Fn P w K mg base 1 "_law_cell" 2 cellF) : Fn P w K mg base 2 "_law_mix" 2 mixF := by
  refine df_mk T.d__law_mix S__law_mix rfl ?_
  rintro X W rfl rfl rfl rfl rfl c ds L Pd ex hn ⟨ns, k, rfl, hP⟩
  refine xb_cons ?_
  refine xs_asg ?_
  refine xe_bin o_mod ?_
  refine xe_bin o_add ?_
  refine xe_call [] (F__law_cell.mono (by decide)) c.room c.takes (c.nm.gl rfl) ?_
  refine xa_cons ?_
  refine xe_var (c.nm.pv 0 rfl (by first | exact Or.inl rfl | exact Or.inr (Or.inl rfl) | exact Or.inr (Or.inr rfl))) rfl ?_
  refine xa_cons ?_
  refine xe_var (c.nm.pv 1 rfl (by first | exact Or.inl rfl | exact Or.inr (Or.inl rfl) | exact Or.inr (Or.inr rfl))) rfl ?_
  refine xa_nil ?_
  refine ⟨rfl, ns, k, rfl, fun i => ?_⟩
  refine xe_bin o_mul ?_
  refine xe_int ?_
  refine xe_bin o_add ?_
  refine xe_var (c.nm.pv 1 rfl (by first | exact Or.inl rfl | exact Or.inr (Or.inl rfl) | exact Or.inr (Or.inr rfl))) rfl ?_
  refine xe_int ?_
  refine ⟨Or.inl ⟨by decide, by decide⟩, ?_⟩
  refine xe_int ?_
  refine ⟨(by show (0 : Int) < _; decide), ?_⟩
  refine xg_name (by first | exact c.nm.pg 2 S__law_mix.nd rfl rfl | exact c.pgc 2 S__law_mix.nd rfl rfl) ?_
  refine xb_cons ?_
  refine xs_asg ?_
  refine xe_bin o_mod ?_
  refine xe_bin o_pow ?_
  refine xe_var (c.nm.pv 2 rfl (by first | exact Or.inl rfl | exact Or.inr (Or.inl rfl) | exact Or.inr (Or.inr rfl))) rfl ?_
  refine xe_int ?_
  have hb : 0 ≤ (i + 104729 * (k + 1)) % 4294967291 ∧ (i + 104729 * (k + 1)) % 4294967291 < 4294967291 := ⟨Int.emod_nonneg _ (by decide), Int.emod_lt_of_pos _ (by decide)⟩
  refine ⟨⟨by decide, by decide, by omega⟩, ?_⟩
  refine xe_int ?_
  refine ⟨(by show (0 : Int) < _; decide), ?_⟩
  refine xg_name (by first | exact c.nm.pg 2 S__law_mix.nd rfl rfl | exact c.pgc 2 S__law_mix.nd rfl rfl) ?_
  refine xb_one ?_
  refine xs_ret ?_
  refine xe_bin o_mod ?_
  refine xe_bin o_add ?_
  refine xe_bin o_mul ?_
  refine xe_bin o_fdiv ?_
  refine xe_var (c.nm.pv 2 rfl (by first | exact Or.inl rfl | exact Or.inr (Or.inl rfl) | exact Or.inr (Or.inr rfl))) rfl ?_
  refine xe_int ?_
  refine ⟨⟨by decide, by decide⟩, ?_⟩
  refine xe_int ?_
  refine ⟨Or.inr ⟨by decide, by decide⟩, ?_⟩
  refine xe_var (c.nm.pv 2 rfl (by first | exact Or.inl rfl | exact Or.inr (Or.inl rfl) | exact Or.inr (Or.inr rfl))) rfl ?_
  refine xe_int ?_
  refine ⟨(by show (0 : Int) < _; decide), ?_⟩
  exact hP _ (Int.emod_nonneg _ (by decide))
theorem ok__law_draw (T : Txt K mg) (F__law_mix : Fn P w K mg base 2 "_law_mix" 2 mixF) : Fn P w K mg base 3 "_law_draw" 3 drawF := by
  refine df_mk T.d__law_draw S__law_draw rfl ?_
  rintro X W rfl rfl rfl rfl rfl c ds L Pd ex hn ⟨ns, a, l, m, rfl, rfl, hl, hm, hP⟩
  refine xb_cons ?_
  refine xs_expr ?_
  refine xe_bm PySem.F.plainAttrs_list PySem.F.slot_list_append PySem.F.type_list_append m_append ?_
  refine xe_var (c.nm.pv 1 rfl (by first | exact Or.inl rfl | exact Or.inr (Or.inl rfl) | exact Or.inr (Or.inr rfl))) rfl ?_
  refine ⟨⟨0, _, rfl, rfl⟩, ?_⟩
  refine xa_cons ?_
  refine xe_int ?_
  refine xa_nil ?_
  refine ⟨0, l, rfl, Nat.lt_trans hl (by decide), ?_⟩
  skip
  refine xb_one ?_
  refine xs_ret ?_
  refine xe_bin o_mod ?_
  refine xe_bin o_fdiv ?_
  refine xe_call [] (F__law_mix.mono (by decide)) c.room c.takes (c.nm.gl rfl) ?_
  refine xa_cons ?_
  refine xe_var (c.nm.pv 0 rfl (by first | exact Or.inl rfl | exact Or.inr (Or.inl rfl) | exact Or.inr (Or.inr rfl))) rfl ?_
  refine xa_cons ?_
  refine xe_callB c_len (c.nm.gl rfl) T.b_len rfl ?_
  refine xa_cons ?_
  refine xe_var (c.nm.pv 1 rfl (by first | exact Or.inl rfl | exact Or.inr (Or.inl rfl) | exact Or.inr (Or.inr rfl))) rfl ?_
  refine xa_nil ?_
  refine Or.inl ⟨0, _, rfl, ?_⟩
  refine xa_nil ?_
  refine ⟨rfl, ns, _, rfl, fun i hi => ?_⟩
  refine xe_int ?_
  refine ⟨⟨by decide, by decide⟩, ?_⟩
  refine xe_var (c.nm.pv 2 rfl (by first | exact Or.inl rfl | exact Or.inr (Or.inl rfl) | exact Or.inr (Or.inr rfl))) rfl ?_
  refine ⟨hm, ?_⟩
  exact hP _ (Int.emod_nonneg _ (by omega)) (Int.emod_lt_of_pos _ hm)
theorem ok__law_pick (T : Txt K mg) (F__law_draw : Fn P w K mg base 3 "_law_draw" 3 drawF) : Fn P w K mg base 4 "_law_pick" 3 pickF := by
  refine df_mk T.d__law_pick S__law_pick rfl ?_
  rintro X W rfl rfl rfl rfl rfl c ds L Pd ex hn ⟨ns, a, l, xs, rfl, rfl, hl, hx, hP⟩
  refine xb_one ?_
  refine xs_ret ?_
  refine xe_ix ?_
  refine xe_var (c.nm.pv 2 rfl (by first | exact Or.inl rfl | exact Or.inr (Or.inl rfl) | exact Or.inr (Or.inr rfl))) rfl ?_
  refine xe_call [true] (F__law_draw.mono (by decide)) c.room c.takes (c.nm.gl rfl) ?_
  refine xa_cons ?_
  refine xe_var (c.nm.pv 0 rfl (by first | exact Or.inl rfl | exact Or.inr (Or.inl rfl) | exact Or.inr (Or.inr rfl))) rfl ?_
  refine xa_cons ?_
  refine xe_var (c.nm.pv 1 rfl (by first | exact Or.inl rfl | exact Or.inr (Or.inl rfl) | exact Or.inr (Or.inr rfl))) rfl ?_
  refine xa_cons ?_
  refine xe_callB c_len (c.nm.gl rfl) T.b_len rfl ?_
  refine xa_cons ?_
  refine xe_var (c.nm.pv 2 rfl (by first | exact Or.inl rfl | exact Or.inr (Or.inl rfl) | exact Or.inr (Or.inr rfl))) rfl ?_
  refine xa_nil ?_
  refine xa_nil ?_
  have hp : 0 < (xs.length : Int) := by
    cases xs with
    | nil => exact absurd rfl hx
    | cons a r => rw [List.length_cons]; omega
  refine ⟨rfl, ns, a, l, _, rfl, rfl, hl, hp, fun r h0 h1 => ?_⟩
  obtain ⟨x, e1, e2⟩ := atI_in h0 h1
  refine ⟨x, e1, ?_⟩
  exact hP _ e2
theorem ok__law_refusal (T : Txt K mg)  : Fn P w K mg base 1 "_law_refusal" 1 (refusalF K) := by
  refine df_mk T.d__law_refusal S__law_refusal rfl ?_
  rintro X W rfl rfl rfl rfl rfl c ds L Pd ex hn ⟨i, rfl, hP⟩
  refine xb_cons ?_
  refine xs_if ?_
  refine xt_cmp o_is (by with_unfolding_all rfl) ?_
  refine xe_var (c.nm.pv 0 rfl (by first | exact Or.inl rfl | exact Or.inr (Or.inl rfl) | exact Or.inr (Or.inr rfl))) rfl ?_
  refine xe_non ?_
  try dsimp only [isND, notND, isBl, truD, eqD, neD, i2N]
  refine ite_f (by rfl) ?_
  refine xb_nil ?_
  refine xb_cons ?_
  refine xs_asg ?_
  refine xe_lst ?_
  refine xa_cons ?_
  refine xe_callB c_isExc (c.nm.gl rfl) T.b_isinstance rfl ?_
  refine xa_cons ?_
  refine xe_var (c.nm.pv 0 rfl (by first | exact Or.inl rfl | exact Or.inr (Or.inl rfl) | exact Or.inr (Or.inr rfl))) rfl ?_
  refine xa_cons ?_
  refine xe_glob (v := .ref (cls X.K 0)) (d := .raw (.ref (cls X.K 0))) (c.nm.gl rfl) T.e_BadRule.g rfl (fun _ => rfl) ?_
  refine xa_nil ?_
  refine ⟨T.q i, _, _, (ClsV.own _ : ClsV (.ref (cls X.K 0)) _), T.k i 0, ?_⟩
  refine xa_cons ?_
  refine xe_callB c_isExc (c.nm.gl rfl) T.b_isinstance rfl ?_
  refine xa_cons ?_
  refine xe_var (c.nm.pv 0 rfl (by first | exact Or.inl rfl | exact Or.inr (Or.inl rfl) | exact Or.inr (Or.inr rfl))) rfl ?_
  refine xa_cons ?_
  refine xe_glob (v := .ref (cls X.K 1)) (d := .raw (.ref (cls X.K 1))) (c.nm.gl rfl) T.e_BadFloor.g rfl (fun _ => rfl) ?_
  refine xa_nil ?_
  refine ⟨T.q i, _, _, (ClsV.own _ : ClsV (.ref (cls X.K 1)) _), T.k i 1, ?_⟩
  refine xa_cons ?_
  refine xe_callB c_isExc (c.nm.gl rfl) T.b_isinstance rfl ?_
  refine xa_cons ?_
  refine xe_var (c.nm.pv 0 rfl (by first | exact Or.inl rfl | exact Or.inr (Or.inl rfl) | exact Or.inr (Or.inr rfl))) rfl ?_
  refine xa_cons ?_
  refine xe_glob (v := .ref (cls X.K 2)) (d := .raw (.ref (cls X.K 2))) (c.nm.gl rfl) T.e_BadWalker.g rfl (fun _ => rfl) ?_
  refine xa_nil ?_
  refine ⟨T.q i, _, _, (ClsV.own _ : ClsV (.ref (cls X.K 2)) _), T.k i 2, ?_⟩
  refine xa_nil ?_
  refine ⟨szk 3 rfl (by decide), ?_⟩
  refine xg_name (by first | exact c.nm.pg 1 S__law_refusal.nd rfl rfl | exact c.pgc 1 S__law_refusal.nd rfl rfl) ?_
  refine xb_cons ?_
  refine xs_asg ?_
  refine xe_bin o_add ?_
  refine xe_var (c.nm.pv 1 rfl (by first | exact Or.inl rfl | exact Or.inr (Or.inl rfl) | exact Or.inr (Or.inr rfl))) rfl ?_
  refine xe_lst ?_
  refine xa_cons ?_
  refine xe_callB c_isExc (c.nm.gl rfl) T.b_isinstance rfl ?_
  refine xa_cons ?_
  refine xe_var (c.nm.pv 0 rfl (by first | exact Or.inl rfl | exact Or.inr (Or.inl rfl) | exact Or.inr (Or.inr rfl))) rfl ?_
  refine xa_cons ?_
  refine xe_glob (v := .ref (cls X.K 3)) (d := .raw (.ref (cls X.K 3))) (c.nm.gl rfl) T.e_BadNumber.g rfl (fun _ => rfl) ?_
  refine xa_nil ?_
  refine ⟨T.q i, _, _, (ClsV.own _ : ClsV (.ref (cls X.K 3)) _), T.k i 3, ?_⟩
  refine xa_cons ?_
  refine xe_callB c_isExc (c.nm.gl rfl) T.b_isinstance rfl ?_
  refine xa_cons ?_
  refine xe_var (c.nm.pv 0 rfl (by first | exact Or.inl rfl | exact Or.inr (Or.inl rfl) | exact Or.inr (Or.inr rfl))) rfl ?_
  refine xa_cons ?_
  refine xe_glob (v := .ref (cls X.K 4)) (d := .raw (.ref (cls X.K 4))) (c.nm.gl rfl) T.e_BadText.g rfl (fun _ => rfl) ?_
  refine xa_nil ?_
  refine ⟨T.q i, _, _, (ClsV.own _ : ClsV (.ref (cls X.K 4)) _), T.k i 4, ?_⟩
  refine xa_nil ?_
  refine ⟨szk 2 rfl (by decide), ?_⟩
  refine ⟨szk2 3 2 rfl rfl (by decide), ?_⟩
  refine xg_name (by first | exact c.nm.pg 1 S__law_refusal.nd rfl rfl | exact c.pgc 1 S__law_refusal.nd rfl rfl) ?_
  refine xb_cons ?_
  refine xs_if ?_
  refine xt_w ?_
  refine xw_or ?_
  refine xt_cmp (o_ne c.hu) (by with_unfolding_all rfl) ?_
  refine xe_bm PySem.F.plainAttrs_list PySem.F.slot_list_count PySem.F.type_list_count m_count ?_
  refine xe_var (c.nm.pv 1 rfl (by first | exact Or.inl rfl | exact Or.inr (Or.inl rfl) | exact Or.inr (Or.inr rfl))) rfl ?_
  refine ⟨rfl, ?_⟩
  refine xa_cons ?_
  refine xe_bl ?_
  refine xa_nil ?_
  refine ⟨[decide (i = 0), decide (i = 1), decide (i = 2), decide (i = 3), decide (i = 4)], rfl, ?_⟩
  refine xe_int ?_
  try dsimp only [isND, notND, isBl, truD, eqD, neD, i2N]
  refine ite_f (ref_cnt i) ?_
  refine xw_or1 ?_
  refine xt_not ?_
  refine xt_tru (by intro _; rfl) ?_
  refine xe_callB c_isExc (c.nm.gl rfl) T.b_isinstance rfl ?_
  refine xa_cons ?_
  refine xe_var (c.nm.pv 0 rfl (by first | exact Or.inl rfl | exact Or.inr (Or.inl rfl) | exact Or.inr (Or.inr rfl))) rfl ?_
  refine xa_cons ?_
  refine xe_bltn (v := .ty "ValueError") (d := .raw (.ty "ValueError")) (c.nm.gl rfl) T.b_ValueError rfl rfl (fun _ => rfl) ?_
  refine xa_nil ?_
  refine ⟨T.q i, _, _, (ClsV.ty _ : ClsV (.ty "ValueError") _), T.kv i, ?_⟩
  skip
  try dsimp only [isND, notND, isBl, truD, eqD, neD, i2N]
  refine ite_f (by rfl) ?_
  refine xb_nil ?_
  refine xb_one ?_
  refine xs_ret ?_
  refine xe_tup ?_
  refine xa_cons ?_
  refine xe_str ?_
  refine xa_cons ?_
  refine xe_ix ?_
  refine xe_lst ?_
  refine xa_cons ?_
  refine xe_str ?_
  refine xa_cons ?_
  refine xe_str ?_
  refine xa_cons ?_
  refine xe_str ?_
  refine xa_cons ?_
  refine xe_str ?_
  refine xa_cons ?_
  refine xe_str ?_
  refine xa_nil ?_
  refine ⟨szk 5 rfl (by decide), ?_⟩
  refine xe_bm PySem.F.plainAttrs_list PySem.F.slot_list_index PySem.F.type_list_index m_index ?_
  refine xe_var (c.nm.pv 1 rfl (by first | exact Or.inl rfl | exact Or.inr (Or.inl rfl) | exact Or.inr (Or.inr rfl))) rfl ?_
  refine ⟨rfl, ?_⟩
  refine xa_cons ?_
  refine xe_bl ?_
  refine xa_nil ?_
  refine ⟨[decide (i = 0), decide (i = 1), decide (i = 2), decide (i = 3), decide (i = 4)], i.val, rfl, ref_ix i, ref_lo i, ?_⟩
  refine ⟨.str (word i), ref_wd i, ?_⟩
  refine xa_nil ?_
  refine ⟨szk 2 rfl (by decide), ?_⟩
  exact hP
theorem ok_look_rule (T : Txt K mg)  : Fn P w K mg base 1 "look_rule" 1 (lookRF K) := by
  refine df_mk T.d_look_rule S_look_rule rfl ?_
  rintro X W rfl rfl rfl rfl rfl c ds L Pd ex hn ⟨r, rfl, hr, hP, hE⟩
  refine xb_one ?_
  refine xs_if ?_
  refine xt_w ?_
  refine xw_or ?_
  refine xt_not ?_
  refine xt_chain o_le o_le (by with_unfolding_all rfl) ?_
  refine xe_int ?_
  refine xe_callB c_len (c.nm.gl rfl) T.b_len rfl ?_
  refine xa_cons ?_
  refine xe_var (c.nm.pv 0 rfl (by first | exact Or.inl rfl | exact Or.inr (Or.inl rfl) | exact Or.inr (Or.inr rfl))) rfl ?_
  refine xa_nil ?_
  refine ⟨Nat.le_trans hr (by decide), ?_⟩
  try dsimp only [isND, notND, isBl, truD, eqD, neD, i2N]
  refine ite_s (fun h1 => ?_) (fun h1 => ?_)
  · try simp only [decide_eq_true_eq, decide_eq_false_iff_not, Bool.not_eq_true', Bool.not_eq_false'] at h1
    refine xe_int ?_
    try dsimp only [isND, notND, isBl, truD, eqD, neD, i2N]
    refine ite_s (fun h2 => ?_) (fun h2 => ?_)
    · try simp only [decide_eq_true_eq, decide_eq_false_iff_not, Bool.not_eq_true', Bool.not_eq_false'] at h2
      try dsimp only [isND, notND, isBl, truD, eqD, neD, i2N]
      refine iteT ?_
      refine xb_one ?_
      refine xs_raise c.calm c.takes T.e_BadRule (c.nm.gl rfl) ?_
      exact hE (by cases q : ruleOk r with | false => rfl | true => (obtain ⟨q1, q2⟩ := ruleOk_t q; omega))
    · try simp only [decide_eq_true_eq, decide_eq_false_iff_not, Bool.not_eq_true', Bool.not_eq_false'] at h2
      refine xw_or1 ?_
      refine xt_not ?_
      refine xt_tru (by intro _; rfl) ?_
      refine xe_callB (c_all c.calm) (c.nm.gl rfl) T.b_all rfl ?_
      refine xa_cons ?_
      refine LcE.e ?_
      refine lc_S (own := [("sign", 1)]) (fun i acc L' => L = L' ∧ acc = ((r.cps.toList.take i).map fun c => decide (c ∈ signs.cps.toList)).map D.bl) c.calm c.room c.nm S_look_rule.nd (blkOk_by (by decide +kernel)) (tg_one (j := 1) c.nm S_look_rule.nd rfl (by first | exact Or.inl rfl | exact Or.inr rfl) (by decide)) ?_
      refine xe_var (c.nm.pv 0 rfl (by first | exact Or.inl rfl | exact Or.inr (Or.inl rfl) | exact Or.inr (Or.inr rfl))) rfl ?_
      refine ⟨⟨rfl, rfl⟩, fun i x acc L1 hx hJ => ?_, fun acc L1 hJ => ?_⟩
      · obtain ⟨rfl, rfl⟩ := hJ
        rw [← Array.getElem?_toList] at hx
        refine ⟨⟨_, rfl⟩, ?_⟩
        rintro _ rfl
        intro Xb1 b1
        refine xe_cmp o_inS (by with_unfolding_all rfl) ?_
        refine xe_var (b1.nm.pv 1 rfl (by first | exact Or.inl rfl | exact Or.inr (Or.inl rfl) | exact Or.inr (Or.inr rfl))) rfl ?_
        refine xe_gstr (b1.nm.gl rfl) (b1.ms T.c_SIGNS) ?_
        refine ⟨x, rfl, ?_⟩
        exact ⟨by rw [List.length_map, List.length_map]; exact tk_lt hr, rfl, by rw [tk_succ hx, List.map_append]; rfl⟩
      · obtain ⟨rfl, rfl⟩ := hJ
        rw [tk_cps]
        refine xa_nil ?_
        refine ⟨_, rfl, ?_⟩
        skip
        try dsimp only [isND, notND, isBl, truD, eqD, neD, i2N]
        refine ite_s (fun h3 => ?_) (fun h3 => ?_)
        · try simp only [decide_eq_true_eq, decide_eq_false_iff_not, Bool.not_eq_true', Bool.not_eq_false'] at h3
          refine xb_one ?_
          refine xs_raise c.calm c.takes T.e_BadRule (c.nm.gl rfl) ?_
          exact hE (by cases q : ruleOk r with | false => rfl | true => (obtain ⟨q1, q2⟩ := ruleOk_t q; (rw [List.all_map] at h3; exact absurd (h3.symm.trans q2) (by decide))))
        · try simp only [decide_eq_true_eq, decide_eq_false_iff_not, Bool.not_eq_true', Bool.not_eq_false'] at h3
          refine xb_nil ?_
          exact hP (by unfold ruleOk; rw [decide_eq_true (by omega), Bool.true_and]; rw [List.all_map] at h3; exact h3)
  · try simp only [decide_eq_true_eq, decide_eq_false_iff_not, Bool.not_eq_true', Bool.not_eq_false'] at h1
    try dsimp only [isND, notND, isBl, truD, eqD, neD, i2N]
    refine iteT ?_
    try dsimp only [isND, notND, isBl, truD, eqD, neD, i2N]
    refine iteT ?_
    refine xb_one ?_
    refine xs_raise c.calm c.takes T.e_BadRule (c.nm.gl rfl) ?_
    exact hE (by cases q : ruleOk r with | false => rfl | true => (obtain ⟨q1, q2⟩ := ruleOk_t q; omega))
theorem ok_look_walker (T : Txt K mg)  : Fn P w K mg base 1 "look_walker" 1 (lookWF K) := by
  refine df_mk T.d_look_walker S_look_walker rfl ?_
  rintro X W rfl rfl rfl rfl rfl c ds L Pd ex hn ⟨x, y, h, rfl, hP, hE⟩
  refine xb_cons ?_
  refine xs_asg ?_
  refine xe_and ?_
  refine xe_cmp (o_eq c.hu) (by with_unfolding_all rfl) ?_
  refine xe_callB c_len (c.nm.gl rfl) T.b_len rfl ?_
  refine xa_cons ?_
  refine xe_var (c.nm.pv 0 rfl (by first | exact Or.inl rfl | exact Or.inr (Or.inl rfl) | exact Or.inr (Or.inr rfl))) rfl ?_
  refine xa_nil ?_
  refine xe_int ?_
  try dsimp only [isND, notND, isBl, truD, eqD, neD, i2N]
  refine ite_t (by rfl) ?_
  refine xe_and ?_
  refine xe_chain o_le o_le (by with_unfolding_all rfl) ?_
  refine xe_bin o_sub ?_
  refine xe_int ?_
  refine xe_gint (c.nm.gl rfl) T.c_FAR ?_
  refine xe_ix ?_
  refine xe_var (c.nm.pv 0 rfl (by first | exact Or.inl rfl | exact Or.inr (Or.inl rfl) | exact Or.inr (Or.inr rfl))) rfl ?_
  refine xe_int ?_
  refine ⟨_, rfl, ?_⟩
  try dsimp only [isND, notND, isBl, truD, eqD, neD, i2N]
  refine ite_s (fun h1 => ?_) (fun h1 => ?_)
  · try simp only [decide_eq_true_eq, decide_eq_false_iff_not, Bool.not_eq_true', Bool.not_eq_false'] at h1
    refine xe_gint (c.nm.gl rfl) T.c_FAR ?_
    try dsimp only [isND, notND, isBl, truD, eqD, neD, i2N]
    refine ite_s (fun h2 => ?_) (fun h2 => ?_)
    · try simp only [decide_eq_true_eq, decide_eq_false_iff_not, Bool.not_eq_true', Bool.not_eq_false'] at h2
      refine xe_one ?_
      refine xe_chain o_le o_le (by with_unfolding_all rfl) ?_
      refine xe_bin o_sub ?_
      refine xe_int ?_
      refine xe_gint (c.nm.gl rfl) T.c_FAR ?_
      refine xe_ix ?_
      refine xe_var (c.nm.pv 0 rfl (by first | exact Or.inl rfl | exact Or.inr (Or.inl rfl) | exact Or.inr (Or.inr rfl))) rfl ?_
      refine xe_int ?_
      refine ⟨_, rfl, ?_⟩
      try dsimp only [isND, notND, isBl, truD, eqD, neD, i2N]
      refine ite_s (fun h3 => ?_) (fun h3 => ?_)
      · try simp only [decide_eq_true_eq, decide_eq_false_iff_not, Bool.not_eq_true', Bool.not_eq_false'] at h3
        refine xe_gint (c.nm.gl rfl) T.c_FAR ?_
        refine xg_name (by first | exact c.nm.pg 1 S_look_walker.nd rfl rfl | exact c.pgc 1 S_look_walker.nd rfl rfl) ?_
        refine xb_one ?_
        refine xs_if ?_
        refine xt_w ?_
        refine xw_or ?_
        refine xt_not ?_
        refine xt_tru (by intro _; rfl) ?_
        refine xe_var (c.nm.pv 1 rfl (by first | exact Or.inl rfl | exact Or.inr (Or.inl rfl) | exact Or.inr (Or.inr rfl))) rfl ?_
        skip
        try dsimp only [isND, notND, isBl, truD, eqD, neD, i2N]
        refine ite_s (fun h4 => ?_) (fun h4 => ?_)
        · try simp only [decide_eq_true_eq, decide_eq_false_iff_not, Bool.not_eq_true', Bool.not_eq_false'] at h4
          try dsimp only [isND, notND, isBl, truD, eqD, neD, i2N]
          refine iteT ?_
          refine xb_one ?_
          refine xs_raise c.calm c.takes T.e_BadWalker (c.nm.gl rfl) ?_
          exact hE (by cases q : walkerOk x y h with | false => rfl | true => (have q := of_decide_eq_true q; omega))
        · try simp only [decide_eq_true_eq, decide_eq_false_iff_not, Bool.not_eq_true', Bool.not_eq_false'] at h4
          refine xw_or1 ?_
          refine xt_not ?_
          refine xt_chain o_le o_le (by with_unfolding_all rfl) ?_
          refine xe_int ?_
          refine xe_ix ?_
          refine xe_var (c.nm.pv 0 rfl (by first | exact Or.inl rfl | exact Or.inr (Or.inl rfl) | exact Or.inr (Or.inr rfl))) rfl ?_
          refine xe_int ?_
          refine ⟨_, rfl, ?_⟩
          try dsimp only [isND, notND, isBl, truD, eqD, neD, i2N]
          refine ite_s (fun h5 => ?_) (fun h5 => ?_)
          · try simp only [decide_eq_true_eq, decide_eq_false_iff_not, Bool.not_eq_true', Bool.not_eq_false'] at h5
            refine xe_int ?_
            try dsimp only [isND, notND, isBl, truD, eqD, neD, i2N]
            refine ite_s (fun h6 => ?_) (fun h6 => ?_)
            · try simp only [decide_eq_true_eq, decide_eq_false_iff_not, Bool.not_eq_true', Bool.not_eq_false'] at h6
              refine xb_one ?_
              refine xs_raise c.calm c.takes T.e_BadWalker (c.nm.gl rfl) ?_
              exact hE (by cases q : walkerOk x y h with | false => rfl | true => (have q := of_decide_eq_true q; omega))
            · try simp only [decide_eq_true_eq, decide_eq_false_iff_not, Bool.not_eq_true', Bool.not_eq_false'] at h6
              refine xb_nil ?_
              exact hP (decide_eq_true (by omega))
          · try simp only [decide_eq_true_eq, decide_eq_false_iff_not, Bool.not_eq_true', Bool.not_eq_false'] at h5
            try dsimp only [isND, notND, isBl, truD, eqD, neD, i2N]
            refine iteT ?_
            refine xb_one ?_
            refine xs_raise c.calm c.takes T.e_BadWalker (c.nm.gl rfl) ?_
            exact hE (by cases q : walkerOk x y h with | false => rfl | true => (have q := of_decide_eq_true q; omega))
      · try simp only [decide_eq_true_eq, decide_eq_false_iff_not, Bool.not_eq_true', Bool.not_eq_false'] at h3
        refine xg_name (by first | exact c.nm.pg 1 S_look_walker.nd rfl rfl | exact c.pgc 1 S_look_walker.nd rfl rfl) ?_
        refine xb_one ?_
        refine xs_if ?_
        refine xt_w ?_
        refine xw_or ?_
        refine xt_not ?_
        refine xt_tru (by intro _; rfl) ?_
        refine xe_var (c.nm.pv 1 rfl (by first | exact Or.inl rfl | exact Or.inr (Or.inl rfl) | exact Or.inr (Or.inr rfl))) rfl ?_
        skip
        try dsimp only [isND, notND, isBl, truD, eqD, neD, i2N]
        refine iteT ?_
        try dsimp only [isND, notND, isBl, truD, eqD, neD, i2N]
        refine iteT ?_
        refine xb_one ?_
        refine xs_raise c.calm c.takes T.e_BadWalker (c.nm.gl rfl) ?_
        exact hE (by cases q : walkerOk x y h with | false => rfl | true => (have q := of_decide_eq_true q; omega))
    · try simp only [decide_eq_true_eq, decide_eq_false_iff_not, Bool.not_eq_true', Bool.not_eq_false'] at h2
      refine xg_name (by first | exact c.nm.pg 1 S_look_walker.nd rfl rfl | exact c.pgc 1 S_look_walker.nd rfl rfl) ?_
      refine xb_one ?_
      refine xs_if ?_
      refine xt_w ?_
      refine xw_or ?_
      refine xt_not ?_
      refine xt_tru (by intro _; rfl) ?_
      refine xe_var (c.nm.pv 1 rfl (by first | exact Or.inl rfl | exact Or.inr (Or.inl rfl) | exact Or.inr (Or.inr rfl))) rfl ?_
      skip
      try dsimp only [isND, notND, isBl, truD, eqD, neD, i2N]
      refine iteT ?_
      try dsimp only [isND, notND, isBl, truD, eqD, neD, i2N]
      refine iteT ?_
      refine xb_one ?_
      refine xs_raise c.calm c.takes T.e_BadWalker (c.nm.gl rfl) ?_
      exact hE (by cases q : walkerOk x y h with | false => rfl | true => (have q := of_decide_eq_true q; omega))
  · try simp only [decide_eq_true_eq, decide_eq_false_iff_not, Bool.not_eq_true', Bool.not_eq_false'] at h1
    try dsimp only [isND, notND, isBl, truD, eqD, neD, i2N]
    refine iteF ?_
    refine xg_name (by first | exact c.nm.pg 1 S_look_walker.nd rfl rfl | exact c.pgc 1 S_look_walker.nd rfl rfl) ?_
    refine xb_one ?_
    refine xs_if ?_
    refine xt_w ?_
    refine xw_or ?_
    refine xt_not ?_
    refine xt_tru (by intro _; rfl) ?_
    refine xe_var (c.nm.pv 1 rfl (by first | exact Or.inl rfl | exact Or.inr (Or.inl rfl) | exact Or.inr (Or.inr rfl))) rfl ?_
    skip
    try dsimp only [isND, notND, isBl, truD, eqD, neD, i2N]
    refine iteT ?_
    try dsimp only [isND, notND, isBl, truD, eqD, neD, i2N]
    refine iteT ?_
    refine xb_one ?_
    refine xs_raise c.calm c.takes T.e_BadWalker (c.nm.gl rfl) ?_
    exact hE (by cases q : walkerOk x y h with | false => rfl | true => (have q := of_decide_eq_true q; omega))
theorem ok_look_floor (T : Txt K mg)  : Fn P w K mg base 1 "look_floor" 2 (lookFF K) := by
  refine df_mk T.d_look_floor S_look_floor rfl ?_
  rintro X W rfl rfl rfl rfl rfl c ds L Pd ex hn ⟨r, fl, rfl, hr, hf, hs, hP, hE⟩
  refine xb_cons ?_
  refine xs_if ?_
  refine xt_w ?_
  refine xw_or ?_
  refine xt_cmp o_gt (by with_unfolding_all rfl) ?_
  refine xe_callB c_len (c.nm.gl rfl) T.b_len rfl ?_
  refine xa_cons ?_
  refine xe_var (c.nm.pv 1 rfl (by first | exact Or.inl rfl | exact Or.inr (Or.inl rfl) | exact Or.inr (Or.inr rfl))) rfl ?_
  refine xa_nil ?_
  refine xe_gint (c.nm.gl rfl) T.c_MOST_MARKS ?_
  try dsimp only [isND, notND, isBl, truD, eqD, neD, i2N]
  refine ite_s (fun h0 => ?_) (fun h0 => ?_)
  · rw [decide_eq_true_eq, List.length_map] at h0
    try dsimp only [isND, notND, isBl, truD, eqD, neD, i2N]
    refine iteT ?_
    refine xb_one ?_
    refine xs_raise c.calm c.takes T.e_BadFloor (c.nm.gl rfl) ?_
    exact hE (by unfold floorOk; rw [decide_eq_false (by omega), Bool.false_and])
  · rw [decide_eq_false_iff_not, List.length_map] at h0
    refine xw_or1 ?_
    refine xt_not ?_
    refine xt_tru (by intro _; rfl) ?_
    refine xe_callB (c_all c.calm) (c.nm.gl rfl) T.b_all rfl ?_
    refine xa_cons ?_
    refine LcE.e ?_
    refine lc_L (own := [("mark", 6)]) (fun i acc L' => L = L' ∧ acc = ((fl.take i).map fun _ => true).map D.bl) c.calm c.room c.nm S_look_floor.nd (blkOk_by (by decide +kernel)) (tg_one (j := 6) c.nm S_look_floor.nd rfl (by first | exact Or.inl rfl | exact Or.inr rfl) (by decide)) ?_
    refine xe_var (c.nm.pv 1 rfl (by first | exact Or.inl rfl | exact Or.inr (Or.inl rfl) | exact Or.inr (Or.inr rfl))) rfl ?_
    refine ⟨⟨rfl, rfl⟩, fun i x acc L1 hx hJ => ?_, fun acc L1 hJ => ?_⟩
    · obtain ⟨rfl, rfl⟩ := hJ
      obtain ⟨m, hm, rfl⟩ := fl_get hx
      refine ⟨⟨_, rfl⟩, ?_⟩
      rintro _ rfl
      intro Xb1 b1
      refine xe_cmp (o_eq b1.hu) (by with_unfolding_all rfl) ?_
      refine xe_callB c_len (b1.nm.gl rfl) (b1.m T.b_len) rfl ?_
      refine xa_cons ?_
      refine xe_var (b1.nm.pv 6 rfl (by first | exact Or.inl rfl | exact Or.inr (Or.inl rfl) | exact Or.inr (Or.inr rfl))) rfl ?_
      refine xa_nil ?_
      refine xe_int ?_
      exact ⟨by rw [List.length_map, List.length_map]; exact tk_lt2 hf, rfl, by rw [tk_succ hm, List.map_append]; rfl⟩
    · obtain ⟨rfl, rfl⟩ := hJ
      rw [List.length_map, tk_all]
      refine xa_nil ?_
      refine ⟨_, rfl, ?_⟩
      skip
      try dsimp only [isND, notND, isBl, truD, eqD, neD, i2N]
      refine ite_f (by rw [List.all_map]; exact (congrArg (!·) (List.all_eq_true.mpr fun _ _ => rfl))) ?_
      refine xb_nil ?_
      refine xb_cons ?_
      refine xs_forL (fun i ρ' L' => L = L' ∧ (∀ (j : Nat) m, fl[j]? = some m → j < i → markOk r.length m = true) ∧ ∃ a b c d e, ρ' = [some (.str r), some (FL fl), a, b, c, d, e]) c.own c.calm ?_
      refine xe_var (c.nm.pv 1 rfl (by first | exact Or.inl rfl | exact Or.inr (Or.inl rfl) | exact Or.inr (Or.inr rfl))) rfl ?_
      refine ⟨⟨rfl, fun j m _ z => absurd z (Nat.not_lt_zero _), _, _, _, _, _, rfl⟩, fun i x ρ1 L1 hx hI => ?_, fun ρ1 L1 hI => ?_⟩
      · obtain ⟨rfl, hI, v1, v2, v3, v4, v5, rfl⟩ := hI
        obtain ⟨m, hm, rfl⟩ := fl_get hx
        refine xg_tup c.calm ?_
        refine ⟨rfl, ?_⟩
        refine xgs_cons ?_
        refine xg_name (by first | exact c.nm.pg 3 S_look_floor.nd rfl rfl | exact c.pgc 3 S_look_floor.nd rfl rfl) ?_
        refine xgs_cons ?_
        refine xg_name (by first | exact c.nm.pg 4 S_look_floor.nd rfl rfl | exact c.pgc 4 S_look_floor.nd rfl rfl) ?_
        refine xgs_cons ?_
        refine xg_name (by first | exact c.nm.pg 5 S_look_floor.nd rfl rfl | exact c.pgc 5 S_look_floor.nd rfl rfl) ?_
        refine xgs_nil ?_
        refine xb_one ?_
        refine xs_if ?_
        refine xt_w ?_
        refine xw_or ?_
        refine xt_not ?_
        refine xt_chain o_le o_le (by with_unfolding_all rfl) ?_
        refine xe_bin o_sub ?_
        refine xe_int ?_
        refine xe_gint (c.nm.gl rfl) T.c_FAR ?_
        refine xe_var (c.nm.pv 3 rfl (by first | exact Or.inl rfl | exact Or.inr (Or.inl rfl) | exact Or.inr (Or.inr rfl))) rfl ?_
        try dsimp only [isND, notND, isBl, truD, eqD, neD, i2N]
        refine ite_s (fun h1 => ?_) (fun h1 => ?_)
        · try simp only [decide_eq_true_eq, decide_eq_false_iff_not, Bool.not_eq_true', Bool.not_eq_false'] at h1
          refine xe_gint (c.nm.gl rfl) T.c_FAR ?_
          try dsimp only [isND, notND, isBl, truD, eqD, neD, i2N]
          refine ite_s (fun h2 => ?_) (fun h2 => ?_)
          · try simp only [decide_eq_true_eq, decide_eq_false_iff_not, Bool.not_eq_true', Bool.not_eq_false'] at h2
            try dsimp only [isND, notND, isBl, truD, eqD, neD, i2N]
            refine iteT ?_
            refine xb_one ?_
            refine xs_raise c.calm c.takes T.e_BadFloor (c.nm.gl rfl) ?_
            exact hE (by unfold floorOk; rw [all_not hm (decide_eq_false (by omega)), Bool.false_and, Bool.and_false])
          · try simp only [decide_eq_true_eq, decide_eq_false_iff_not, Bool.not_eq_true', Bool.not_eq_false'] at h2
            refine xw_or ?_
            refine xt_not ?_
            refine xt_chain o_le o_le (by with_unfolding_all rfl) ?_
            refine xe_bin o_sub ?_
            refine xe_int ?_
            refine xe_gint (c.nm.gl rfl) T.c_FAR ?_
            refine xe_var (c.nm.pv 4 rfl (by first | exact Or.inl rfl | exact Or.inr (Or.inl rfl) | exact Or.inr (Or.inr rfl))) rfl ?_
            try dsimp only [isND, notND, isBl, truD, eqD, neD, i2N]
            refine ite_s (fun h3 => ?_) (fun h3 => ?_)
            · try simp only [decide_eq_true_eq, decide_eq_false_iff_not, Bool.not_eq_true', Bool.not_eq_false'] at h3
              refine xe_gint (c.nm.gl rfl) T.c_FAR ?_
              try dsimp only [isND, notND, isBl, truD, eqD, neD, i2N]
              refine ite_s (fun h4 => ?_) (fun h4 => ?_)
              · try simp only [decide_eq_true_eq, decide_eq_false_iff_not, Bool.not_eq_true', Bool.not_eq_false'] at h4
                try dsimp only [isND, notND, isBl, truD, eqD, neD, i2N]
                refine iteT ?_
                refine xb_one ?_
                refine xs_raise c.calm c.takes T.e_BadFloor (c.nm.gl rfl) ?_
                exact hE (by unfold floorOk; rw [all_not hm (decide_eq_false (by omega)), Bool.false_and, Bool.and_false])
              · try simp only [decide_eq_true_eq, decide_eq_false_iff_not, Bool.not_eq_true', Bool.not_eq_false'] at h4
                refine xw_or1 ?_
                refine xt_not ?_
                refine xt_chain o_le o_lt (by with_unfolding_all rfl) ?_
                refine xe_int ?_
                refine xe_var (c.nm.pv 5 rfl (by first | exact Or.inl rfl | exact Or.inr (Or.inl rfl) | exact Or.inr (Or.inr rfl))) rfl ?_
                try dsimp only [isND, notND, isBl, truD, eqD, neD, i2N]
                refine ite_s (fun h5 => ?_) (fun h5 => ?_)
                · try simp only [decide_eq_true_eq, decide_eq_false_iff_not, Bool.not_eq_true', Bool.not_eq_false'] at h5
                  refine xe_callB c_len (c.nm.gl rfl) T.b_len rfl ?_
                  refine xa_cons ?_
                  refine xe_var (c.nm.pv 0 rfl (by first | exact Or.inl rfl | exact Or.inr (Or.inl rfl) | exact Or.inr (Or.inr rfl))) rfl ?_
                  refine xa_nil ?_
                  refine ⟨Nat.le_trans hr (by decide), ?_⟩
                  try dsimp only [isND, notND, isBl, truD, eqD, neD, i2N]
                  refine ite_s (fun h6 => ?_) (fun h6 => ?_)
                  · try simp only [decide_eq_true_eq, decide_eq_false_iff_not, Bool.not_eq_true', Bool.not_eq_false'] at h6
                    refine xb_one ?_
                    refine xs_raise c.calm c.takes T.e_BadFloor (c.nm.gl rfl) ?_
                    exact hE (by unfold floorOk; rw [all_not hm (decide_eq_false (by omega)), Bool.false_and, Bool.and_false])
                  · try simp only [decide_eq_true_eq, decide_eq_false_iff_not, Bool.not_eq_true', Bool.not_eq_false'] at h6
                    refine xb_nil ?_
                    refine ⟨rfl, fun j m2 e2 hj => ?_, _, _, _, _, _, rfl⟩
                    rcases Nat.lt_or_eq_of_le (Nat.le_of_lt_succ hj) with hj | rfl
                    · exact hI j m2 e2 hj
                    · rw [hm] at e2
                      cases e2
                      exact decide_eq_true (by omega)
                · try simp only [decide_eq_true_eq, decide_eq_false_iff_not, Bool.not_eq_true', Bool.not_eq_false'] at h5
                  try dsimp only [isND, notND, isBl, truD, eqD, neD, i2N]
                  refine iteT ?_
                  refine xb_one ?_
                  refine xs_raise c.calm c.takes T.e_BadFloor (c.nm.gl rfl) ?_
                  exact hE (by unfold floorOk; rw [all_not hm (decide_eq_false (by omega)), Bool.false_and, Bool.and_false])
            · try simp only [decide_eq_true_eq, decide_eq_false_iff_not, Bool.not_eq_true', Bool.not_eq_false'] at h3
              try dsimp only [isND, notND, isBl, truD, eqD, neD, i2N]
              refine iteT ?_
              try dsimp only [isND, notND, isBl, truD, eqD, neD, i2N]
              refine iteT ?_
              refine xb_one ?_
              refine xs_raise c.calm c.takes T.e_BadFloor (c.nm.gl rfl) ?_
              exact hE (by unfold floorOk; rw [all_not hm (decide_eq_false (by omega)), Bool.false_and, Bool.and_false])
        · try simp only [decide_eq_true_eq, decide_eq_false_iff_not, Bool.not_eq_true', Bool.not_eq_false'] at h1
          try dsimp only [isND, notND, isBl, truD, eqD, neD, i2N]
          refine iteT ?_
          try dsimp only [isND, notND, isBl, truD, eqD, neD, i2N]
          refine iteT ?_
          refine xb_one ?_
          refine xs_raise c.calm c.takes T.e_BadFloor (c.nm.gl rfl) ?_
          exact hE (by unfold floorOk; rw [all_not hm (decide_eq_false (by omega)), Bool.false_and, Bool.and_false])
      · obtain ⟨rfl, hI, v1, v2, v3, v4, v5, rfl⟩ := hI
        rw [List.length_map] at hI
        have hall : fl.all (markOk r.length) = true := all_take hI
        refine xb_cons ?_
        refine c.setLc 2 S_look_floor.nd rfl rfl rfl ?_ (by decide +kernel)
        refine lc_L (own := [("mark", 6)]) (fun i acc L' => L = L' ∧ acc = ((fl.take i).map plc).map prD) c.calm c.room c.nm S_look_floor.nd (blkOk_by (by decide +kernel)) (tg_one (j := 6) c.nm S_look_floor.nd rfl (by first | exact Or.inl rfl | exact Or.inr rfl) (by decide)) ?_
        refine xe_var (c.nm.pv 1 rfl (by first | exact Or.inl rfl | exact Or.inr (Or.inl rfl) | exact Or.inr (Or.inr rfl))) rfl ?_
        refine ⟨⟨rfl, rfl⟩, fun i x acc L1 hx hJ => ?_, fun acc L1 hJ => ?_⟩
        · obtain ⟨rfl, rfl⟩ := hJ
          obtain ⟨m, hm, rfl⟩ := fl_get hx
          refine ⟨⟨_, rfl⟩, ?_⟩
          rintro _ rfl
          intro Xb2 b2
          refine xe_sl_n0 ?_
          refine xe_var (b2.nm.pv 6 rfl (by first | exact Or.inl rfl | exact Or.inr (Or.inl rfl) | exact Or.inr (Or.inr rfl))) rfl ?_
          refine xe_int ?_
          refine ⟨fun z => absurd z.2 (by show ¬ ((2 : Nat) = 3); decide), ?_⟩
          exact ⟨by rw [List.length_map, List.length_map]; exact tk_lt2 hf, rfl, by rw [tk_succ hm, List.map_append]; rfl⟩
        · obtain ⟨rfl, rfl⟩ := hJ
          rw [List.length_map, tk_all]
          refine xb_one ?_
          refine xs_if ?_
          refine xt_cmp (o_ne c.hu) (by with_unfolding_all rfl) ?_
          refine xe_sset c.calm c.hu (c.nm.gl rfl) T.b_sorted (c.nm.gl rfl) T.b_set ?_
          refine xe_var (c.nm.pv 2 rfl (by first | exact Or.inl rfl | exact Or.inr (Or.inl rfl) | exact Or.inr (Or.inr rfl))) rfl ?_
          refine ⟨fl.map plc, rfl, hs (by omega) hall, fun qs q1 q2 => ?_⟩
          refine xe_var (c.nm.pv 2 rfl (by first | exact Or.inl rfl | exact Or.inr (Or.inl rfl) | exact Or.inr (Or.inr rfl))) rfl ?_
          refine ⟨prD_ok _, prD_ok _, ?_⟩
          rw [pairs_eqv, rising_iff q1 q2]
          try dsimp only [isND, notND, isBl, truD, eqD, neD, i2N]
          refine ite_s (fun h7 => ?_) (fun h7 => ?_)
          · try simp only [decide_eq_true_eq, decide_eq_false_iff_not, Bool.not_eq_true', Bool.not_eq_false'] at h7
            refine xb_one ?_
            refine xs_raise c.calm c.takes T.e_BadFloor (c.nm.gl rfl) ?_
            exact hE (by unfold floorOk; rw [h7, Bool.and_false, Bool.and_false])
          · try simp only [decide_eq_true_eq, decide_eq_false_iff_not, Bool.not_eq_true', Bool.not_eq_false'] at h7
            refine xb_nil ?_
            exact hP (by unfold floorOk; rw [h7, hall, decide_eq_true (by omega)]; rfl)
theorem ok_look_all (T : Txt K mg) (F_look_rule : Fn P w K mg base 1 "look_rule" 1 (lookRF K)) (F_look_walker : Fn P w K mg base 1 "look_walker" 1 (lookWF K)) (F_look_floor : Fn P w K mg base 1 "look_floor" 2 (lookFF K)) : Fn P w K mg base 2 "look_all" 3 (lookAF K) := by
  refine df_mk T.d_look_all S_look_all rfl ?_
  rintro X W rfl rfl rfl rfl rfl c ds L Pd ex hn ⟨r, x, y, h, fl, rfl, hk, hP, hE⟩
  refine xb_cons ?_
  refine xs_expr ?_
  refine xe_call [] (F_look_rule.mono (by decide)) c.room c.takes (c.nm.gl rfl) ?_
  refine xa_cons ?_
  refine xe_var (c.nm.pv 0 rfl (by first | exact Or.inl rfl | exact Or.inr (Or.inl rfl) | exact Or.inr (Or.inr rfl))) rfl ?_
  refine xa_nil ?_
  refine ⟨rfl, r, rfl, hk.1, fun g1 => ?_, fun g1 => hE 0 (by simp [badAll, g1])⟩
  skip
  refine xb_cons ?_
  refine xs_expr ?_
  refine xe_call [] (F_look_walker.mono (by decide)) c.room c.takes (c.nm.gl rfl) ?_
  refine xa_cons ?_
  refine xe_var (c.nm.pv 1 rfl (by first | exact Or.inl rfl | exact Or.inr (Or.inl rfl) | exact Or.inr (Or.inr rfl))) rfl ?_
  refine xa_nil ?_
  refine ⟨rfl, x, y, h, rfl, fun g2 => ?_, fun g2 => hE 2 (by simp [badAll, g1, g2])⟩
  skip
  refine xb_one ?_
  refine xs_expr ?_
  refine xe_call [] (F_look_floor.mono (by decide)) c.room c.takes (c.nm.gl rfl) ?_
  refine xa_cons ?_
  refine xe_var (c.nm.pv 0 rfl (by first | exact Or.inl rfl | exact Or.inr (Or.inl rfl) | exact Or.inr (Or.inr rfl))) rfl ?_
  refine xa_cons ?_
  refine xe_var (c.nm.pv 2 rfl (by first | exact Or.inl rfl | exact Or.inr (Or.inl rfl) | exact Or.inr (Or.inr rfl))) rfl ?_
  refine xa_nil ?_
  refine ⟨rfl, r, fl, rfl, hk.1, hk.2.1, hk.2.2, fun g3 => ?_, fun g3 => hE 1 (by simp [badAll, g1, g2, g3])⟩
  skip
  exact hP (by simp [badAll, g1, g2, g3])
theorem ok_look_many (T : Txt K mg)  : Fn P w K mg base 1 "look_many" 2 (lookMF K) := by
  refine df_mk T.d_look_many S_look_many rfl ?_
  rintro X W rfl rfl rfl rfl rfl c ds L Pd ex hn ⟨n, m, rfl, hP, hE⟩
  refine xb_one ?_
  refine xs_if ?_
  refine xt_not ?_
  refine xt_chain o_le o_le (by with_unfolding_all rfl) ?_
  refine xe_int ?_
  refine xe_var (c.nm.pv 0 rfl (by first | exact Or.inl rfl | exact Or.inr (Or.inl rfl) | exact Or.inr (Or.inr rfl))) rfl ?_
  try dsimp only [isND, notND, isBl, truD, eqD, neD, i2N]
  refine ite_s (fun h1 => ?_) (fun h1 => ?_)
  · try simp only [decide_eq_true_eq, decide_eq_false_iff_not, Bool.not_eq_true', Bool.not_eq_false'] at h1
    refine xe_var (c.nm.pv 1 rfl (by first | exact Or.inl rfl | exact Or.inr (Or.inl rfl) | exact Or.inr (Or.inr rfl))) rfl ?_
    try dsimp only [isND, notND, isBl, truD, eqD, neD, i2N]
    refine ite_s (fun h2 => ?_) (fun h2 => ?_)
    · try simp only [decide_eq_true_eq, decide_eq_false_iff_not, Bool.not_eq_true', Bool.not_eq_false'] at h2
      refine xb_one ?_
      refine xs_raise c.calm c.takes T.e_BadNumber (c.nm.gl rfl) ?_
      exact hE (by omega)
    · try simp only [decide_eq_true_eq, decide_eq_false_iff_not, Bool.not_eq_true', Bool.not_eq_false'] at h2
      refine xb_nil ?_
      exact hP (by omega)
  · try simp only [decide_eq_true_eq, decide_eq_false_iff_not, Bool.not_eq_true', Bool.not_eq_false'] at h1
    try dsimp only [isND, notND, isBl, truD, eqD, neD, i2N]
    refine iteT ?_
    refine xb_one ?_
    refine xs_raise c.calm c.takes T.e_BadNumber (c.nm.gl rfl) ?_
    exact hE (by omega)
theorem ok_run (T : Txt K mg) (F_look_all : Fn P w K mg base 2 "look_all" 3 (lookAF K)) (F_look_many : Fn P w K mg base 1 "look_many" 2 (lookMF K)) : Fn P w K mg base 3 "run" 4 (ref4 20000 K) := by
  refine df_mk T.d_run S_run rfl ?_
  rintro X W rfl rfl rfl rfl rfl c ds L Pd ex hn ⟨r, x, y, h, fl, n, i, rfl, hk, hi, hE⟩
  refine xb_cons ?_
  refine xs_expr ?_
  refine xe_call [] (F_look_all.mono (by decide)) c.room c.takes (c.nm.gl rfl) ?_
  refine xa_cons ?_
  refine xe_var (c.nm.pv 0 rfl (by first | exact Or.inl rfl | exact Or.inr (Or.inl rfl) | exact Or.inr (Or.inr rfl))) rfl ?_
  refine xa_cons ?_
  refine xe_var (c.nm.pv 1 rfl (by first | exact Or.inl rfl | exact Or.inr (Or.inl rfl) | exact Or.inr (Or.inr rfl))) rfl ?_
  refine xa_cons ?_
  refine xe_var (c.nm.pv 2 rfl (by first | exact Or.inl rfl | exact Or.inr (Or.inl rfl) | exact Or.inr (Or.inr rfl))) rfl ?_
  refine xa_nil ?_
  refine ⟨rfl, r, x, y, h, fl, rfl, hk, fun g1 => ?_, fun j g1 => by (simp only [bad4, g1] at hi; cases hi; exact hE)⟩
  skip
  refine xb_cons ?_
  refine xs_expr ?_
  refine xe_call [] (F_look_many.mono (by decide)) c.room c.takes (c.nm.gl rfl) ?_
  refine xa_cons ?_
  refine xe_var (c.nm.pv 3 rfl (by first | exact Or.inl rfl | exact Or.inr (Or.inl rfl) | exact Or.inr (Or.inr rfl))) rfl ?_
  refine xa_cons ?_
  refine xe_gint (c.nm.gl rfl) T.c_MOST_STEPS ?_
  refine xa_nil ?_
  exact ⟨rfl, n, _, rfl, fun g2 => by (simp only [bad4, g1] at hi; rw [if_pos g2] at hi; cases hi), fun g2 => by (simp only [bad4, g1] at hi; rw [if_neg g2] at hi; cases hi; exact hE)⟩
theorem ok_back (T : Txt K mg) (F_look_all : Fn P w K mg base 2 "look_all" 3 (lookAF K)) (F_look_many : Fn P w K mg base 1 "look_many" 2 (lookMF K)) : Fn P w K mg base 3 "back" 4 (ref4 20000 K) := by
  refine df_mk T.d_back S_back rfl ?_
  rintro X W rfl rfl rfl rfl rfl c ds L Pd ex hn ⟨r, x, y, h, fl, n, i, rfl, hk, hi, hE⟩
  refine xb_cons ?_
  refine xs_expr ?_
  refine xe_call [] (F_look_all.mono (by decide)) c.room c.takes (c.nm.gl rfl) ?_
  refine xa_cons ?_
  refine xe_var (c.nm.pv 0 rfl (by first | exact Or.inl rfl | exact Or.inr (Or.inl rfl) | exact Or.inr (Or.inr rfl))) rfl ?_
  refine xa_cons ?_
  refine xe_var (c.nm.pv 1 rfl (by first | exact Or.inl rfl | exact Or.inr (Or.inl rfl) | exact Or.inr (Or.inr rfl))) rfl ?_
  refine xa_cons ?_
  refine xe_var (c.nm.pv 2 rfl (by first | exact Or.inl rfl | exact Or.inr (Or.inl rfl) | exact Or.inr (Or.inr rfl))) rfl ?_
  refine xa_nil ?_
  refine ⟨rfl, r, x, y, h, fl, rfl, hk, fun g1 => ?_, fun j g1 => by (simp only [bad4, g1] at hi; cases hi; exact hE)⟩
  skip
  refine xb_cons ?_
  refine xs_expr ?_
  refine xe_call [] (F_look_many.mono (by decide)) c.room c.takes (c.nm.gl rfl) ?_
  refine xa_cons ?_
  refine xe_var (c.nm.pv 3 rfl (by first | exact Or.inl rfl | exact Or.inr (Or.inl rfl) | exact Or.inr (Or.inr rfl))) rfl ?_
  refine xa_cons ?_
  refine xe_gint (c.nm.gl rfl) T.c_MOST_STEPS ?_
  refine xa_nil ?_
  exact ⟨rfl, n, _, rfl, fun g2 => by (simp only [bad4, g1] at hi; rw [if_pos g2] at hi; cases hi), fun g2 => by (simp only [bad4, g1] at hi; rw [if_neg g2] at hi; cases hi; exact hE)⟩
theorem ok_path (T : Txt K mg) (F_look_all : Fn P w K mg base 2 "look_all" 3 (lookAF K)) (F_look_many : Fn P w K mg base 1 "look_many" 2 (lookMF K)) : Fn P w K mg base 3 "path" 4 (ref4 2000 K) := by
  refine df_mk T.d_path S_path rfl ?_
  rintro X W rfl rfl rfl rfl rfl c ds L Pd ex hn ⟨r, x, y, h, fl, n, i, rfl, hk, hi, hE⟩
  refine xb_cons ?_
  refine xs_expr ?_
  refine xe_call [] (F_look_all.mono (by decide)) c.room c.takes (c.nm.gl rfl) ?_
  refine xa_cons ?_
  refine xe_var (c.nm.pv 0 rfl (by first | exact Or.inl rfl | exact Or.inr (Or.inl rfl) | exact Or.inr (Or.inr rfl))) rfl ?_
  refine xa_cons ?_
  refine xe_var (c.nm.pv 1 rfl (by first | exact Or.inl rfl | exact Or.inr (Or.inl rfl) | exact Or.inr (Or.inr rfl))) rfl ?_
  refine xa_cons ?_
  refine xe_var (c.nm.pv 2 rfl (by first | exact Or.inl rfl | exact Or.inr (Or.inl rfl) | exact Or.inr (Or.inr rfl))) rfl ?_
  refine xa_nil ?_
  refine ⟨rfl, r, x, y, h, fl, rfl, hk, fun g1 => ?_, fun j g1 => by (simp only [bad4, g1] at hi; cases hi; exact hE)⟩
  skip
  refine xb_cons ?_
  refine xs_expr ?_
  refine xe_call [] (F_look_many.mono (by decide)) c.room c.takes (c.nm.gl rfl) ?_
  refine xa_cons ?_
  refine xe_var (c.nm.pv 3 rfl (by first | exact Or.inl rfl | exact Or.inr (Or.inl rfl) | exact Or.inr (Or.inr rfl))) rfl ?_
  refine xa_cons ?_
  refine xe_gint (c.nm.gl rfl) T.c_MOST_PATH ?_
  refine xa_nil ?_
  exact ⟨rfl, n, _, rfl, fun g2 => by (simp only [bad4, g1] at hi; rw [if_pos g2] at hi; cases hi), fun g2 => by (simp only [bad4, g1] at hi; rw [if_neg g2] at hi; cases hi; exact hE)⟩
theorem ok_read_colours (T : Txt K mg) (F_look_all : Fn P w K mg base 2 "look_all" 3 (lookAF K)) (F_look_many : Fn P w K mg base 1 "look_many" 2 (lookMF K)) : Fn P w K mg base 3 "read_colours" 4 (ref4 2000 K) := by
  refine df_mk T.d_read_colours S_read_colours rfl ?_
  rintro X W rfl rfl rfl rfl rfl c ds L Pd ex hn ⟨r, x, y, h, fl, n, i, rfl, hk, hi, hE⟩
  refine xb_cons ?_
  refine xs_expr ?_
  refine xe_call [] (F_look_all.mono (by decide)) c.room c.takes (c.nm.gl rfl) ?_
  refine xa_cons ?_
  refine xe_var (c.nm.pv 0 rfl (by first | exact Or.inl rfl | exact Or.inr (Or.inl rfl) | exact Or.inr (Or.inr rfl))) rfl ?_
  refine xa_cons ?_
  refine xe_var (c.nm.pv 1 rfl (by first | exact Or.inl rfl | exact Or.inr (Or.inl rfl) | exact Or.inr (Or.inr rfl))) rfl ?_
  refine xa_cons ?_
  refine xe_var (c.nm.pv 2 rfl (by first | exact Or.inl rfl | exact Or.inr (Or.inl rfl) | exact Or.inr (Or.inr rfl))) rfl ?_
  refine xa_nil ?_
  refine ⟨rfl, r, x, y, h, fl, rfl, hk, fun g1 => ?_, fun j g1 => by (simp only [bad4, g1] at hi; cases hi; exact hE)⟩
  skip
  refine xb_cons ?_
  refine xs_expr ?_
  refine xe_call [] (F_look_many.mono (by decide)) c.room c.takes (c.nm.gl rfl) ?_
  refine xa_cons ?_
  refine xe_var (c.nm.pv 3 rfl (by first | exact Or.inl rfl | exact Or.inr (Or.inl rfl) | exact Or.inr (Or.inr rfl))) rfl ?_
  refine xa_cons ?_
  refine xe_gint (c.nm.gl rfl) T.c_MOST_PATH ?_
  refine xa_nil ?_
  exact ⟨rfl, n, _, rfl, fun g2 => by (simp only [bad4, g1] at hi; rw [if_pos g2] at hi; cases hi), fun g2 => by (simp only [bad4, g1] at hi; rw [if_neg g2] at hi; cases hi; exact hE)⟩
theorem ok_period (T : Txt K mg) (F_look_all : Fn P w K mg base 2 "look_all" 3 (lookAF K)) (F_look_many : Fn P w K mg base 1 "look_many" 2 (lookMF K)) : Fn P w K mg base 3 "period" 4 (ref4 2000 K) := by
  refine df_mk T.d_period S_period rfl ?_
  rintro X W rfl rfl rfl rfl rfl c ds L Pd ex hn ⟨r, x, y, h, fl, n, i, rfl, hk, hi, hE⟩
  refine xb_cons ?_
  refine xs_expr ?_
  refine xe_call [] (F_look_all.mono (by decide)) c.room c.takes (c.nm.gl rfl) ?_
  refine xa_cons ?_
  refine xe_var (c.nm.pv 0 rfl (by first | exact Or.inl rfl | exact Or.inr (Or.inl rfl) | exact Or.inr (Or.inr rfl))) rfl ?_
  refine xa_cons ?_
  refine xe_var (c.nm.pv 1 rfl (by first | exact Or.inl rfl | exact Or.inr (Or.inl rfl) | exact Or.inr (Or.inr rfl))) rfl ?_
  refine xa_cons ?_
  refine xe_var (c.nm.pv 2 rfl (by first | exact Or.inl rfl | exact Or.inr (Or.inl rfl) | exact Or.inr (Or.inr rfl))) rfl ?_
  refine xa_nil ?_
  refine ⟨rfl, r, x, y, h, fl, rfl, hk, fun g1 => ?_, fun j g1 => by (simp only [bad4, g1] at hi; cases hi; exact hE)⟩
  skip
  refine xb_cons ?_
  refine xs_expr ?_
  refine xe_call [] (F_look_many.mono (by decide)) c.room c.takes (c.nm.gl rfl) ?_
  refine xa_cons ?_
  refine xe_var (c.nm.pv 3 rfl (by first | exact Or.inl rfl | exact Or.inr (Or.inl rfl) | exact Or.inr (Or.inr rfl))) rfl ?_
  refine xa_cons ?_
  refine xe_gint (c.nm.gl rfl) T.c_MOST_PATH ?_
  refine xa_nil ?_
  exact ⟨rfl, n, _, rfl, fun g2 => by (simp only [bad4, g1] at hi; rw [if_pos g2] at hi; cases hi), fun g2 => by (simp only [bad4, g1] at hi; rw [if_neg g2] at hi; cases hi; exact hE)⟩
theorem ok_counts (T : Txt K mg) (F_run : Fn P w K mg base 3 "run" 4 (ref4 20000 K)) : Fn P w K mg base 4 "counts" 4 (ref4 20000 K) := by
  refine df_mk T.d_counts S_counts rfl ?_
  rintro X W rfl rfl rfl rfl rfl c ds L Pd ex hn ⟨r, x, y, h, fl, n, i, rfl, hk, hi, hE⟩
  refine xb_cons ?_
  refine xs_asg ?_
  refine xe_ix ?_
  refine xe_call [] (F_run.mono (by decide)) c.room c.takes (c.nm.gl rfl) ?_
  refine xa_cons ?_
  refine xe_var (c.nm.pv 0 rfl (by first | exact Or.inl rfl | exact Or.inr (Or.inl rfl) | exact Or.inr (Or.inr rfl))) rfl ?_
  refine xa_cons ?_
  refine xe_var (c.nm.pv 1 rfl (by first | exact Or.inl rfl | exact Or.inr (Or.inl rfl) | exact Or.inr (Or.inr rfl))) rfl ?_
  refine xa_cons ?_
  refine xe_var (c.nm.pv 2 rfl (by first | exact Or.inl rfl | exact Or.inr (Or.inl rfl) | exact Or.inr (Or.inr rfl))) rfl ?_
  refine xa_cons ?_
  refine xe_var (c.nm.pv 3 rfl (by first | exact Or.inl rfl | exact Or.inr (Or.inl rfl) | exact Or.inr (Or.inr rfl))) rfl ?_
  refine xa_nil ?_
  exact ⟨rfl, r, x, y, h, fl, n, i, rfl, hk, hi, hE⟩
theorem ok_box (T : Txt K mg) (F_path : Fn P w K mg base 3 "path" 4 (ref4 2000 K)) : Fn P w K mg base 4 "box" 4 (ref4 2000 K) := by
  refine df_mk T.d_box S_box rfl ?_
  rintro X W rfl rfl rfl rfl rfl c ds L Pd ex hn ⟨r, x, y, h, fl, n, i, rfl, hk, hi, hE⟩
  refine xb_cons ?_
  refine xs_asg ?_
  refine xe_call [] (F_path.mono (by decide)) c.room c.takes (c.nm.gl rfl) ?_
  refine xa_cons ?_
  refine xe_var (c.nm.pv 0 rfl (by first | exact Or.inl rfl | exact Or.inr (Or.inl rfl) | exact Or.inr (Or.inr rfl))) rfl ?_
  refine xa_cons ?_
  refine xe_var (c.nm.pv 1 rfl (by first | exact Or.inl rfl | exact Or.inr (Or.inl rfl) | exact Or.inr (Or.inr rfl))) rfl ?_
  refine xa_cons ?_
  refine xe_var (c.nm.pv 2 rfl (by first | exact Or.inl rfl | exact Or.inr (Or.inl rfl) | exact Or.inr (Or.inr rfl))) rfl ?_
  refine xa_cons ?_
  refine xe_var (c.nm.pv 3 rfl (by first | exact Or.inl rfl | exact Or.inr (Or.inl rfl) | exact Or.inr (Or.inr rfl))) rfl ?_
  refine xa_nil ?_
  exact ⟨rfl, r, x, y, h, fl, n, i, rfl, hk, hi, hE⟩
theorem ok_times_seen (T : Txt K mg) (F_path : Fn P w K mg base 3 "path" 4 (ref4 2000 K)) : Fn P w K mg base 4 "times_seen" 4 (ref4 2000 K) := by
  refine df_mk T.d_times_seen S_times_seen rfl ?_
  rintro X W rfl rfl rfl rfl rfl c ds L Pd ex hn ⟨r, x, y, h, fl, n, i, rfl, hk, hi, hE⟩
  refine xb_dropX ?_
  refine xb_cons ?_
  refine xs_asg ?_
  refine xe_dnewT (fun a => ?_)
  refine xg_name (by first | exact c.nm.pg 4 S_times_seen.nd rfl rfl | exact c.pgc 4 S_times_seen.nd rfl rfl) ?_
  refine xb_cons ?_
  refine xs_forL (fun _ _ _ => True) c.own c.calm ?_
  refine xe_sl_n0 ?_
  refine xe_call [] (F_path.mono (by decide)) c.room c.takes (c.nm.gl rfl) ?_
  refine xa_cons ?_
  refine xe_var (c.nm.pv 0 rfl (by first | exact Or.inl rfl | exact Or.inr (Or.inl rfl) | exact Or.inr (Or.inr rfl))) rfl ?_
  refine xa_cons ?_
  refine xe_var (c.nm.pv 1 rfl (by first | exact Or.inl rfl | exact Or.inr (Or.inl rfl) | exact Or.inr (Or.inr rfl))) rfl ?_
  refine xa_cons ?_
  refine xe_var (c.nm.pv 2 rfl (by first | exact Or.inl rfl | exact Or.inr (Or.inl rfl) | exact Or.inr (Or.inr rfl))) rfl ?_
  refine xa_cons ?_
  refine xe_var (c.nm.pv 3 rfl (by first | exact Or.inl rfl | exact Or.inr (Or.inl rfl) | exact Or.inr (Or.inr rfl))) rfl ?_
  refine xa_nil ?_
  exact ⟨rfl, r, x, y, h, fl, n, i, rfl, hk, hi, _, List.sublist_cons_self _ _, hE⟩
theorem ok_mirrored (T : Txt K mg) (F_look_all : Fn P w K mg base 2 "look_all" 3 (lookAF K)) : Fn P w K mg base 3 "mirrored" 3 (ref3 K) := by
  refine df_mk T.d_mirrored S_mirrored rfl ?_
  rintro X W rfl rfl rfl rfl rfl c ds L Pd ex hn ⟨r, x, y, h, fl, i, rfl, hk, hi, hE⟩
  refine xb_cons ?_
  refine xs_expr ?_
  refine xe_call [] (F_look_all.mono (by decide)) c.room c.takes (c.nm.gl rfl) ?_
  refine xa_cons ?_
  refine xe_var (c.nm.pv 0 rfl (by first | exact Or.inl rfl | exact Or.inr (Or.inl rfl) | exact Or.inr (Or.inr rfl))) rfl ?_
  refine xa_cons ?_
  refine xe_var (c.nm.pv 1 rfl (by first | exact Or.inl rfl | exact Or.inr (Or.inl rfl) | exact Or.inr (Or.inr rfl))) rfl ?_
  refine xa_cons ?_
  refine xe_var (c.nm.pv 2 rfl (by first | exact Or.inl rfl | exact Or.inr (Or.inl rfl) | exact Or.inr (Or.inr rfl))) rfl ?_
  refine xa_nil ?_
  exact ⟨rfl, r, x, y, h, fl, rfl, hk, fun g1 => by (rw [g1] at hi; cases hi), fun j g1 => by (rw [g1] at hi; cases hi; exact hE)⟩
theorem ok_plain (T : Txt K mg) (F_look_all : Fn P w K mg base 2 "look_all" 3 (lookAF K)) : Fn P w K mg base 3 "plain" 3 (ref3 K) := by
  refine df_mk T.d_plain S_plain rfl ?_
  rintro X W rfl rfl rfl rfl rfl c ds L Pd ex hn ⟨r, x, y, h, fl, i, rfl, hk, hi, hE⟩
  refine xb_cons ?_
  refine xs_expr ?_
  refine xe_call [] (F_look_all.mono (by decide)) c.room c.takes (c.nm.gl rfl) ?_
  refine xa_cons ?_
  refine xe_var (c.nm.pv 0 rfl (by first | exact Or.inl rfl | exact Or.inr (Or.inl rfl) | exact Or.inr (Or.inr rfl))) rfl ?_
  refine xa_cons ?_
  refine xe_var (c.nm.pv 1 rfl (by first | exact Or.inl rfl | exact Or.inr (Or.inl rfl) | exact Or.inr (Or.inr rfl))) rfl ?_
  refine xa_cons ?_
  refine xe_var (c.nm.pv 2 rfl (by first | exact Or.inl rfl | exact Or.inr (Or.inl rfl) | exact Or.inr (Or.inr rfl))) rfl ?_
  refine xa_nil ?_
  exact ⟨rfl, r, x, y, h, fl, rfl, hk, fun g1 => by (rw [g1] at hi; cases hi), fun j g1 => by (rw [g1] at hi; cases hi; exact hE)⟩
theorem ok_is_even (T : Txt K mg) (F_look_all : Fn P w K mg base 2 "look_all" 3 (lookAF K)) : Fn P w K mg base 3 "is_even" 3 (ref3 K) := by
  refine df_mk T.d_is_even S_is_even rfl ?_
  rintro X W rfl rfl rfl rfl rfl c ds L Pd ex hn ⟨r, x, y, h, fl, i, rfl, hk, hi, hE⟩
  refine xb_cons ?_
  refine xs_expr ?_
  refine xe_call [] (F_look_all.mono (by decide)) c.room c.takes (c.nm.gl rfl) ?_
  refine xa_cons ?_
  refine xe_var (c.nm.pv 0 rfl (by first | exact Or.inl rfl | exact Or.inr (Or.inl rfl) | exact Or.inr (Or.inr rfl))) rfl ?_
  refine xa_cons ?_
  refine xe_var (c.nm.pv 1 rfl (by first | exact Or.inl rfl | exact Or.inr (Or.inl rfl) | exact Or.inr (Or.inr rfl))) rfl ?_
  refine xa_cons ?_
  refine xe_var (c.nm.pv 2 rfl (by first | exact Or.inl rfl | exact Or.inr (Or.inl rfl) | exact Or.inr (Or.inr rfl))) rfl ?_
  refine xa_nil ?_
  exact ⟨rfl, r, x, y, h, fl, rfl, hk, fun g1 => by (rw [g1] at hi; cases hi), fun j g1 => by (rw [g1] at hi; cases hi; exact hE)⟩
theorem ok_written (T : Txt K mg) (F_look_all : Fn P w K mg base 2 "look_all" 3 (lookAF K)) : Fn P w K mg base 3 "written" 3 (ref3 K) := by
  refine df_mk T.d_written S_written rfl ?_
  rintro X W rfl rfl rfl rfl rfl c ds L Pd ex hn ⟨r, x, y, h, fl, i, rfl, hk, hi, hE⟩
  refine xb_cons ?_
  refine xs_expr ?_
  refine xe_call [] (F_look_all.mono (by decide)) c.room c.takes (c.nm.gl rfl) ?_
  refine xa_cons ?_
  refine xe_var (c.nm.pv 0 rfl (by first | exact Or.inl rfl | exact Or.inr (Or.inl rfl) | exact Or.inr (Or.inr rfl))) rfl ?_
  refine xa_cons ?_
  refine xe_var (c.nm.pv 1 rfl (by first | exact Or.inl rfl | exact Or.inr (Or.inl rfl) | exact Or.inr (Or.inr rfl))) rfl ?_
  refine xa_cons ?_
  refine xe_var (c.nm.pv 2 rfl (by first | exact Or.inl rfl | exact Or.inr (Or.inl rfl) | exact Or.inr (Or.inr rfl))) rfl ?_
  refine xa_nil ?_
  exact ⟨rfl, r, x, y, h, fl, rfl, hk, fun g1 => by (rw [g1] at hi; cases hi), fun j g1 => by (rw [g1] at hi; cases hi; exact hE)⟩
theorem ok_turned (T : Txt K mg) (F_look_all : Fn P w K mg base 2 "look_all" 3 (lookAF K)) : Fn P w K mg base 3 "turned" 4 (refA K) := by
  refine df_mk T.d_turned S_turned rfl ?_
  rintro X W rfl rfl rfl rfl rfl c ds L Pd ex hn ⟨r, x, y, h, fl, d1, i, rfl, hk, hi, hE⟩
  refine xb_cons ?_
  refine xs_expr ?_
  refine xe_call [] (F_look_all.mono (by decide)) c.room c.takes (c.nm.gl rfl) ?_
  refine xa_cons ?_
  refine xe_var (c.nm.pv 0 rfl (by first | exact Or.inl rfl | exact Or.inr (Or.inl rfl) | exact Or.inr (Or.inr rfl))) rfl ?_
  refine xa_cons ?_
  refine xe_var (c.nm.pv 1 rfl (by first | exact Or.inl rfl | exact Or.inr (Or.inl rfl) | exact Or.inr (Or.inr rfl))) rfl ?_
  refine xa_cons ?_
  refine xe_var (c.nm.pv 2 rfl (by first | exact Or.inl rfl | exact Or.inr (Or.inl rfl) | exact Or.inr (Or.inr rfl))) rfl ?_
  refine xa_nil ?_
  exact ⟨rfl, r, x, y, h, fl, rfl, hk, fun g1 => by (rw [g1] at hi; cases hi), fun j g1 => by (rw [g1] at hi; cases hi; exact hE)⟩
theorem ok_goes_on (T : Txt K mg) (F_look_all : Fn P w K mg base 2 "look_all" 3 (lookAF K)) : Fn P w K mg base 3 "goes_on" 4 (refA K) := by
  refine df_mk T.d_goes_on S_goes_on rfl ?_
  rintro X W rfl rfl rfl rfl rfl c ds L Pd ex hn ⟨r, x, y, h, fl, d1, i, rfl, hk, hi, hE⟩
  refine xb_cons ?_
  refine xs_expr ?_
  refine xe_call [] (F_look_all.mono (by decide)) c.room c.takes (c.nm.gl rfl) ?_
  refine xa_cons ?_
  refine xe_var (c.nm.pv 0 rfl (by first | exact Or.inl rfl | exact Or.inr (Or.inl rfl) | exact Or.inr (Or.inr rfl))) rfl ?_
  refine xa_cons ?_
  refine xe_var (c.nm.pv 1 rfl (by first | exact Or.inl rfl | exact Or.inr (Or.inl rfl) | exact Or.inr (Or.inr rfl))) rfl ?_
  refine xa_cons ?_
  refine xe_var (c.nm.pv 2 rfl (by first | exact Or.inl rfl | exact Or.inr (Or.inl rfl) | exact Or.inr (Or.inr rfl))) rfl ?_
  refine xa_nil ?_
  exact ⟨rfl, r, x, y, h, fl, rfl, hk, fun g1 => by (rw [g1] at hi; cases hi), fun j g1 => by (rw [g1] at hi; cases hi; exact hE)⟩
theorem ok_shown (T : Txt K mg) (F_look_all : Fn P w K mg base 2 "look_all" 3 (lookAF K)) : Fn P w K mg base 3 "shown" 5 (refA5 K) := by
  refine df_mk T.d_shown S_shown rfl ?_
  rintro X W rfl rfl rfl rfl rfl c ds L Pd ex hn ⟨r, x, y, h, fl, d1, d2, i, rfl, hk, hi, hE⟩
  refine xb_cons ?_
  refine xs_expr ?_
  refine xe_call [] (F_look_all.mono (by decide)) c.room c.takes (c.nm.gl rfl) ?_
  refine xa_cons ?_
  refine xe_var (c.nm.pv 0 rfl (by first | exact Or.inl rfl | exact Or.inr (Or.inl rfl) | exact Or.inr (Or.inr rfl))) rfl ?_
  refine xa_cons ?_
  refine xe_var (c.nm.pv 1 rfl (by first | exact Or.inl rfl | exact Or.inr (Or.inl rfl) | exact Or.inr (Or.inr rfl))) rfl ?_
  refine xa_cons ?_
  refine xe_var (c.nm.pv 2 rfl (by first | exact Or.inl rfl | exact Or.inr (Or.inl rfl) | exact Or.inr (Or.inr rfl))) rfl ?_
  refine xa_nil ?_
  exact ⟨rfl, r, x, y, h, fl, rfl, hk, fun g1 => by (rw [g1] at hi; cases hi), fun j g1 => by (rw [g1] at hi; cases hi; exact hE)⟩
theorem ok_way_on (T : Txt K mg) (F_look_all : Fn P w K mg base 2 "look_all" 3 (lookAF K)) : Fn P w K mg base 3 "way_on" 5 (refA5 K) := by
  refine df_mk T.d_way_on S_way_on rfl ?_
  rintro X W rfl rfl rfl rfl rfl c ds L Pd ex hn ⟨r, x, y, h, fl, d1, d2, i, rfl, hk, hi, hE⟩
  refine xb_cons ?_
  refine xs_expr ?_
  refine xe_call [] (F_look_all.mono (by decide)) c.room c.takes (c.nm.gl rfl) ?_
  refine xa_cons ?_
  refine xe_var (c.nm.pv 0 rfl (by first | exact Or.inl rfl | exact Or.inr (Or.inl rfl) | exact Or.inr (Or.inr rfl))) rfl ?_
  refine xa_cons ?_
  refine xe_var (c.nm.pv 1 rfl (by first | exact Or.inl rfl | exact Or.inr (Or.inl rfl) | exact Or.inr (Or.inr rfl))) rfl ?_
  refine xa_cons ?_
  refine xe_var (c.nm.pv 2 rfl (by first | exact Or.inl rfl | exact Or.inr (Or.inl rfl) | exact Or.inr (Or.inr rfl))) rfl ?_
  refine xa_nil ?_
  exact ⟨rfl, r, x, y, h, fl, rfl, hk, fun g1 => by (rw [g1] at hi; cases hi), fun j g1 => by (rw [g1] at hi; cases hi; exact hE)⟩
theorem ok_are_alike (T : Txt K mg) (F_look_all : Fn P w K mg base 2 "look_all" 3 (lookAF K)) : Fn P w K mg base 3 "are_alike" 5 (refL K) := by
  refine df_mk T.d_are_alike S_are_alike rfl ?_
  rintro X W rfl rfl rfl rfl rfl c ds L Pd ex hn ⟨r, x, y, h, fl, x', y', h', fl', i, rfl, hk, hk', hi, hE⟩
  refine xb_cons ?_
  refine xs_expr ?_
  refine xe_call [] (F_look_all.mono (by decide)) c.room c.takes (c.nm.gl rfl) ?_
  refine xa_cons ?_
  refine xe_var (c.nm.pv 0 rfl (by first | exact Or.inl rfl | exact Or.inr (Or.inl rfl) | exact Or.inr (Or.inr rfl))) rfl ?_
  refine xa_cons ?_
  refine xe_var (c.nm.pv 1 rfl (by first | exact Or.inl rfl | exact Or.inr (Or.inl rfl) | exact Or.inr (Or.inr rfl))) rfl ?_
  refine xa_cons ?_
  refine xe_var (c.nm.pv 2 rfl (by first | exact Or.inl rfl | exact Or.inr (Or.inl rfl) | exact Or.inr (Or.inr rfl))) rfl ?_
  refine xa_nil ?_
  refine ⟨rfl, r, x, y, h, fl, rfl, hk, fun g1 => ?_, fun j g1 => op1 hi g1 ▸ hE⟩
  skip
  refine xb_cons ?_
  refine xs_expr ?_
  refine xe_call [] (F_look_all.mono (by decide)) c.room c.takes (c.nm.gl rfl) ?_
  refine xa_cons ?_
  refine xe_var (c.nm.pv 0 rfl (by first | exact Or.inl rfl | exact Or.inr (Or.inl rfl) | exact Or.inr (Or.inr rfl))) rfl ?_
  refine xa_cons ?_
  refine xe_var (c.nm.pv 3 rfl (by first | exact Or.inl rfl | exact Or.inr (Or.inl rfl) | exact Or.inr (Or.inr rfl))) rfl ?_
  refine xa_cons ?_
  refine xe_var (c.nm.pv 4 rfl (by first | exact Or.inl rfl | exact Or.inr (Or.inl rfl) | exact Or.inr (Or.inr rfl))) rfl ?_
  refine xa_nil ?_
  exact ⟨rfl, r, x', y', h', fl', rfl, hk', fun g2 => (op3 hi g1 g2).elim, fun j g2 => op2 hi g1 g2 ▸ hE⟩
theorem ok__law_one_b (T : Txt K mg) (F_is_even : Fn P w K mg base 3 "is_even" 3 (ref3 K)) (F_written : Fn P w K mg base 3 "written" 3 (ref3 K)) (F_turned : Fn P w K mg base 3 "turned" 4 (refA K)) (F_are_alike : Fn P w K mg base 3 "are_alike" 5 (refL K)) : Fn P w K mg base 4 "_law_one_b" 2 (oneBF K) := by
  refine df_mk T.d__law_one_b S__law_one_b rfl ?_
  rintro X W rfl rfl rfl rfl rfl c ds L Pd ex hn ⟨k, r, x, y, h, fl, n, i, rfl, hk, k0, k1, hi, hE⟩
  refine xb_cons ?_
  refine xs_asg ?_
  refine xe_ix ?_
  refine xe_var (c.nm.pv 1 rfl (by first | exact Or.inl rfl | exact Or.inr (Or.inl rfl) | exact Or.inr (Or.inr rfl))) rfl ?_
  refine xe_int ?_
  refine ⟨_, rfl, ?_⟩
  refine xg_name (by first | exact c.nm.pg 2 S__law_one_b.nd rfl rfl | exact c.pgc 2 S__law_one_b.nd rfl rfl) ?_
  refine xb_cons ?_
  refine xs_asg ?_
  refine xe_ix ?_
  refine xe_var (c.nm.pv 1 rfl (by first | exact Or.inl rfl | exact Or.inr (Or.inl rfl) | exact Or.inr (Or.inr rfl))) rfl ?_
  refine xe_int ?_
  refine ⟨_, rfl, ?_⟩
  refine xg_name (by first | exact c.nm.pg 3 S__law_one_b.nd rfl rfl | exact c.pgc 3 S__law_one_b.nd rfl rfl) ?_
  refine xb_cons ?_
  refine xs_asg ?_
  refine xe_ix ?_
  refine xe_var (c.nm.pv 1 rfl (by first | exact Or.inl rfl | exact Or.inr (Or.inl rfl) | exact Or.inr (Or.inr rfl))) rfl ?_
  refine xe_int ?_
  refine ⟨_, rfl, ?_⟩
  refine xg_name (by first | exact c.nm.pg 4 S__law_one_b.nd rfl rfl | exact c.pgc 4 S__law_one_b.nd rfl rfl) ?_
  refine xb_cons ?_
  refine xs_asg ?_
  refine xe_ix ?_
  refine xe_var (c.nm.pv 1 rfl (by first | exact Or.inl rfl | exact Or.inr (Or.inl rfl) | exact Or.inr (Or.inr rfl))) rfl ?_
  refine xe_int ?_
  refine ⟨_, rfl, ?_⟩
  refine xg_name (by first | exact c.nm.pg 5 S__law_one_b.nd rfl rfl | exact c.pgc 5 S__law_one_b.nd rfl rfl) ?_
  refine xb_cons ?_
  refine xs_if ?_
  refine xt_cmp (o_eq c.hu) (by with_unfolding_all rfl) ?_
  refine xe_var (c.nm.pv 0 rfl (by first | exact Or.inl rfl | exact Or.inr (Or.inl rfl) | exact Or.inr (Or.inr rfl))) rfl ?_
  refine xe_int ?_
  try dsimp only [isND, notND, isBl, truD, eqD, neD, i2N]
  refine ite_s (fun q13 => ?_) (fun q13 => ?_)
  · try simp only [decide_eq_true_eq, decide_eq_false_iff_not, Bool.not_eq_true', Bool.not_eq_false'] at q13
    refine xb_one ?_
    refine xs_ret ?_
    refine xe_call [] (F_is_even.mono (by decide)) c.room c.takes (c.nm.gl rfl) ?_
    refine xa_cons ?_
    refine xe_var (c.nm.pv 2 rfl (by first | exact Or.inl rfl | exact Or.inr (Or.inl rfl) | exact Or.inr (Or.inr rfl))) rfl ?_
    refine xa_cons ?_
    refine xe_var (c.nm.pv 3 rfl (by first | exact Or.inl rfl | exact Or.inr (Or.inl rfl) | exact Or.inr (Or.inr rfl))) rfl ?_
    refine xa_cons ?_
    refine xe_var (c.nm.pv 4 rfl (by first | exact Or.inl rfl | exact Or.inr (Or.inl rfl) | exact Or.inr (Or.inr rfl))) rfl ?_
    refine xa_nil ?_
    exact ⟨rfl, r, x, y, h, fl, i, rfl, hk, hi, hE⟩
  · try simp only [decide_eq_true_eq, decide_eq_false_iff_not, Bool.not_eq_true', Bool.not_eq_false'] at q13
    refine xb_nil ?_
    refine xb_cons ?_
    refine xs_if ?_
    refine xt_cmp (o_eq c.hu) (by with_unfolding_all rfl) ?_
    refine xe_var (c.nm.pv 0 rfl (by first | exact Or.inl rfl | exact Or.inr (Or.inl rfl) | exact Or.inr (Or.inr rfl))) rfl ?_
    refine xe_int ?_
    try dsimp only [isND, notND, isBl, truD, eqD, neD, i2N]
    refine ite_s (fun q14 => ?_) (fun q14 => ?_)
    · try simp only [decide_eq_true_eq, decide_eq_false_iff_not, Bool.not_eq_true', Bool.not_eq_false'] at q14
      refine xb_one ?_
      refine xs_ret ?_
      refine xe_call [] (F_written.mono (by decide)) c.room c.takes (c.nm.gl rfl) ?_
      refine xa_cons ?_
      refine xe_var (c.nm.pv 2 rfl (by first | exact Or.inl rfl | exact Or.inr (Or.inl rfl) | exact Or.inr (Or.inr rfl))) rfl ?_
      refine xa_cons ?_
      refine xe_var (c.nm.pv 3 rfl (by first | exact Or.inl rfl | exact Or.inr (Or.inl rfl) | exact Or.inr (Or.inr rfl))) rfl ?_
      refine xa_cons ?_
      refine xe_var (c.nm.pv 4 rfl (by first | exact Or.inl rfl | exact Or.inr (Or.inl rfl) | exact Or.inr (Or.inr rfl))) rfl ?_
      refine xa_nil ?_
      exact ⟨rfl, r, x, y, h, fl, i, rfl, hk, hi, hE⟩
    · try simp only [decide_eq_true_eq, decide_eq_false_iff_not, Bool.not_eq_true', Bool.not_eq_false'] at q14
      refine xb_nil ?_
      refine xb_cons ?_
      refine xs_if ?_
      refine xt_cmp (o_eq c.hu) (by with_unfolding_all rfl) ?_
      refine xe_var (c.nm.pv 0 rfl (by first | exact Or.inl rfl | exact Or.inr (Or.inl rfl) | exact Or.inr (Or.inr rfl))) rfl ?_
      refine xe_int ?_
      try dsimp only [isND, notND, isBl, truD, eqD, neD, i2N]
      refine ite_s (fun q15 => ?_) (fun q15 => ?_)
      · try simp only [decide_eq_true_eq, decide_eq_false_iff_not, Bool.not_eq_true', Bool.not_eq_false'] at q15
        refine xb_one ?_
        refine xs_ret ?_
        refine xe_call [] (F_turned.mono (by decide)) c.room c.takes (c.nm.gl rfl) ?_
        refine xa_cons ?_
        refine xe_var (c.nm.pv 2 rfl (by first | exact Or.inl rfl | exact Or.inr (Or.inl rfl) | exact Or.inr (Or.inr rfl))) rfl ?_
        refine xa_cons ?_
        refine xe_var (c.nm.pv 3 rfl (by first | exact Or.inl rfl | exact Or.inr (Or.inl rfl) | exact Or.inr (Or.inr rfl))) rfl ?_
        refine xa_cons ?_
        refine xe_var (c.nm.pv 4 rfl (by first | exact Or.inl rfl | exact Or.inr (Or.inl rfl) | exact Or.inr (Or.inr rfl))) rfl ?_
        refine xa_cons ?_
        refine xe_var (c.nm.pv 5 rfl (by first | exact Or.inl rfl | exact Or.inr (Or.inl rfl) | exact Or.inr (Or.inr rfl))) rfl ?_
        refine xa_nil ?_
        exact ⟨rfl, r, x, y, h, fl, _, i, rfl, hk, hi, hE⟩
      · try simp only [decide_eq_true_eq, decide_eq_false_iff_not, Bool.not_eq_true', Bool.not_eq_false'] at q15
        refine xb_nil ?_
        refine xb_cons ?_
        refine xs_if ?_
        refine xt_cmp (o_eq c.hu) (by with_unfolding_all rfl) ?_
        refine xe_var (c.nm.pv 0 rfl (by first | exact Or.inl rfl | exact Or.inr (Or.inl rfl) | exact Or.inr (Or.inr rfl))) rfl ?_
        refine xe_int ?_
        try dsimp only [isND, notND, isBl, truD, eqD, neD, i2N]
        refine ite_s (fun q16 => ?_) (fun q16 => ?_)
        · try simp only [decide_eq_true_eq, decide_eq_false_iff_not, Bool.not_eq_true', Bool.not_eq_false'] at q16
          refine xb_one ?_
          refine xs_ret ?_
          refine xe_call [] (F_are_alike.mono (by decide)) c.room c.takes (c.nm.gl rfl) ?_
          refine xa_cons ?_
          refine xe_var (c.nm.pv 2 rfl (by first | exact Or.inl rfl | exact Or.inr (Or.inl rfl) | exact Or.inr (Or.inr rfl))) rfl ?_
          refine xa_cons ?_
          refine xe_var (c.nm.pv 3 rfl (by first | exact Or.inl rfl | exact Or.inr (Or.inl rfl) | exact Or.inr (Or.inr rfl))) rfl ?_
          refine xa_cons ?_
          refine xe_var (c.nm.pv 4 rfl (by first | exact Or.inl rfl | exact Or.inr (Or.inl rfl) | exact Or.inr (Or.inr rfl))) rfl ?_
          refine xa_cons ?_
          refine xe_tup ?_
          refine xa_cons ?_
          refine xe_int ?_
          refine xa_cons ?_
          refine xe_int ?_
          refine xa_cons ?_
          refine xe_int ?_
          refine xa_nil ?_
          refine ⟨szk 3 rfl (by decide), ?_⟩
          refine xa_cons ?_
          refine xe_lst ?_
          refine xa_nil ?_
          refine ⟨szk 0 rfl (by decide), ?_⟩
          refine xa_nil ?_
          exact ⟨rfl, r, x, y, h, fl, 0, 0, 0, [], i, rfl, hk, okE hk, Or.inl hi, hE⟩
        · try simp only [decide_eq_true_eq, decide_eq_false_iff_not, Bool.not_eq_true', Bool.not_eq_false'] at q16
          refine xb_nil ?_
          refine xb_cons ?_
          refine xs_if ?_
          refine xt_cmp (o_eq c.hu) (by with_unfolding_all rfl) ?_
          refine xe_var (c.nm.pv 0 rfl (by first | exact Or.inl rfl | exact Or.inr (Or.inl rfl) | exact Or.inr (Or.inr rfl))) rfl ?_
          refine xe_int ?_
          try dsimp only [isND, notND, isBl, truD, eqD, neD, i2N]
          refine ite_s (fun q17 => ?_) (fun q17 => ?_)
          · try simp only [decide_eq_true_eq, decide_eq_false_iff_not, Bool.not_eq_true', Bool.not_eq_false'] at q17
            refine xb_one ?_
            refine xs_ret ?_
            refine xe_call [] (F_are_alike.mono (by decide)) c.room c.takes (c.nm.gl rfl) ?_
            refine xa_cons ?_
            refine xe_var (c.nm.pv 2 rfl (by first | exact Or.inl rfl | exact Or.inr (Or.inl rfl) | exact Or.inr (Or.inr rfl))) rfl ?_
            refine xa_cons ?_
            refine xe_tup ?_
            refine xa_cons ?_
            refine xe_int ?_
            refine xa_cons ?_
            refine xe_int ?_
            refine xa_cons ?_
            refine xe_int ?_
            refine xa_nil ?_
            refine ⟨szk 3 rfl (by decide), ?_⟩
            refine xa_cons ?_
            refine xe_lst ?_
            refine xa_nil ?_
            refine ⟨szk 0 rfl (by decide), ?_⟩
            refine xa_cons ?_
            refine xe_var (c.nm.pv 3 rfl (by first | exact Or.inl rfl | exact Or.inr (Or.inl rfl) | exact Or.inr (Or.inr rfl))) rfl ?_
            refine xa_cons ?_
            refine xe_var (c.nm.pv 4 rfl (by first | exact Or.inl rfl | exact Or.inr (Or.inl rfl) | exact Or.inr (Or.inr rfl))) rfl ?_
            refine xa_nil ?_
            exact ⟨rfl, r, 0, 0, 0, [], x, y, h, fl, i, rfl, okE hk, hk, badE hi, hE⟩
          · try simp only [decide_eq_true_eq, decide_eq_false_iff_not, Bool.not_eq_true', Bool.not_eq_false'] at q17
            refine xb_nil ?_
            refine xb_one ?_
            refine xs_ret ?_
            refine xe_non ?_
            exact False.elim (by omega)
theorem ok__law_one (T : Txt K mg) (F_run : Fn P w K mg base 3 "run" 4 (ref4 20000 K)) (F_back : Fn P w K mg base 3 "back" 4 (ref4 20000 K)) (F_counts : Fn P w K mg base 4 "counts" 4 (ref4 20000 K)) (F_path : Fn P w K mg base 3 "path" 4 (ref4 2000 K)) (F_read_colours : Fn P w K mg base 3 "read_colours" 4 (ref4 2000 K)) (F_times_seen : Fn P w K mg base 4 "times_seen" 4 (ref4 2000 K)) (F_box : Fn P w K mg base 4 "box" 4 (ref4 2000 K)) (F_period : Fn P w K mg base 3 "period" 4 (ref4 2000 K)) (F_goes_on : Fn P w K mg base 3 "goes_on" 4 (refA K)) (F_shown : Fn P w K mg base 3 "shown" 5 (refA5 K)) (F_way_on : Fn P w K mg base 3 "way_on" 5 (refA5 K)) (F_mirrored : Fn P w K mg base 3 "mirrored" 3 (ref3 K)) (F_plain : Fn P w K mg base 3 "plain" 3 (ref3 K)) (F__law_one_b : Fn P w K mg base 4 "_law_one_b" 2 (oneBF K)) : Fn P w K mg base 5 "_law_one" 2 (oneF K) := by
  refine df_mk T.d__law_one S__law_one rfl ?_
  rintro X W rfl rfl rfl rfl rfl c ds L Pd ex hn ⟨k, r, x, y, h, fl, n, i, rfl, hk, k0, k1, hi, hE⟩
  refine xb_cons ?_
  refine xs_asg ?_
  refine xe_ix ?_
  refine xe_var (c.nm.pv 1 rfl (by first | exact Or.inl rfl | exact Or.inr (Or.inl rfl) | exact Or.inr (Or.inr rfl))) rfl ?_
  refine xe_int ?_
  refine ⟨_, rfl, ?_⟩
  refine xg_name (by first | exact c.nm.pg 2 S__law_one.nd rfl rfl | exact c.pgc 2 S__law_one.nd rfl rfl) ?_
  refine xb_cons ?_
  refine xs_asg ?_
  refine xe_ix ?_
  refine xe_var (c.nm.pv 1 rfl (by first | exact Or.inl rfl | exact Or.inr (Or.inl rfl) | exact Or.inr (Or.inr rfl))) rfl ?_
  refine xe_int ?_
  refine ⟨_, rfl, ?_⟩
  refine xg_name (by first | exact c.nm.pg 3 S__law_one.nd rfl rfl | exact c.pgc 3 S__law_one.nd rfl rfl) ?_
  refine xb_cons ?_
  refine xs_asg ?_
  refine xe_ix ?_
  refine xe_var (c.nm.pv 1 rfl (by first | exact Or.inl rfl | exact Or.inr (Or.inl rfl) | exact Or.inr (Or.inr rfl))) rfl ?_
  refine xe_int ?_
  refine ⟨_, rfl, ?_⟩
  refine xg_name (by first | exact c.nm.pg 4 S__law_one.nd rfl rfl | exact c.pgc 4 S__law_one.nd rfl rfl) ?_
  refine xb_cons ?_
  refine xs_asg ?_
  refine xe_ix ?_
  refine xe_var (c.nm.pv 1 rfl (by first | exact Or.inl rfl | exact Or.inr (Or.inl rfl) | exact Or.inr (Or.inr rfl))) rfl ?_
  refine xe_int ?_
  refine ⟨_, rfl, ?_⟩
  refine xg_name (by first | exact c.nm.pg 5 S__law_one.nd rfl rfl | exact c.pgc 5 S__law_one.nd rfl rfl) ?_
  refine xb_cons ?_
  refine xs_if ?_
  refine xt_cmp (o_eq c.hu) (by with_unfolding_all rfl) ?_
  refine xe_var (c.nm.pv 0 rfl (by first | exact Or.inl rfl | exact Or.inr (Or.inl rfl) | exact Or.inr (Or.inr rfl))) rfl ?_
  refine xe_int ?_
  try dsimp only [isND, notND, isBl, truD, eqD, neD, i2N]
  refine ite_s (fun q0 => ?_) (fun q0 => ?_)
  · try simp only [decide_eq_true_eq, decide_eq_false_iff_not, Bool.not_eq_true', Bool.not_eq_false'] at q0
    refine xb_one ?_
    refine xs_ret ?_
    refine xe_call [] (F_run.mono (by decide)) c.room c.takes (c.nm.gl rfl) ?_
    refine xa_cons ?_
    refine xe_var (c.nm.pv 2 rfl (by first | exact Or.inl rfl | exact Or.inr (Or.inl rfl) | exact Or.inr (Or.inr rfl))) rfl ?_
    refine xa_cons ?_
    refine xe_var (c.nm.pv 3 rfl (by first | exact Or.inl rfl | exact Or.inr (Or.inl rfl) | exact Or.inr (Or.inr rfl))) rfl ?_
    refine xa_cons ?_
    refine xe_var (c.nm.pv 4 rfl (by first | exact Or.inl rfl | exact Or.inr (Or.inl rfl) | exact Or.inr (Or.inr rfl))) rfl ?_
    refine xa_cons ?_
    refine xe_var (c.nm.pv 5 rfl (by first | exact Or.inl rfl | exact Or.inr (Or.inl rfl) | exact Or.inr (Or.inr rfl))) rfl ?_
    refine xa_nil ?_
    exact ⟨rfl, r, x, y, h, fl, n, i, rfl, hk, oneN hi 20000 (by decide), hE⟩
  · try simp only [decide_eq_true_eq, decide_eq_false_iff_not, Bool.not_eq_true', Bool.not_eq_false'] at q0
    refine xb_nil ?_
    refine xb_cons ?_
    refine xs_if ?_
    refine xt_cmp (o_eq c.hu) (by with_unfolding_all rfl) ?_
    refine xe_var (c.nm.pv 0 rfl (by first | exact Or.inl rfl | exact Or.inr (Or.inl rfl) | exact Or.inr (Or.inr rfl))) rfl ?_
    refine xe_int ?_
    try dsimp only [isND, notND, isBl, truD, eqD, neD, i2N]
    refine ite_s (fun q1 => ?_) (fun q1 => ?_)
    · try simp only [decide_eq_true_eq, decide_eq_false_iff_not, Bool.not_eq_true', Bool.not_eq_false'] at q1
      refine xb_one ?_
      refine xs_ret ?_
      refine xe_call [] (F_back.mono (by decide)) c.room c.takes (c.nm.gl rfl) ?_
      refine xa_cons ?_
      refine xe_var (c.nm.pv 2 rfl (by first | exact Or.inl rfl | exact Or.inr (Or.inl rfl) | exact Or.inr (Or.inr rfl))) rfl ?_
      refine xa_cons ?_
      refine xe_var (c.nm.pv 3 rfl (by first | exact Or.inl rfl | exact Or.inr (Or.inl rfl) | exact Or.inr (Or.inr rfl))) rfl ?_
      refine xa_cons ?_
      refine xe_var (c.nm.pv 4 rfl (by first | exact Or.inl rfl | exact Or.inr (Or.inl rfl) | exact Or.inr (Or.inr rfl))) rfl ?_
      refine xa_cons ?_
      refine xe_var (c.nm.pv 5 rfl (by first | exact Or.inl rfl | exact Or.inr (Or.inl rfl) | exact Or.inr (Or.inr rfl))) rfl ?_
      refine xa_nil ?_
      exact ⟨rfl, r, x, y, h, fl, n, i, rfl, hk, oneN hi 20000 (by decide), hE⟩
    · try simp only [decide_eq_true_eq, decide_eq_false_iff_not, Bool.not_eq_true', Bool.not_eq_false'] at q1
      refine xb_nil ?_
      refine xb_cons ?_
      refine xs_if ?_
      refine xt_cmp (o_eq c.hu) (by with_unfolding_all rfl) ?_
      refine xe_var (c.nm.pv 0 rfl (by first | exact Or.inl rfl | exact Or.inr (Or.inl rfl) | exact Or.inr (Or.inr rfl))) rfl ?_
      refine xe_int ?_
      try dsimp only [isND, notND, isBl, truD, eqD, neD, i2N]
      refine ite_s (fun q2 => ?_) (fun q2 => ?_)
      · try simp only [decide_eq_true_eq, decide_eq_false_iff_not, Bool.not_eq_true', Bool.not_eq_false'] at q2
        refine xb_one ?_
        refine xs_ret ?_
        refine xe_call [] (F_counts.mono (by decide)) c.room c.takes (c.nm.gl rfl) ?_
        refine xa_cons ?_
        refine xe_var (c.nm.pv 2 rfl (by first | exact Or.inl rfl | exact Or.inr (Or.inl rfl) | exact Or.inr (Or.inr rfl))) rfl ?_
        refine xa_cons ?_
        refine xe_var (c.nm.pv 3 rfl (by first | exact Or.inl rfl | exact Or.inr (Or.inl rfl) | exact Or.inr (Or.inr rfl))) rfl ?_
        refine xa_cons ?_
        refine xe_var (c.nm.pv 4 rfl (by first | exact Or.inl rfl | exact Or.inr (Or.inl rfl) | exact Or.inr (Or.inr rfl))) rfl ?_
        refine xa_cons ?_
        refine xe_var (c.nm.pv 5 rfl (by first | exact Or.inl rfl | exact Or.inr (Or.inl rfl) | exact Or.inr (Or.inr rfl))) rfl ?_
        refine xa_nil ?_
        exact ⟨rfl, r, x, y, h, fl, n, i, rfl, hk, oneN hi 20000 (by decide), hE⟩
      · try simp only [decide_eq_true_eq, decide_eq_false_iff_not, Bool.not_eq_true', Bool.not_eq_false'] at q2
        refine xb_nil ?_
        refine xb_cons ?_
        refine xs_if ?_
        refine xt_cmp (o_eq c.hu) (by with_unfolding_all rfl) ?_
        refine xe_var (c.nm.pv 0 rfl (by first | exact Or.inl rfl | exact Or.inr (Or.inl rfl) | exact Or.inr (Or.inr rfl))) rfl ?_
        refine xe_int ?_
        try dsimp only [isND, notND, isBl, truD, eqD, neD, i2N]
        refine ite_s (fun q3 => ?_) (fun q3 => ?_)
        · try simp only [decide_eq_true_eq, decide_eq_false_iff_not, Bool.not_eq_true', Bool.not_eq_false'] at q3
          refine xb_one ?_
          refine xs_ret ?_
          refine xe_call [] (F_path.mono (by decide)) c.room c.takes (c.nm.gl rfl) ?_
          refine xa_cons ?_
          refine xe_var (c.nm.pv 2 rfl (by first | exact Or.inl rfl | exact Or.inr (Or.inl rfl) | exact Or.inr (Or.inr rfl))) rfl ?_
          refine xa_cons ?_
          refine xe_var (c.nm.pv 3 rfl (by first | exact Or.inl rfl | exact Or.inr (Or.inl rfl) | exact Or.inr (Or.inr rfl))) rfl ?_
          refine xa_cons ?_
          refine xe_var (c.nm.pv 4 rfl (by first | exact Or.inl rfl | exact Or.inr (Or.inl rfl) | exact Or.inr (Or.inr rfl))) rfl ?_
          refine xa_cons ?_
          refine xe_var (c.nm.pv 5 rfl (by first | exact Or.inl rfl | exact Or.inr (Or.inl rfl) | exact Or.inr (Or.inr rfl))) rfl ?_
          refine xa_nil ?_
          exact ⟨rfl, r, x, y, h, fl, n, i, rfl, hk, oneN hi 2000 (by decide), hE⟩
        · try simp only [decide_eq_true_eq, decide_eq_false_iff_not, Bool.not_eq_true', Bool.not_eq_false'] at q3
          refine xb_nil ?_
          refine xb_cons ?_
          refine xs_if ?_
          refine xt_cmp (o_eq c.hu) (by with_unfolding_all rfl) ?_
          refine xe_var (c.nm.pv 0 rfl (by first | exact Or.inl rfl | exact Or.inr (Or.inl rfl) | exact Or.inr (Or.inr rfl))) rfl ?_
          refine xe_int ?_
          try dsimp only [isND, notND, isBl, truD, eqD, neD, i2N]
          refine ite_s (fun q4 => ?_) (fun q4 => ?_)
          · try simp only [decide_eq_true_eq, decide_eq_false_iff_not, Bool.not_eq_true', Bool.not_eq_false'] at q4
            refine xb_one ?_
            refine xs_ret ?_
            refine xe_call [] (F_read_colours.mono (by decide)) c.room c.takes (c.nm.gl rfl) ?_
            refine xa_cons ?_
            refine xe_var (c.nm.pv 2 rfl (by first | exact Or.inl rfl | exact Or.inr (Or.inl rfl) | exact Or.inr (Or.inr rfl))) rfl ?_
            refine xa_cons ?_
            refine xe_var (c.nm.pv 3 rfl (by first | exact Or.inl rfl | exact Or.inr (Or.inl rfl) | exact Or.inr (Or.inr rfl))) rfl ?_
            refine xa_cons ?_
            refine xe_var (c.nm.pv 4 rfl (by first | exact Or.inl rfl | exact Or.inr (Or.inl rfl) | exact Or.inr (Or.inr rfl))) rfl ?_
            refine xa_cons ?_
            refine xe_var (c.nm.pv 5 rfl (by first | exact Or.inl rfl | exact Or.inr (Or.inl rfl) | exact Or.inr (Or.inr rfl))) rfl ?_
            refine xa_nil ?_
            exact ⟨rfl, r, x, y, h, fl, n, i, rfl, hk, oneN hi 2000 (by decide), hE⟩
          · try simp only [decide_eq_true_eq, decide_eq_false_iff_not, Bool.not_eq_true', Bool.not_eq_false'] at q4
            refine xb_nil ?_
            refine xb_cons ?_
            refine xs_if ?_
            refine xt_cmp (o_eq c.hu) (by with_unfolding_all rfl) ?_
            refine xe_var (c.nm.pv 0 rfl (by first | exact Or.inl rfl | exact Or.inr (Or.inl rfl) | exact Or.inr (Or.inr rfl))) rfl ?_
            refine xe_int ?_
            try dsimp only [isND, notND, isBl, truD, eqD, neD, i2N]
            refine ite_s (fun q5 => ?_) (fun q5 => ?_)
            · try simp only [decide_eq_true_eq, decide_eq_false_iff_not, Bool.not_eq_true', Bool.not_eq_false'] at q5
              refine xb_one ?_
              refine xs_ret ?_
              refine xe_call [] (F_times_seen.mono (by decide)) c.room c.takes (c.nm.gl rfl) ?_
              refine xa_cons ?_
              refine xe_var (c.nm.pv 2 rfl (by first | exact Or.inl rfl | exact Or.inr (Or.inl rfl) | exact Or.inr (Or.inr rfl))) rfl ?_
              refine xa_cons ?_
              refine xe_var (c.nm.pv 3 rfl (by first | exact Or.inl rfl | exact Or.inr (Or.inl rfl) | exact Or.inr (Or.inr rfl))) rfl ?_
              refine xa_cons ?_
              refine xe_var (c.nm.pv 4 rfl (by first | exact Or.inl rfl | exact Or.inr (Or.inl rfl) | exact Or.inr (Or.inr rfl))) rfl ?_
              refine xa_cons ?_
              refine xe_var (c.nm.pv 5 rfl (by first | exact Or.inl rfl | exact Or.inr (Or.inl rfl) | exact Or.inr (Or.inr rfl))) rfl ?_
              refine xa_nil ?_
              exact ⟨rfl, r, x, y, h, fl, n, i, rfl, hk, oneN hi 2000 (by decide), hE⟩
            · try simp only [decide_eq_true_eq, decide_eq_false_iff_not, Bool.not_eq_true', Bool.not_eq_false'] at q5
              refine xb_nil ?_
              refine xb_cons ?_
              refine xs_if ?_
              refine xt_cmp (o_eq c.hu) (by with_unfolding_all rfl) ?_
              refine xe_var (c.nm.pv 0 rfl (by first | exact Or.inl rfl | exact Or.inr (Or.inl rfl) | exact Or.inr (Or.inr rfl))) rfl ?_
              refine xe_int ?_
              try dsimp only [isND, notND, isBl, truD, eqD, neD, i2N]
              refine ite_s (fun q6 => ?_) (fun q6 => ?_)
              · try simp only [decide_eq_true_eq, decide_eq_false_iff_not, Bool.not_eq_true', Bool.not_eq_false'] at q6
                refine xb_one ?_
                refine xs_ret ?_
                refine xe_call [] (F_box.mono (by decide)) c.room c.takes (c.nm.gl rfl) ?_
                refine xa_cons ?_
                refine xe_var (c.nm.pv 2 rfl (by first | exact Or.inl rfl | exact Or.inr (Or.inl rfl) | exact Or.inr (Or.inr rfl))) rfl ?_
                refine xa_cons ?_
                refine xe_var (c.nm.pv 3 rfl (by first | exact Or.inl rfl | exact Or.inr (Or.inl rfl) | exact Or.inr (Or.inr rfl))) rfl ?_
                refine xa_cons ?_
                refine xe_var (c.nm.pv 4 rfl (by first | exact Or.inl rfl | exact Or.inr (Or.inl rfl) | exact Or.inr (Or.inr rfl))) rfl ?_
                refine xa_cons ?_
                refine xe_var (c.nm.pv 5 rfl (by first | exact Or.inl rfl | exact Or.inr (Or.inl rfl) | exact Or.inr (Or.inr rfl))) rfl ?_
                refine xa_nil ?_
                exact ⟨rfl, r, x, y, h, fl, n, i, rfl, hk, oneN hi 2000 (by decide), hE⟩
              · try simp only [decide_eq_true_eq, decide_eq_false_iff_not, Bool.not_eq_true', Bool.not_eq_false'] at q6
                refine xb_nil ?_
                refine xb_cons ?_
                refine xs_if ?_
                refine xt_cmp (o_eq c.hu) (by with_unfolding_all rfl) ?_
                refine xe_var (c.nm.pv 0 rfl (by first | exact Or.inl rfl | exact Or.inr (Or.inl rfl) | exact Or.inr (Or.inr rfl))) rfl ?_
                refine xe_int ?_
                try dsimp only [isND, notND, isBl, truD, eqD, neD, i2N]
                refine ite_s (fun q7 => ?_) (fun q7 => ?_)
                · try simp only [decide_eq_true_eq, decide_eq_false_iff_not, Bool.not_eq_true', Bool.not_eq_false'] at q7
                  refine xb_one ?_
                  refine xs_ret ?_
                  refine xe_call [] (F_period.mono (by decide)) c.room c.takes (c.nm.gl rfl) ?_
                  refine xa_cons ?_
                  refine xe_var (c.nm.pv 2 rfl (by first | exact Or.inl rfl | exact Or.inr (Or.inl rfl) | exact Or.inr (Or.inr rfl))) rfl ?_
                  refine xa_cons ?_
                  refine xe_var (c.nm.pv 3 rfl (by first | exact Or.inl rfl | exact Or.inr (Or.inl rfl) | exact Or.inr (Or.inr rfl))) rfl ?_
                  refine xa_cons ?_
                  refine xe_var (c.nm.pv 4 rfl (by first | exact Or.inl rfl | exact Or.inr (Or.inl rfl) | exact Or.inr (Or.inr rfl))) rfl ?_
                  refine xa_cons ?_
                  refine xe_var (c.nm.pv 5 rfl (by first | exact Or.inl rfl | exact Or.inr (Or.inl rfl) | exact Or.inr (Or.inr rfl))) rfl ?_
                  refine xa_nil ?_
                  exact ⟨rfl, r, x, y, h, fl, n, i, rfl, hk, oneN hi 2000 (by decide), hE⟩
                · try simp only [decide_eq_true_eq, decide_eq_false_iff_not, Bool.not_eq_true', Bool.not_eq_false'] at q7
                  refine xb_nil ?_
                  refine xb_cons ?_
                  refine xs_if ?_
                  refine xt_cmp (o_eq c.hu) (by with_unfolding_all rfl) ?_
                  refine xe_var (c.nm.pv 0 rfl (by first | exact Or.inl rfl | exact Or.inr (Or.inl rfl) | exact Or.inr (Or.inr rfl))) rfl ?_
                  refine xe_int ?_
                  try dsimp only [isND, notND, isBl, truD, eqD, neD, i2N]
                  refine ite_s (fun q8 => ?_) (fun q8 => ?_)
                  · try simp only [decide_eq_true_eq, decide_eq_false_iff_not, Bool.not_eq_true', Bool.not_eq_false'] at q8
                    refine xb_one ?_
                    refine xs_ret ?_
                    refine xe_call [] (F_goes_on.mono (by decide)) c.room c.takes (c.nm.gl rfl) ?_
                    refine xa_cons ?_
                    refine xe_var (c.nm.pv 2 rfl (by first | exact Or.inl rfl | exact Or.inr (Or.inl rfl) | exact Or.inr (Or.inr rfl))) rfl ?_
                    refine xa_cons ?_
                    refine xe_var (c.nm.pv 3 rfl (by first | exact Or.inl rfl | exact Or.inr (Or.inl rfl) | exact Or.inr (Or.inr rfl))) rfl ?_
                    refine xa_cons ?_
                    refine xe_var (c.nm.pv 4 rfl (by first | exact Or.inl rfl | exact Or.inr (Or.inl rfl) | exact Or.inr (Or.inr rfl))) rfl ?_
                    refine xa_cons ?_
                    refine xe_var (c.nm.pv 5 rfl (by first | exact Or.inl rfl | exact Or.inr (Or.inl rfl) | exact Or.inr (Or.inr rfl))) rfl ?_
                    refine xa_nil ?_
                    exact ⟨rfl, r, x, y, h, fl, _, i, rfl, hk, oneA hi (by omega), hE⟩
                  · try simp only [decide_eq_true_eq, decide_eq_false_iff_not, Bool.not_eq_true', Bool.not_eq_false'] at q8
                    refine xb_nil ?_
                    refine xb_cons ?_
                    refine xs_if ?_
                    refine xt_cmp (o_eq c.hu) (by with_unfolding_all rfl) ?_
                    refine xe_var (c.nm.pv 0 rfl (by first | exact Or.inl rfl | exact Or.inr (Or.inl rfl) | exact Or.inr (Or.inr rfl))) rfl ?_
                    refine xe_int ?_
                    try dsimp only [isND, notND, isBl, truD, eqD, neD, i2N]
                    refine ite_s (fun q9 => ?_) (fun q9 => ?_)
                    · try simp only [decide_eq_true_eq, decide_eq_false_iff_not, Bool.not_eq_true', Bool.not_eq_false'] at q9
                      refine xb_one ?_
                      refine xs_ret ?_
                      refine xe_call [] (F_shown.mono (by decide)) c.room c.takes (c.nm.gl rfl) ?_
                      refine xa_cons ?_
                      refine xe_var (c.nm.pv 2 rfl (by first | exact Or.inl rfl | exact Or.inr (Or.inl rfl) | exact Or.inr (Or.inr rfl))) rfl ?_
                      refine xa_cons ?_
                      refine xe_var (c.nm.pv 3 rfl (by first | exact Or.inl rfl | exact Or.inr (Or.inl rfl) | exact Or.inr (Or.inr rfl))) rfl ?_
                      refine xa_cons ?_
                      refine xe_var (c.nm.pv 4 rfl (by first | exact Or.inl rfl | exact Or.inr (Or.inl rfl) | exact Or.inr (Or.inr rfl))) rfl ?_
                      refine xa_cons ?_
                      refine xe_var (c.nm.pv 5 rfl (by first | exact Or.inl rfl | exact Or.inr (Or.inl rfl) | exact Or.inr (Or.inr rfl))) rfl ?_
                      refine xa_cons ?_
                      refine xe_neg ?_
                      refine xe_int ?_
                      refine xa_nil ?_
                      exact ⟨rfl, r, x, y, h, fl, _, _, i, rfl, hk, oneA hi (by omega), hE⟩
                    · try simp only [decide_eq_true_eq, decide_eq_false_iff_not, Bool.not_eq_true', Bool.not_eq_false'] at q9
                      refine xb_nil ?_
                      refine xb_cons ?_
                      refine xs_if ?_
                      refine xt_cmp (o_eq c.hu) (by with_unfolding_all rfl) ?_
                      refine xe_var (c.nm.pv 0 rfl (by first | exact Or.inl rfl | exact Or.inr (Or.inl rfl) | exact Or.inr (Or.inr rfl))) rfl ?_
                      refine xe_int ?_
                      try dsimp only [isND, notND, isBl, truD, eqD, neD, i2N]
                      refine ite_s (fun q10 => ?_) (fun q10 => ?_)
                      · try simp only [decide_eq_true_eq, decide_eq_false_iff_not, Bool.not_eq_true', Bool.not_eq_false'] at q10
                        refine xb_one ?_
                        refine xs_ret ?_
                        refine xe_call [] (F_way_on.mono (by decide)) c.room c.takes (c.nm.gl rfl) ?_
                        refine xa_cons ?_
                        refine xe_var (c.nm.pv 2 rfl (by first | exact Or.inl rfl | exact Or.inr (Or.inl rfl) | exact Or.inr (Or.inr rfl))) rfl ?_
                        refine xa_cons ?_
                        refine xe_var (c.nm.pv 3 rfl (by first | exact Or.inl rfl | exact Or.inr (Or.inl rfl) | exact Or.inr (Or.inr rfl))) rfl ?_
                        refine xa_cons ?_
                        refine xe_var (c.nm.pv 4 rfl (by first | exact Or.inl rfl | exact Or.inr (Or.inl rfl) | exact Or.inr (Or.inr rfl))) rfl ?_
                        refine xa_cons ?_
                        refine xe_var (c.nm.pv 5 rfl (by first | exact Or.inl rfl | exact Or.inr (Or.inl rfl) | exact Or.inr (Or.inr rfl))) rfl ?_
                        refine xa_cons ?_
                        refine xe_neg ?_
                        refine xe_int ?_
                        refine xa_nil ?_
                        exact ⟨rfl, r, x, y, h, fl, _, _, i, rfl, hk, oneA hi (by omega), hE⟩
                      · try simp only [decide_eq_true_eq, decide_eq_false_iff_not, Bool.not_eq_true', Bool.not_eq_false'] at q10
                        refine xb_nil ?_
                        refine xb_cons ?_
                        refine xs_if ?_
                        refine xt_cmp (o_eq c.hu) (by with_unfolding_all rfl) ?_
                        refine xe_var (c.nm.pv 0 rfl (by first | exact Or.inl rfl | exact Or.inr (Or.inl rfl) | exact Or.inr (Or.inr rfl))) rfl ?_
                        refine xe_int ?_
                        try dsimp only [isND, notND, isBl, truD, eqD, neD, i2N]
                        refine ite_s (fun q11 => ?_) (fun q11 => ?_)
                        · try simp only [decide_eq_true_eq, decide_eq_false_iff_not, Bool.not_eq_true', Bool.not_eq_false'] at q11
                          refine xb_one ?_
                          refine xs_ret ?_
                          refine xe_call [] (F_mirrored.mono (by decide)) c.room c.takes (c.nm.gl rfl) ?_
                          refine xa_cons ?_
                          refine xe_var (c.nm.pv 2 rfl (by first | exact Or.inl rfl | exact Or.inr (Or.inl rfl) | exact Or.inr (Or.inr rfl))) rfl ?_
                          refine xa_cons ?_
                          refine xe_var (c.nm.pv 3 rfl (by first | exact Or.inl rfl | exact Or.inr (Or.inl rfl) | exact Or.inr (Or.inr rfl))) rfl ?_
                          refine xa_cons ?_
                          refine xe_var (c.nm.pv 4 rfl (by first | exact Or.inl rfl | exact Or.inr (Or.inl rfl) | exact Or.inr (Or.inr rfl))) rfl ?_
                          refine xa_nil ?_
                          exact ⟨rfl, r, x, y, h, fl, i, rfl, hk, oneA hi (by omega), hE⟩
                        · try simp only [decide_eq_true_eq, decide_eq_false_iff_not, Bool.not_eq_true', Bool.not_eq_false'] at q11
                          refine xb_nil ?_
                          refine xb_cons ?_
                          refine xs_if ?_
                          refine xt_cmp (o_eq c.hu) (by with_unfolding_all rfl) ?_
                          refine xe_var (c.nm.pv 0 rfl (by first | exact Or.inl rfl | exact Or.inr (Or.inl rfl) | exact Or.inr (Or.inr rfl))) rfl ?_
                          refine xe_int ?_
                          try dsimp only [isND, notND, isBl, truD, eqD, neD, i2N]
                          refine ite_s (fun q12 => ?_) (fun q12 => ?_)
                          · try simp only [decide_eq_true_eq, decide_eq_false_iff_not, Bool.not_eq_true', Bool.not_eq_false'] at q12
                            refine xb_one ?_
                            refine xs_ret ?_
                            refine xe_call [] (F_plain.mono (by decide)) c.room c.takes (c.nm.gl rfl) ?_
                            refine xa_cons ?_
                            refine xe_var (c.nm.pv 2 rfl (by first | exact Or.inl rfl | exact Or.inr (Or.inl rfl) | exact Or.inr (Or.inr rfl))) rfl ?_
                            refine xa_cons ?_
                            refine xe_var (c.nm.pv 3 rfl (by first | exact Or.inl rfl | exact Or.inr (Or.inl rfl) | exact Or.inr (Or.inr rfl))) rfl ?_
                            refine xa_cons ?_
                            refine xe_var (c.nm.pv 4 rfl (by first | exact Or.inl rfl | exact Or.inr (Or.inl rfl) | exact Or.inr (Or.inr rfl))) rfl ?_
                            refine xa_nil ?_
                            exact ⟨rfl, r, x, y, h, fl, i, rfl, hk, oneA hi (by omega), hE⟩
                          · try simp only [decide_eq_true_eq, decide_eq_false_iff_not, Bool.not_eq_true', Bool.not_eq_false'] at q12
                            refine xb_nil ?_
                            refine xb_one ?_
                            refine xs_ret ?_
                            refine xe_call [] (F__law_one_b.mono (by decide)) c.room c.takes (c.nm.gl rfl) ?_
                            refine xa_cons ?_
                            refine xe_var (c.nm.pv 0 rfl (by first | exact Or.inl rfl | exact Or.inr (Or.inl rfl) | exact Or.inr (Or.inr rfl))) rfl ?_
                            refine xa_cons ?_
                            refine xe_var (c.nm.pv 1 rfl (by first | exact Or.inl rfl | exact Or.inr (Or.inl rfl) | exact Or.inr (Or.inr rfl))) rfl ?_
                            refine xa_nil ?_
                            exact ⟨rfl, k, r, x, y, h, fl, n, i, rfl, hk, by omega, k1, oneA hi (by omega), hE⟩
theorem ok__law_told (T : Txt K mg) (F__law_one : Fn P w K mg base 5 "_law_one" 2 (oneF K)) (F__law_refusal : Fn P w K mg base 1 "_law_refusal" 1 (refusalF K)) : Fn P w K mg base 6 "_law_told" 2 (toldF K) := by
  refine df_mk T.d__law_told S__law_told rfl ?_
  rintro X W rfl rfl rfl rfl rfl c ds L Pd ex hn ⟨k, r, x, y, h, fl, n, i, rfl, hk, k0, k1, hi, hP⟩
  refine xb_cons ?_
  refine xs_asg ?_
  refine xe_non ?_
  refine xg_name (by first | exact c.nm.pg 2 S__law_told.nd rfl rfl | exact c.pgc 2 S__law_told.nd rfl rfl) ?_
  refine xb_cons ?_
  refine xs_asg ?_
  refine xe_non ?_
  refine xg_name (by first | exact c.nm.pg 3 S__law_told.nd rfl rfl | exact c.pgc 3 S__law_told.nd rfl rfl) ?_
  refine xb_cons ?_
  refine xs_try (i := 4) (j := 2) c S__law_told.nd rfl rfl rfl (by first | exact Or.inl rfl | exact Or.inr rfl) (by decide) (by decide) ⟨c.nm.gl rfl, by decide, Or.inl T.e_MarkError⟩ (fun C => ∃ i, C = cls X.K i) (fun C ⟨i, e⟩ => e ▸ T.x i) ?_
  rintro X1 W1 h1 h2 h3 h4 h5 c1
  rw [← h1, ← h2, ← h3, ← h4, ← h5] at F__law_one
  refine xb_one ?_
  refine xs_asg ?_
  refine xe_call [] (F__law_one.mono (by decide)) c1.room c1.takes (c1.nm.gl rfl) ?_
  refine xa_cons ?_
  refine xe_var (c1.nm.pv 0 rfl (by first | exact Or.inl rfl | exact Or.inr (Or.inl rfl) | exact Or.inr (Or.inr rfl))) rfl ?_
  refine xa_cons ?_
  refine xe_var (c1.nm.pv 1 rfl (by first | exact Or.inl rfl | exact Or.inr (Or.inl rfl) | exact Or.inr (Or.inr rfl))) rfl ?_
  refine xa_nil ?_
  refine ⟨rfl, k, r, x, y, h, fl, n, i, rfl, hk, k0, k1, hi, ⟨i, by rw [h3]⟩, ?_⟩
  refine xb_one ?_
  refine xs_ret ?_
  refine xe_if ?_
  refine xt_cmp o_is (by with_unfolding_all rfl) ?_
  refine xe_var (c.nm.pv 2 rfl (by first | exact Or.inl rfl | exact Or.inr (Or.inl rfl) | exact Or.inr (Or.inr rfl))) rfl ?_
  refine xe_non ?_
  try dsimp only [isND, notND, isBl, truD, eqD, neD, i2N]
  refine ite_f (by rfl) ?_
  refine xe_call [] (F__law_refusal.mono (by decide)) c.room c.takes (c.nm.gl rfl) ?_
  refine xa_cons ?_
  refine xe_var (c.nm.pv 2 rfl (by first | exact Or.inl rfl | exact Or.inr (Or.inl rfl) | exact Or.inr (Or.inr rfl))) rfl ?_
  refine xa_nil ?_
  refine ⟨rfl, i, by rw [h3], ?_⟩
  exact hP
theorem body_law (T : Txt K mg) (F__law_pick : Fn P w K mg base 4 "_law_pick" 3 pickF) (F__law_draw : Fn P w K mg base 3 "_law_draw" 3 drawF) (F__law_told : Fn P w K mg base 6 "_law_told" 2 (toldF K)) {k : Nat} (hk4 : 6 ≤ k) : ∀ (X : Cx) (W : WX), X.prog = P → X.w = w → X.K = K → X.mg = mg → X.base = base → Cok X W N_law (defScope s_law) k → ∀ ns : List Int, ns.length ≤ 63 →
    XB X W (defBody s_law) ([some (.sq (ns.map D.int))] ++ List.replicate (N_law.length - 1) none) [] { nx := fun _ _ => False, rt := fun d _ => d = .bl true, ex := fun _ _ _ => False } := by
  rintro X W rfl rfl rfl rfl rfl c ns hns
  refine xb_cons ?_
  refine xs_asg ?_
  refine xe_lstC ?_
  refine xa_nil ?_
  refine ⟨szk 0 rfl (by decide), fun a => ?_⟩
  refine xg_name (by first | exact c.nm.pg 1 S_law.nd rfl rfl | exact c.pgc 1 S_law.nd rfl rfl) ?_
  refine xb_cons ?_
  refine xs_asg ?_
  refine xe_call [true] (F__law_pick.mono (Nat.le_trans (by decide) hk4)) c.room c.takes (c.nm.gl rfl) ?_
  refine xa_cons ?_
  refine xe_var (c.nm.pv 0 rfl (by first | exact Or.inl rfl | exact Or.inr (Or.inl rfl) | exact Or.inr (Or.inr rfl))) rfl ?_
  refine xa_cons ?_
  refine xe_var (c.nm.pv 1 rfl (by first | exact Or.inl rfl | exact Or.inr (Or.inl rfl) | exact Or.inr (Or.inr rfl))) rfl ?_
  refine xa_cons ?_
  refine xe_lst ?_
  refine xa_cons ?_
  refine xe_str ?_
  refine xa_cons ?_
  refine xe_str ?_
  refine xa_cons ?_
  refine xe_str ?_
  refine xa_cons ?_
  refine xe_str ?_
  refine xa_cons ?_
  refine xe_str ?_
  refine xa_cons ?_
  refine xe_str ?_
  refine xa_nil ?_
  refine ⟨szk 6 rfl (by decide), ?_⟩
  refine xa_nil ?_
  refine ⟨rfl, ns, a, _, _, rfl, rfl, (by decide), (by intro z; cases z), fun z hz => ?_⟩
  simp only [List.mem_cons, List.not_mem_nil, or_false] at hz
  obtain ⟨br, rfl, hbr⟩ : ∃ r : Str, z = .str r ∧ (ruleOk r = false ∧ r.length ≤ 100000) := by
    rcases hz with rfl | rfl | rfl | rfl | rfl | rfl <;> exact ⟨_, rfl, by decide +kernel, by decide +kernel⟩
  refine xg_name (by first | exact c.nm.pg 2 S_law.nd rfl rfl | exact c.pgc 2 S_law.nd rfl rfl) ?_
  refine xb_cons ?_
  refine xs_asg ?_
  refine xe_call [true] (F__law_pick.mono (Nat.le_trans (by decide) hk4)) c.room c.takes (c.nm.gl rfl) ?_
  refine xa_cons ?_
  refine xe_var (c.nm.pv 0 rfl (by first | exact Or.inl rfl | exact Or.inr (Or.inl rfl) | exact Or.inr (Or.inr rfl))) rfl ?_
  refine xa_cons ?_
  refine xe_var (c.nm.pv 1 rfl (by first | exact Or.inl rfl | exact Or.inr (Or.inl rfl) | exact Or.inr (Or.inr rfl))) rfl ?_
  refine xa_cons ?_
  refine xe_lst ?_
  refine xa_cons ?_
  refine xe_tup ?_
  refine xa_cons ?_
  refine xe_int ?_
  refine xa_cons ?_
  refine xe_int ?_
  refine xa_cons ?_
  refine xe_int ?_
  refine xa_nil ?_
  refine ⟨szk 3 rfl (by decide), ?_⟩
  refine xa_cons ?_
  refine xe_tup ?_
  refine xa_cons ?_
  refine xe_int ?_
  refine xa_cons ?_
  refine xe_neg ?_
  refine xe_int ?_
  refine xa_cons ?_
  refine xe_int ?_
  refine xa_nil ?_
  refine ⟨szk 3 rfl (by decide), ?_⟩
  refine xa_cons ?_
  refine xe_tup ?_
  refine xa_cons ?_
  refine xe_int ?_
  refine xa_cons ?_
  refine xe_int ?_
  refine xa_cons ?_
  refine xe_int ?_
  refine xa_nil ?_
  refine ⟨szk 3 rfl (by decide), ?_⟩
  refine xa_cons ?_
  refine xe_tup ?_
  refine xa_cons ?_
  refine xe_int ?_
  refine xa_cons ?_
  refine xe_int ?_
  refine xa_cons ?_
  refine xe_neg ?_
  refine xe_int ?_
  refine xa_nil ?_
  refine ⟨szk 3 rfl (by decide), ?_⟩
  refine xa_cons ?_
  refine xe_tup ?_
  refine xa_cons ?_
  refine xe_int ?_
  refine xa_cons ?_
  refine xe_int ?_
  refine xa_cons ?_
  refine xe_int ?_
  refine xa_nil ?_
  refine ⟨szk 3 rfl (by decide), ?_⟩
  refine xa_cons ?_
  refine xe_tup ?_
  refine xa_cons ?_
  refine xe_neg ?_
  refine xe_int ?_
  refine xa_cons ?_
  refine xe_int ?_
  refine xa_cons ?_
  refine xe_int ?_
  refine xa_nil ?_
  refine ⟨szk 3 rfl (by decide), ?_⟩
  refine xa_nil ?_
  refine ⟨szk 6 rfl (by decide), ?_⟩
  refine xa_nil ?_
  refine ⟨rfl, ns, a, _, _, rfl, rfl, (by decide), (by intro z; cases z), fun z hz => ?_⟩
  simp only [List.mem_cons, List.not_mem_nil, or_false] at hz
  obtain ⟨wx, wy, wh, rfl, hbw⟩ : ∃ x y h, z = W3 x y h ∧ walkerOk x y h = false := by
    rcases hz with rfl | rfl | rfl | rfl | rfl | rfl <;> exact ⟨_, _, _, rfl, by decide⟩
  refine xg_name (by first | exact c.nm.pg 3 S_law.nd rfl rfl | exact c.pgc 3 S_law.nd rfl rfl) ?_
  refine xb_cons ?_
  refine xs_asg ?_
  refine xe_call [true] (F__law_pick.mono (Nat.le_trans (by decide) hk4)) c.room c.takes (c.nm.gl rfl) ?_
  refine xa_cons ?_
  refine xe_var (c.nm.pv 0 rfl (by first | exact Or.inl rfl | exact Or.inr (Or.inl rfl) | exact Or.inr (Or.inr rfl))) rfl ?_
  refine xa_cons ?_
  refine xe_var (c.nm.pv 1 rfl (by first | exact Or.inl rfl | exact Or.inr (Or.inl rfl) | exact Or.inr (Or.inr rfl))) rfl ?_
  refine xa_cons ?_
  refine xe_lst ?_
  refine xa_cons ?_
  refine xe_lst ?_
  refine xa_cons ?_
  refine xe_tup ?_
  refine xa_cons ?_
  refine xe_int ?_
  refine xa_cons ?_
  refine xe_int ?_
  refine xa_cons ?_
  refine xe_int ?_
  refine xa_nil ?_
  refine ⟨szk 3 rfl (by decide), ?_⟩
  refine xa_nil ?_
  refine ⟨szk 1 rfl (by decide), ?_⟩
  refine xa_cons ?_
  refine xe_lst ?_
  refine xa_cons ?_
  refine xe_tup ?_
  refine xa_cons ?_
  refine xe_int ?_
  refine xa_cons ?_
  refine xe_int ?_
  refine xa_cons ?_
  refine xe_int ?_
  refine xa_nil ?_
  refine ⟨szk 3 rfl (by decide), ?_⟩
  refine xa_nil ?_
  refine ⟨szk 1 rfl (by decide), ?_⟩
  refine xa_cons ?_
  refine xe_lst ?_
  refine xa_cons ?_
  refine xe_tup ?_
  refine xa_cons ?_
  refine xe_int ?_
  refine xa_cons ?_
  refine xe_int ?_
  refine xa_cons ?_
  refine xe_int ?_
  refine xa_nil ?_
  refine ⟨szk 3 rfl (by decide), ?_⟩
  refine xa_cons ?_
  refine xe_tup ?_
  refine xa_cons ?_
  refine xe_int ?_
  refine xa_cons ?_
  refine xe_int ?_
  refine xa_cons ?_
  refine xe_int ?_
  refine xa_nil ?_
  refine ⟨szk 3 rfl (by decide), ?_⟩
  refine xa_nil ?_
  refine ⟨szk 2 rfl (by decide), ?_⟩
  refine xa_cons ?_
  refine xe_lst ?_
  refine xa_cons ?_
  refine xe_tup ?_
  refine xa_cons ?_
  refine xe_int ?_
  refine xa_cons ?_
  refine xe_int ?_
  refine xa_cons ?_
  refine xe_int ?_
  refine xa_nil ?_
  refine ⟨szk 3 rfl (by decide), ?_⟩
  refine xa_cons ?_
  refine xe_tup ?_
  refine xa_cons ?_
  refine xe_int ?_
  refine xa_cons ?_
  refine xe_int ?_
  refine xa_cons ?_
  refine xe_int ?_
  refine xa_nil ?_
  refine ⟨szk 3 rfl (by decide), ?_⟩
  refine xa_nil ?_
  refine ⟨szk 2 rfl (by decide), ?_⟩
  refine xa_nil ?_
  refine ⟨szk 4 rfl (by decide), ?_⟩
  refine xa_nil ?_
  refine ⟨rfl, ns, a, _, _, rfl, rfl, (by decide), (by intro z; cases z), fun z hz => ?_⟩
  simp only [List.mem_cons, List.not_mem_nil, or_false] at hz
  obtain ⟨bf1, rfl, hbf1⟩ : ∃ fl, z = FL fl ∧ badF fl := by
    rcases hz with rfl | rfl | rfl | rfl
    · exact ⟨[(0, 0, 0)], rfl, badF_s (by decide) (by decide) (by decide)⟩
    · exact ⟨[(0, 0, 2)], rfl, badF_s (by decide) (by decide) (by decide)⟩
    · exact ⟨[(1, 0, 1), (0, 0, 1)], rfl, badF_s (by decide) (by decide) (by decide)⟩
    · exact ⟨[(0, 0, 1), (0, 0, 1)], rfl, badF_s (by decide) (by decide) (by decide)⟩
  refine xg_name (by first | exact c.nm.pg 4 S_law.nd rfl rfl | exact c.pgc 4 S_law.nd rfl rfl) ?_
  refine xb_cons ?_
  refine c.setLc 5 S_law.nd rfl rfl rfl ?_ (by decide +kernel)
  refine lc_R1 (own := [("_law_k", 12)]) (fun i acc L' => [(a, MO.lst ([] ++ [D.int 0] ++ [D.int 0] ++ [D.int 0]))] = L' ∧ acc = (List.range i).map fun (k : Nat) => mkD ((k : Int) / 20, (k : Int) % 20, 1)) c.calm c.room c.nm S_law.nd (blkOk_by (by decide +kernel)) (tg_one (j := 12) c.nm S_law.nd rfl (by first | exact Or.inl rfl | exact Or.inr rfl) (by decide)) (c.nm.gl rfl) T.b_range ?_
  refine xa_cons ?_
  refine xe_int ?_
  refine xa_nil ?_
  refine ⟨by omega, by omega, ⟨rfl, rfl⟩, fun i acc L1 hx hJ => ?_, fun acc L1 hJ => ?_⟩
  · obtain ⟨rfl, rfl⟩ := hJ
    refine ⟨⟨_, rfl⟩, ?_⟩
    rintro _ rfl
    intro Xb1 b1
    refine xe_tup ?_
    refine xa_cons ?_
    refine xe_bin o_fdiv ?_
    refine xe_var (b1.nm.pv 12 rfl (by first | exact Or.inl rfl | exact Or.inr (Or.inl rfl) | exact Or.inr (Or.inr rfl))) rfl ?_
    refine xe_int ?_
    refine ⟨⟨by decide, by decide⟩, ?_⟩
    refine xa_cons ?_
    refine xe_bin o_mod ?_
    refine xe_var (b1.nm.pv 12 rfl (by first | exact Or.inl rfl | exact Or.inr (Or.inl rfl) | exact Or.inr (Or.inr rfl))) rfl ?_
    refine xe_int ?_
    refine ⟨(by show (0 : Int) < _; decide), ?_⟩
    refine xa_cons ?_
    refine xe_int ?_
    refine xa_nil ?_
    refine ⟨szk 3 rfl (by decide), ?_⟩
    exact ⟨by rw [List.length_map, List.length_range]; exact Nat.lt_of_lt_of_le (show i < 201 by omega) (by decide), rfl, by rw [List.range_succ, List.map_append]; rfl⟩
  · obtain ⟨rfl, rfl⟩ := hJ
    have elong : D.lst ((List.range (Int.toNat 201)).map fun (k : Nat) => mkD ((k : Int) / 20, (k : Int) % 20, 1)) = FL longL := longL_eq
    rw [elong]
    refine xb_cons ?_
    refine xs_asg ?_
    refine xe_call [true] (F__law_pick.mono (Nat.le_trans (by decide) hk4)) c.room c.takes (c.nm.gl rfl) ?_
    refine xa_cons ?_
    refine xe_var (c.nm.pv 0 rfl (by first | exact Or.inl rfl | exact Or.inr (Or.inl rfl) | exact Or.inr (Or.inr rfl))) rfl ?_
    refine xa_cons ?_
    refine xe_var (c.nm.pv 1 rfl (by first | exact Or.inl rfl | exact Or.inr (Or.inl rfl) | exact Or.inr (Or.inr rfl))) rfl ?_
    refine xa_cons ?_
    refine xe_lst ?_
    refine xa_cons ?_
    refine xe_var (c.nm.pv 4 rfl (by first | exact Or.inl rfl | exact Or.inr (Or.inl rfl) | exact Or.inr (Or.inr rfl))) rfl ?_
    refine xa_cons ?_
    refine xe_lst ?_
    refine xa_cons ?_
    refine xe_tup ?_
    refine xa_cons ?_
    refine xe_int ?_
    refine xa_cons ?_
    refine xe_int ?_
    refine xa_cons ?_
    refine xe_int ?_
    refine xa_nil ?_
    refine ⟨szk 3 rfl (by decide), ?_⟩
    refine xa_nil ?_
    refine ⟨szk 1 rfl (by decide), ?_⟩
    refine xa_cons ?_
    refine xe_lst ?_
    refine xa_cons ?_
    refine xe_tup ?_
    refine xa_cons ?_
    refine xe_int ?_
    refine xa_cons ?_
    refine xe_neg ?_
    refine xe_int ?_
    refine xa_cons ?_
    refine xe_int ?_
    refine xa_nil ?_
    refine ⟨szk 3 rfl (by decide), ?_⟩
    refine xa_nil ?_
    refine ⟨szk 1 rfl (by decide), ?_⟩
    refine xa_cons ?_
    refine xe_var (c.nm.pv 5 rfl (by first | exact Or.inl rfl | exact Or.inr (Or.inl rfl) | exact Or.inr (Or.inr rfl))) rfl ?_
    refine xa_nil ?_
    refine ⟨szk 4 rfl (by decide), ?_⟩
    refine xa_nil ?_
    refine ⟨rfl, ns, a, _, _, rfl, rfl, (by decide), (by intro z; cases z), fun z hz => ?_⟩
    simp only [List.mem_cons, List.not_mem_nil, or_false] at hz
    obtain ⟨bf, rfl, hbf⟩ : ∃ fl, z = FL fl ∧ badF fl := by
      rcases hz with rfl | rfl | rfl | rfl
      · exact ⟨bf1, rfl, hbf1⟩
      · exact ⟨[(101, 0, 1)], rfl, badF_m (by decide) (fun n => by simp [markOk])⟩
      · exact ⟨[(0, -101, 1)], rfl, badF_m (by decide) (fun n => by simp [markOk])⟩
      · exact ⟨longL, rfl, badF_long⟩
    refine xg_name (by first | exact c.nm.pg 4 S_law.nd rfl rfl | exact c.pgc 4 S_law.nd rfl rfl) ?_
    refine xb_cons ?_
    refine xs_asg ?_
    refine xe_call [true] (F__law_pick.mono (Nat.le_trans (by decide) hk4)) c.room c.takes (c.nm.gl rfl) ?_
    refine xa_cons ?_
    refine xe_var (c.nm.pv 0 rfl (by first | exact Or.inl rfl | exact Or.inr (Or.inl rfl) | exact Or.inr (Or.inr rfl))) rfl ?_
    refine xa_cons ?_
    refine xe_var (c.nm.pv 1 rfl (by first | exact Or.inl rfl | exact Or.inr (Or.inl rfl) | exact Or.inr (Or.inr rfl))) rfl ?_
    refine xa_cons ?_
    refine xe_lst ?_
    refine xa_cons ?_
    refine xe_neg ?_
    refine xe_int ?_
    refine xa_cons ?_
    refine xe_int ?_
    refine xa_nil ?_
    refine ⟨szk 2 rfl (by decide), ?_⟩
    refine xa_nil ?_
    refine ⟨rfl, ns, a, _, _, rfl, rfl, (by decide), (by intro z; cases z), fun z hz => ?_⟩
    simp only [List.mem_cons, List.not_mem_nil, or_false] at hz
    obtain ⟨bm, rfl, hbm⟩ : ∃ n : Int, z = .int n ∧ (n < 0 ∨ 20000 < n) := by
      rcases hz with rfl | rfl <;> exact ⟨_, rfl, by decide⟩
    refine xg_name (by first | exact c.nm.pg 6 S_law.nd rfl rfl | exact c.pgc 6 S_law.nd rfl rfl) ?_
    refine xb_cons ?_
    refine xs_asg ?_
    refine xe_call [true] (F__law_pick.mono (Nat.le_trans (by decide) hk4)) c.room c.takes (c.nm.gl rfl) ?_
    refine xa_cons ?_
    refine xe_var (c.nm.pv 0 rfl (by first | exact Or.inl rfl | exact Or.inr (Or.inl rfl) | exact Or.inr (Or.inr rfl))) rfl ?_
    refine xa_cons ?_
    refine xe_var (c.nm.pv 1 rfl (by first | exact Or.inl rfl | exact Or.inr (Or.inl rfl) | exact Or.inr (Or.inr rfl))) rfl ?_
    refine xa_cons ?_
    refine xe_lst ?_
    refine xa_cons ?_
    refine xe_str ?_
    refine xa_cons ?_
    refine xe_str ?_
    refine xa_cons ?_
    refine xe_str ?_
    refine xa_cons ?_
    refine xe_str ?_
    refine xa_nil ?_
    refine ⟨szk 4 rfl (by decide), ?_⟩
    refine xa_nil ?_
    refine ⟨rfl, ns, a, _, _, rfl, rfl, (by decide), (by intro z; cases z), fun z hz => ?_⟩
    simp only [List.mem_cons, List.not_mem_nil, or_false] at hz
    obtain ⟨gr, rfl, hgr⟩ : ∃ r : Str, z = .str r ∧ (ruleOk r = true ∧ r.length = 2) := by
      rcases hz with rfl | rfl | rfl | rfl <;> exact ⟨_, rfl, by decide +kernel, by decide +kernel⟩
    refine xg_name (by first | exact c.nm.pg 7 S_law.nd rfl rfl | exact c.pgc 7 S_law.nd rfl rfl) ?_
    refine xb_cons ?_
    refine xs_asg ?_
    refine xe_lstC ?_
    refine xa_cons ?_
    refine xe_tup ?_
    refine xa_cons ?_
    refine xe_lst ?_
    refine xa_cons ?_
    refine xe_var (c.nm.pv 2 rfl (by first | exact Or.inl rfl | exact Or.inr (Or.inl rfl) | exact Or.inr (Or.inr rfl))) rfl ?_
    refine xa_cons ?_
    refine xe_var (c.nm.pv 3 rfl (by first | exact Or.inl rfl | exact Or.inr (Or.inl rfl) | exact Or.inr (Or.inr rfl))) rfl ?_
    refine xa_cons ?_
    refine xe_var (c.nm.pv 4 rfl (by first | exact Or.inl rfl | exact Or.inr (Or.inl rfl) | exact Or.inr (Or.inr rfl))) rfl ?_
    refine xa_cons ?_
    refine xe_var (c.nm.pv 6 rfl (by first | exact Or.inl rfl | exact Or.inr (Or.inl rfl) | exact Or.inr (Or.inr rfl))) rfl ?_
    refine xa_nil ?_
    refine ⟨szk 4 rfl (by decide), ?_⟩
    refine xa_cons ?_
    refine xe_str ?_
    refine xa_nil ?_
    refine ⟨szk 2 rfl (by decide), ?_⟩
    refine xa_cons ?_
    refine xe_tup ?_
    refine xa_cons ?_
    refine xe_lst ?_
    refine xa_cons ?_
    refine xe_var (c.nm.pv 7 rfl (by first | exact Or.inl rfl | exact Or.inr (Or.inl rfl) | exact Or.inr (Or.inr rfl))) rfl ?_
    refine xa_cons ?_
    refine xe_var (c.nm.pv 3 rfl (by first | exact Or.inl rfl | exact Or.inr (Or.inl rfl) | exact Or.inr (Or.inr rfl))) rfl ?_
    refine xa_cons ?_
    refine xe_var (c.nm.pv 4 rfl (by first | exact Or.inl rfl | exact Or.inr (Or.inl rfl) | exact Or.inr (Or.inr rfl))) rfl ?_
    refine xa_cons ?_
    refine xe_var (c.nm.pv 6 rfl (by first | exact Or.inl rfl | exact Or.inr (Or.inl rfl) | exact Or.inr (Or.inr rfl))) rfl ?_
    refine xa_nil ?_
    refine ⟨szk 4 rfl (by decide), ?_⟩
    refine xa_cons ?_
    refine xe_str ?_
    refine xa_nil ?_
    refine ⟨szk 2 rfl (by decide), ?_⟩
    refine xa_nil ?_
    refine ⟨szk 2 rfl (by decide), fun b => ?_⟩
    refine xg_name (by first | exact c.nm.pg 8 S_law.nd rfl rfl | exact c.pgc 8 S_law.nd rfl rfl) ?_
    refine xb_cons ?_
    refine xs_expr ?_
    refine xe_bm PySem.F.plainAttrs_list PySem.F.slot_list_append PySem.F.type_list_append m_append ?_
    refine xe_var (c.nm.pv 8 rfl (by first | exact Or.inl rfl | exact Or.inr (Or.inl rfl) | exact Or.inr (Or.inr rfl))) rfl ?_
    refine ⟨⟨0, _, rfl, rfl⟩, ?_⟩
    refine xa_cons ?_
    refine xe_tup ?_
    refine xa_cons ?_
    refine xe_lst ?_
    refine xa_cons ?_
    refine xe_var (c.nm.pv 7 rfl (by first | exact Or.inl rfl | exact Or.inr (Or.inl rfl) | exact Or.inr (Or.inr rfl))) rfl ?_
    refine xa_cons ?_
    refine xe_tup ?_
    refine xa_cons ?_
    refine xe_int ?_
    refine xa_cons ?_
    refine xe_int ?_
    refine xa_cons ?_
    refine xe_call [false, true] (F__law_draw.mono (Nat.le_trans (by decide) hk4)) c.room c.takes (c.nm.gl rfl) ?_
    refine xa_cons ?_
    refine xe_var (c.nm.pv 0 rfl (by first | exact Or.inl rfl | exact Or.inr (Or.inl rfl) | exact Or.inr (Or.inr rfl))) rfl ?_
    refine xa_cons ?_
    refine xe_var (c.nm.pv 1 rfl (by first | exact Or.inl rfl | exact Or.inr (Or.inl rfl) | exact Or.inr (Or.inr rfl))) rfl ?_
    refine xa_cons ?_
    refine xe_int ?_
    refine xa_nil ?_
    refine ⟨rfl, ns, a, _, _, rfl, rfl, (by decide), (by decide), fun hd hd0 hd1 => ?_⟩
    refine xa_nil ?_
    refine ⟨szk 3 rfl (by decide), ?_⟩
    refine xa_cons ?_
    refine xe_var (c.nm.pv 4 rfl (by first | exact Or.inl rfl | exact Or.inr (Or.inl rfl) | exact Or.inr (Or.inr rfl))) rfl ?_
    refine xa_cons ?_
    refine xe_var (c.nm.pv 6 rfl (by first | exact Or.inl rfl | exact Or.inr (Or.inl rfl) | exact Or.inr (Or.inr rfl))) rfl ?_
    refine xa_nil ?_
    refine ⟨szk 4 rfl (by decide), ?_⟩
    refine xa_cons ?_
    refine xe_str ?_
    refine xa_nil ?_
    refine ⟨szk 2 rfl (by decide), ?_⟩
    refine xa_nil ?_
    refine ⟨0, _, rfl, (by show (2 : Nat) < _; decide), ?_⟩
    skip
    have hcs : ∀ z ∈ [D.tup [.lst [.str br, W3 wx wy wh, FL bf, .int bm], .str "rule"], .tup [.lst [.str gr, W3 wx wy wh, FL bf, .int bm], .str "walker"], .tup [.lst [.str gr, W3 0 0 hd, FL bf, .int bm], .str "floor"]], ∃ (r : Str) (x y h : Int) (fl : List Mark) (n : Int) (i : Fin 5), z = .tup [.lst [.str r, W3 x y h, FL fl, .int n], .str (word i)] ∧ okD r fl ∧ badAll r x y h fl = some i := by
      intro z hz
      simp only [List.mem_cons, List.not_mem_nil, or_false] at hz
      rcases hz with rfl | rfl | rfl
      · exact ⟨br, wx, wy, wh, bf, bm, 0, rfl, ⟨hbr.2, hbf.1, hbf.2.1 _⟩, by simp [badAll, hbr.1]⟩
      · exact ⟨gr, wx, wy, wh, bf, bm, 2, rfl, ⟨by rw [hgr.2]; decide, hbf.1, hbf.2.1 _⟩, by simp [badAll, hgr.1, hbw]⟩
      · exact ⟨gr, 0, 0, hd, bf, bm, 1, rfl, ⟨by rw [hgr.2]; decide, hbf.1, hbf.2.1 _⟩, by
          have h1 : walkerOk 0 0 hd = true := decide_eq_true (by omega)
          have h2 : floorOk gr.length bf = false := by rw [hgr.2]; exact hbf.2.2
          simp [badAll, hgr.1, h1, h2]⟩
    refine xb_freeze 0 8 rfl rfl ?_
    refine xb_cons ?_
    refine xs_forL (fun i ρ' L' => ∃ s1 s2 s3 s4, ρ' = [some (.sq (ns.map D.int)), some (.cell a), some (.str br), some (W3 wx wy wh), some (FL bf), some (FL longL), some (.int bm), some (.str gr), some (.lst [D.tup [.lst [.str br, W3 wx wy wh, FL bf, .int bm], .str "rule"], .tup [.lst [.str gr, W3 wx wy wh, FL bf, .int bm], .str "walker"], .tup [.lst [.str gr, W3 0 0 hd, FL bf, .int bm], .str "floor"]]), s1, s2, s3, s4]) c.own c.calm ?_
    refine xe_var (c.nm.pv 8 rfl (by first | exact Or.inl rfl | exact Or.inr (Or.inl rfl) | exact Or.inr (Or.inr rfl))) rfl ?_
    refine ⟨⟨_, _, _, _, rfl⟩, fun i x ρ1 L1 hx hI => ?_, fun ρ1 L1 hI => ?_⟩
    · obtain ⟨s1, s2, s3, s4, rfl⟩ := hI
      obtain ⟨r, x, y, h, fl, n, i, rfl, hk, hi⟩ := hcs _ (List.mem_of_getElem? hx)
      refine xg_tup c.calm ?_
      refine ⟨rfl, ?_⟩
      refine xgs_cons ?_
      refine xg_name (by first | exact c.nm.pg 9 S_law.nd rfl rfl | exact c.pgc 9 S_law.nd rfl rfl) ?_
      refine xgs_cons ?_
      refine xg_name (by first | exact c.nm.pg 10 S_law.nd rfl rfl | exact c.pgc 10 S_law.nd rfl rfl) ?_
      refine xgs_nil ?_
      refine xb_one ?_
      refine xs_forR1 (fun j ρ' L' => ∃ s3 s4, ρ' = [some (.sq (ns.map D.int)), some (.cell a), some (.str br), some (W3 wx wy wh), some (FL bf), some (FL longL), some (.int bm), some (.str gr), some (.lst [D.tup [.lst [.str br, W3 wx wy wh, FL bf, .int bm], .str "rule"], .tup [.lst [.str gr, W3 wx wy wh, FL bf, .int bm], .str "walker"], .tup [.lst [.str gr, W3 0 0 hd, FL bf, .int bm], .str "floor"]]), some (.lst [.str r, W3 x y h, FL fl, .int n]), some (.str (word i)), s3, s4]) (c.nm.gl rfl) T.b_range c.own c.calm ?_
      refine xa_cons ?_
      refine xe_int ?_
      refine xa_nil ?_
      refine ⟨by omega, by omega, ⟨_, _, rfl⟩, fun j ρ1 L1 hx hI => ?_, fun ρ1 L1 hI => ?_⟩
      · obtain ⟨s3, s4, rfl⟩ := hI
        refine xg_name (by first | exact c.nm.pg 11 S_law.nd rfl rfl | exact c.pgc 11 S_law.nd rfl rfl) ?_
        refine xb_one ?_
        refine xs_if ?_
        refine xt_cmp (o_ne c.hu) (by with_unfolding_all rfl) ?_
        refine xe_call [] (F__law_told.mono (Nat.le_trans (by decide) hk4)) c.room c.takes (c.nm.gl rfl) ?_
        refine xa_cons ?_
        refine xe_var (c.nm.pv 11 rfl (by first | exact Or.inl rfl | exact Or.inr (Or.inl rfl) | exact Or.inr (Or.inr rfl))) rfl ?_
        refine xa_cons ?_
        refine xe_var (c.nm.pv 9 rfl (by first | exact Or.inl rfl | exact Or.inr (Or.inl rfl) | exact Or.inr (Or.inr rfl))) rfl ?_
        refine xa_nil ?_
        refine ⟨rfl, _, r, x, y, h, fl, n, i, rfl, hk, by omega, by omega, Or.inl hi, ?_⟩
        refine xe_tup ?_
        refine xa_cons ?_
        refine xe_str ?_
        refine xa_cons ?_
        refine xe_var (c.nm.pv 10 rfl (by first | exact Or.inl rfl | exact Or.inr (Or.inl rfl) | exact Or.inr (Or.inr rfl))) rfl ?_
        refine xa_nil ?_
        refine ⟨szk 2 rfl (by decide), ?_⟩
        refine ⟨told_ok i, told_ok i, ?_⟩
        rw [eqv_refl]
        try dsimp only [isND, notND, isBl, truD, eqD, neD, i2N]
        refine ite_f (by rfl) ?_
        refine xb_nil ?_
        exact ⟨_, _, rfl⟩
      · obtain ⟨s3, s4, rfl⟩ := hI
        exact ⟨_, _, _, _, rfl⟩
    · obtain ⟨s1, s2, s3, s4, rfl⟩ := hI
      refine xb_cons ?_
      refine xs_asg ?_
      refine xe_lst ?_
      refine xa_cons ?_
      refine xe_var (c.nm.pv 7 rfl (by first | exact Or.inl rfl | exact Or.inr (Or.inl rfl) | exact Or.inr (Or.inr rfl))) rfl ?_
      refine xa_cons ?_
      refine xe_tup ?_
      refine xa_cons ?_
      refine xe_int ?_
      refine xa_cons ?_
      refine xe_int ?_
      refine xa_cons ?_
      refine xe_int ?_
      refine xa_nil ?_
      refine ⟨szk 3 rfl (by decide), ?_⟩
      refine xa_cons ?_
      refine xe_lst ?_
      refine xa_cons ?_
      refine xe_tup ?_
      refine xa_cons ?_
      refine xe_int ?_
      refine xa_cons ?_
      refine xe_int ?_
      refine xa_cons ?_
      refine xe_int ?_
      refine xa_nil ?_
      refine ⟨szk 3 rfl (by decide), ?_⟩
      refine xa_nil ?_
      refine ⟨szk 1 rfl (by decide), ?_⟩
      refine xa_cons ?_
      refine xe_var (c.nm.pv 6 rfl (by first | exact Or.inl rfl | exact Or.inr (Or.inl rfl) | exact Or.inr (Or.inr rfl))) rfl ?_
      refine xa_nil ?_
      refine ⟨szk 4 rfl (by decide), ?_⟩
      refine xg_name (by first | exact c.nm.pg 9 S_law.nd rfl rfl | exact c.pgc 9 S_law.nd rfl rfl) ?_
      refine xb_one ?_
      refine xs_ret ?_
      refine xe_cmp (o_eq c.hu) (by with_unfolding_all rfl) ?_
      refine LcE.e ?_
      refine lc_R1 (own := [("_law_kind", 11)]) (fun i acc L' => acc = List.replicate i (D.tup [.str "refused", .str (word 3)])) c.calm c.room c.nm S_law.nd (blkOk_by (by decide +kernel)) (tg_one (j := 11) c.nm S_law.nd rfl (by first | exact Or.inl rfl | exact Or.inr rfl) (by decide)) (c.nm.gl rfl) T.b_range ?_
      refine xa_cons ?_
      refine xe_int ?_
      refine xa_nil ?_
      refine ⟨by omega, by omega, rfl, fun i acc L1 hx hJ => ?_, fun acc L1 hJ => ?_⟩
      · obtain rfl := hJ
        refine ⟨⟨_, rfl⟩, ?_⟩
        rintro _ rfl
        intro Xb2 b2
        refine xe_call [] (b2.fn (F__law_told.mono (Nat.le_trans (by decide) hk4))) b2.room takes0 (b2.nm.gl rfl) ?_
        refine xa_cons ?_
        refine xe_var (b2.nm.pv 11 rfl (by first | exact Or.inl rfl | exact Or.inr (Or.inl rfl) | exact Or.inr (Or.inr rfl))) rfl ?_
        refine xa_cons ?_
        refine xe_var (b2.nm.pv 9 rfl (by first | exact Or.inl rfl | exact Or.inr (Or.inl rfl) | exact Or.inr (Or.inr rfl))) rfl ?_
        refine xa_nil ?_
        refine ⟨rfl, _, gr, 0, 0, 0, [(0, 0, 1)], bm, 3, rfl, okL hgr.2, by omega, by omega, Or.inr ⟨badL hgr.1 hgr.2, by omega, hbm, rfl⟩, ?_⟩
        exact ⟨by rw [List.length_replicate]; exact Nat.lt_of_lt_of_le (show i < 8 by omega) (by decide), List.replicate_succ'.symm⟩
      · obtain rfl := hJ
        refine xe_bin o_mul ?_
        refine xe_lst ?_
        refine xa_cons ?_
        refine xe_tup ?_
        refine xa_cons ?_
        refine xe_str ?_
        refine xa_cons ?_
        refine xe_str ?_
        refine xa_nil ?_
        refine ⟨szk 2 rfl (by decide), ?_⟩
        refine xa_nil ?_
        refine ⟨szk 1 rfl (by decide), ?_⟩
        refine xe_int ?_
        refine ⟨by decide, by decide, by decide, ?_⟩
        refine ⟨by decide +kernel, by decide +kernel, ?_⟩
        exact congrArg D.bl (eqv_refl _)
end
def fs0 : List He.Fa := [.glo "_law_cell", .glo "_law_mix", .glo "_law_draw", .glo "_law_pick", .glo "_law_refusal", .glo "look_rule", .glo "look_walker", .glo "look_floor", .glo "look_all", .glo "look_many", .glo "run", .glo "back", .glo "path", .glo "read_colours", .glo "period", .glo "counts", .glo "box", .glo "times_seen", .glo "mirrored", .glo "plain", .glo "is_even", .glo "written", .glo "turned", .glo "goes_on", .glo "shown", .glo "way_on", .glo "are_alike", .glo "_law_one_b", .glo "_law_one", .glo "_law_told"]
def fs1 : List He.Fa := [.glo "law", .free "len", .free "all", .free "sorted", .free "set", .free "isinstance", .free "range", .free "ValueError", .int "FAR" 100, .int "MOST_MARKS" 200, .int "MOST_STEPS" 20000, .int "MOST_PATH" 2000, .int "MOST_LONG" 120, .int "MOST_START" 12000, .str "SIGNS" "LNRU", .glo "BadRule", .glo "BadFloor", .glo "BadWalker", .glo "BadNumber", .glo "BadText", .glo "MarkError", .exc "BadRule", .exm "BadRule" "MarkError" true, .exc "BadFloor", .exm "BadFloor" "MarkError" true, .exc "BadWalker", .exm "BadWalker" "MarkError" true, .exc "BadNumber", .exm "BadNumber" "MarkError" true, .exc "BadText"]
def fs2 : List He.Fa := [.exm "BadText" "MarkError" true, .keep "MarkError"]
def fs : List He.Fa := fs0 ++ fs1 ++ fs2
def dfn (x : Str) (st : Stmt) : He.DefD := ⟨(x, none), x, x, defArgs st, defBody st, defScope st, [], []⟩
def fn0 : List He.DefD := [dfn "_law_cell" s__law_cell, dfn "_law_mix" s__law_mix, dfn "_law_draw" s__law_draw, dfn "_law_pick" s__law_pick, dfn "_law_refusal" s__law_refusal, dfn "look_rule" s_look_rule, dfn "look_walker" s_look_walker, dfn "look_floor" s_look_floor, dfn "look_all" s_look_all, dfn "look_many" s_look_many, dfn "run" s_run, dfn "back" s_back, dfn "path" s_path, dfn "read_colours" s_read_colours, dfn "period" s_period, dfn "counts" s_counts, dfn "box" s_box, dfn "times_seen" s_times_seen, dfn "mirrored" s_mirrored, dfn "plain" s_plain]
def fn1 : List He.DefD := [dfn "is_even" s_is_even, dfn "written" s_written, dfn "turned" s_turned, dfn "goes_on" s_goes_on, dfn "shown" s_shown, dfn "way_on" s_way_on, dfn "are_alike" s_are_alike, dfn "_law_one_b" s__law_one_b, dfn "_law_one" s__law_one, dfn "_law_told" s__law_told, dfn "law" s_law]
def fns : List He.DefD := fn0 ++ fn1
def exOk (K : PySem.W.Frag) (D : Addr) : Bool := decide (PySem.W.findIn K (.ref D) "__getattribute__" = some (some (.builtin "BaseException.__getattribute__"))) && (decide (PySem.W.findIn K (.ref D) "__getattr__" = some none) && (decide (PySem.W.subIn K (.ref D) (.type "BaseException") = some true) &&
  (PySem.W.hasDictIn K D && (decide (PySem.W.findIn K (.ref D) "__class__" = some (some (.builtin "object.__class__"))) && (decide (PySem.W.specialIn K (.builtin "object.__class__") "__get__" = some (some (.builtin "getset_descriptor.__get__"))) && (decide (PySem.W.takesIn K (.builtin "object.__class__") = some true) && decide (PySem.W.mroIn K D (.type "object") = some true)))))))
theorem exOk_of {K : PySem.W.Frag} {D : Addr} (h : exOk K D = true) : ExcC K D := by
  unfold exOk at h
  simp only [Bool.and_eq_true, decide_eq_true_eq] at h
  obtain ⟨h1, h2, h3, h4, h5, h6, h7, h8⟩ := h
  exact ⟨h1, h2, h3, h4, h5, h6, h7, h8⟩
def exB (K : PySem.W.Frag) : Bool := (List.finRange 5).all fun i => exOk K (cls K i) && (((List.finRange 5).all fun j => decide (PySem.W.kitOne K (.ref (cls K i)) (.ref (cls K j)) = some (decide (i = j)))) && decide (PySem.W.kitOne K (.ref (cls K i)) (.type "ValueError") = some true))
theorem exB_of {K : PySem.W.Frag} (h : exB K = true) (i : Fin 5) : exOk K (cls K i) = true ∧ (∀ j, PySem.W.kitOne K (.ref (cls K i)) (.ref (cls K j)) = some (decide (i = j))) ∧ PySem.W.kitOne K (.ref (cls K i)) (.type "ValueError") = some true := by
  have h1 := List.all_eq_true.mp h i (List.mem_finRange i)
  simp only [Bool.and_eq_true, decide_eq_true_eq, List.all_eq_true] at h1
  exact ⟨h1.1, fun j => h1.2.1 j (List.mem_finRange j), h1.2.2⟩
abbrev R : PySem.W.OpenRow := PySem.W.OpenLaw.row PySem.Challenge.rw_markwalkers_k91_whole_two_at_once
abbrev hk : PySem.W.Hook := He.hookX 4 fs fns [] [] exB
def ob (s : PySem.W.SharedT) : He.AlX := He.obsX 4 fs fns [] [] exB (HandSHeadRun.getT s)
theorem ob_eq (s : PySem.W.SharedT) : ob s = hk.obs s.abs := He.obsX_eq (HandSHeadRun.getT_eq s)
def lo0 : List PySem.Str := [("MarkError" : PySem.Str), ("BadRule" : PySem.Str), ("BadFloor" : PySem.Str), ("BadWalker" : PySem.Str), ("BadNumber" : PySem.Str), ("BadText" : PySem.Str), ("SIGNS" : PySem.Str), ("TURNS" : PySem.Str), ("AHEAD" : PySem.Str), ("FAR" : PySem.Str), ("MOST_MARKS" : PySem.Str), ("look_rule" : PySem.Str), ("look_walker" : PySem.Str), ("look_floor" : PySem.Str), ("look_all" : PySem.Str), ("marks" : PySem.Str), ("told" : PySem.Str), ("MOST_STEPS" : PySem.Str), ("MOST_PATH" : PySem.Str), ("go" : PySem.Str)]
def lo1 : List PySem.Str := [("go_back" : PySem.Str), ("look_many" : PySem.Str), ("run" : PySem.Str), ("back" : PySem.Str), ("path" : PySem.Str), ("read_colours" : PySem.Str), ("times_seen" : PySem.Str), ("box" : PySem.Str), ("counts" : PySem.Str), ("quarter" : PySem.Str), ("turn_all" : PySem.Str), ("turned" : PySem.Str), ("mirror_all" : PySem.Str), ("mirrored" : PySem.Str), ("plain" : PySem.Str), ("plain_of" : PySem.Str), ("are_alike" : PySem.Str), ("is_even" : PySem.Str), ("MOST_LONG" : PySem.Str), ("MOST_START" : PySem.Str)]
def lo2 : List PySem.Str := [("period" : PySem.Str), ("one_round" : PySem.Str), ("is_on" : PySem.Str), ("along" : PySem.Str), ("overlaps" : PySem.Str), ("goes_on" : PySem.Str), ("shown" : PySem.Str), ("way_on" : PySem.Str), ("HEADINGS" : PySem.Str), ("written" : PySem.Str), ("_law_cell" : PySem.Str), ("_law_mix" : PySem.Str), ("_law_draw" : PySem.Str), ("_law_pick" : PySem.Str), ("_law_refusal" : PySem.Str), ("_law_one_b" : PySem.Str), ("_law_one" : PySem.Str), ("_law_told" : PySem.Str)]
def lo : List PySem.Str := lo0 ++ lo1 ++ lo2
open PySem.W in
theorem run (w : World) : HandSHeadRun.RunEq R (PySem.W.view R.prog [65]) hk ob 4000 lo w :=
  byRow2 "special-get-raises" (P := fun w => HandSHeadRun.RunEq R (PySem.W.view R.prog [65]) hk ob 4000 lo w) (fun w => by intro os; kernel_rfl) (fun w => by intro os; kernel_rfl) w
section
variable {K : PySem.W.Frag} {h : Heap} {mg : Str → Option Value}
theorem df_of {x : Str} {st : Stmt} {ps : List Str} (X : K.In h) (G : h.Ns mainGlobals mg) (c : He.SaysD fs fns K) (i j : Nat) (h1 : fs[i]? = some (.glo x)) (h2 : fns[j]? = some (dfn x st))
    (b : ∀ fd, FunD K x x (defArgs st) (defBody st) (defScope st) [] [] (He.ga K x) fd → Binds K fd ps []) : Df K mg x st ps := by
  obtain ⟨fd, F⟩ := c.def_ j h2
  exact ⟨He.ga K x, fd, He.glo_ok X G (c.fact i h1), fun_ofD F, b fd F⟩
theorem ek_of {x : Str} {D : Addr} (hD : D = He.ga K x) (X : K.In h) (G : h.Ns mainGlobals mg) (c : He.SaysD fs fns K) (i j : Nat) (h1 : fs[i]? = some (.glo x)) (h2 : fs[j]? = some (.exc x)) : ExcK K mg x D := by
  subst hD
  obtain ⟨a, b, d, e⟩ := He.exc_ok (c.fact j h2)
  exact ⟨He.glo_ok X G (c.fact i h1), a, b, d, e⟩
theorem txt (X : K.In h) (G : h.Ns mainGlobals mg) (c : He.SaysD fs fns K) (e : exB K = true) : Txt K mg where
  d__law_cell := df_of X G c 0 0 rfl rfl fun fd F => FunD.bindsN F fun _ _ _ _ _ _ us hl => match us, hl with | [_, _], _ => rfl
  d__law_mix := df_of X G c 1 1 rfl rfl fun fd F => FunD.bindsN F fun _ _ _ _ _ _ us hl => match us, hl with | [_, _], _ => rfl
  d__law_draw := df_of X G c 2 2 rfl rfl fun fd F => FunD.bindsN F fun _ _ _ _ _ _ us hl => match us, hl with | [_, _, _], _ => rfl
  d__law_pick := df_of X G c 3 3 rfl rfl fun fd F => FunD.bindsN F fun _ _ _ _ _ _ us hl => match us, hl with | [_, _, _], _ => rfl
  d__law_refusal := df_of X G c 4 4 rfl rfl fun fd F => FunD.bindsN F fun _ _ _ _ _ _ us hl => match us, hl with | [_], _ => rfl
  d_look_rule := df_of X G c 5 5 rfl rfl fun fd F => FunD.bindsN F fun _ _ _ _ _ _ us hl => match us, hl with | [_], _ => rfl
  d_look_walker := df_of X G c 6 6 rfl rfl fun fd F => FunD.bindsN F fun _ _ _ _ _ _ us hl => match us, hl with | [_], _ => rfl
  d_look_floor := df_of X G c 7 7 rfl rfl fun fd F => FunD.bindsN F fun _ _ _ _ _ _ us hl => match us, hl with | [_, _], _ => rfl
  d_look_all := df_of X G c 8 8 rfl rfl fun fd F => FunD.bindsN F fun _ _ _ _ _ _ us hl => match us, hl with | [_, _, _], _ => rfl
  d_look_many := df_of X G c 9 9 rfl rfl fun fd F => FunD.bindsN F fun _ _ _ _ _ _ us hl => match us, hl with | [_, _], _ => rfl
  d_run := df_of X G c 10 10 rfl rfl fun fd F => FunD.bindsN F fun _ _ _ _ _ _ us hl => match us, hl with | [_, _, _, _], _ => rfl
  d_back := df_of X G c 11 11 rfl rfl fun fd F => FunD.bindsN F fun _ _ _ _ _ _ us hl => match us, hl with | [_, _, _, _], _ => rfl
  d_path := df_of X G c 12 12 rfl rfl fun fd F => FunD.bindsN F fun _ _ _ _ _ _ us hl => match us, hl with | [_, _, _, _], _ => rfl
  d_read_colours := df_of X G c 13 13 rfl rfl fun fd F => FunD.bindsN F fun _ _ _ _ _ _ us hl => match us, hl with | [_, _, _, _], _ => rfl
  d_period := df_of X G c 14 14 rfl rfl fun fd F => FunD.bindsN F fun _ _ _ _ _ _ us hl => match us, hl with | [_, _, _, _], _ => rfl
  d_counts := df_of X G c 15 15 rfl rfl fun fd F => FunD.bindsN F fun _ _ _ _ _ _ us hl => match us, hl with | [_, _, _, _], _ => rfl
  d_box := df_of X G c 16 16 rfl rfl fun fd F => FunD.bindsN F fun _ _ _ _ _ _ us hl => match us, hl with | [_, _, _, _], _ => rfl
  d_times_seen := df_of X G c 17 17 rfl rfl fun fd F => FunD.bindsN F fun _ _ _ _ _ _ us hl => match us, hl with | [_, _, _, _], _ => rfl
  d_mirrored := df_of X G c 18 18 rfl rfl fun fd F => FunD.bindsN F fun _ _ _ _ _ _ us hl => match us, hl with | [_, _, _], _ => rfl
  d_plain := df_of X G c 19 19 rfl rfl fun fd F => FunD.bindsN F fun _ _ _ _ _ _ us hl => match us, hl with | [_, _, _], _ => rfl
  d_is_even := df_of X G c 20 20 rfl rfl fun fd F => FunD.bindsN F fun _ _ _ _ _ _ us hl => match us, hl with | [_, _, _], _ => rfl
  d_written := df_of X G c 21 21 rfl rfl fun fd F => FunD.bindsN F fun _ _ _ _ _ _ us hl => match us, hl with | [_, _, _], _ => rfl
  d_turned := df_of X G c 22 22 rfl rfl fun fd F => FunD.bindsN F fun _ _ _ _ _ _ us hl => match us, hl with | [_, _, _, _], _ => rfl
  d_goes_on := df_of X G c 23 23 rfl rfl fun fd F => FunD.bindsN F fun _ _ _ _ _ _ us hl => match us, hl with | [_, _, _, _], _ => rfl
  d_shown := df_of X G c 24 24 rfl rfl fun fd F => FunD.bindsN F fun _ _ _ _ _ _ us hl => match us, hl with | [_, _, _, _, _], _ => rfl
  d_way_on := df_of X G c 25 25 rfl rfl fun fd F => FunD.bindsN F fun _ _ _ _ _ _ us hl => match us, hl with | [_, _, _, _, _], _ => rfl
  d_are_alike := df_of X G c 26 26 rfl rfl fun fd F => FunD.bindsN F fun _ _ _ _ _ _ us hl => match us, hl with | [_, _, _, _, _], _ => rfl
  d__law_one_b := df_of X G c 27 27 rfl rfl fun fd F => FunD.bindsN F fun _ _ _ _ _ _ us hl => match us, hl with | [_, _], _ => rfl
  d__law_one := df_of X G c 28 28 rfl rfl fun fd F => FunD.bindsN F fun _ _ _ _ _ _ us hl => match us, hl with | [_, _], _ => rfl
  d__law_told := df_of X G c 29 29 rfl rfl fun fd F => FunD.bindsN F fun _ _ _ _ _ _ us hl => match us, hl with | [_, _], _ => rfl
  d_law := df_of X G c 30 30 rfl rfl fun fd F => FunD.bindsN F fun _ _ _ _ _ _ us hl => match us, hl with | [_], _ => rfl
  b_len := He.free_ok X G (c.fact 31 (f := .free "len") rfl)
  b_all := He.free_ok X G (c.fact 32 (f := .free "all") rfl)
  b_sorted := He.free_ok X G (c.fact 33 (f := .free "sorted") rfl)
  b_set := He.free_ok X G (c.fact 34 (f := .free "set") rfl)
  b_isinstance := He.free_ok X G (c.fact 35 (f := .free "isinstance") rfl)
  b_range := He.free_ok X G (c.fact 36 (f := .free "range") rfl)
  b_ValueError := He.free_ok X G (c.fact 37 (f := .free "ValueError") rfl)
  c_FAR := He.int_ok X G (c.fact 38 (f := .int "FAR" 100) rfl)
  c_MOST_MARKS := He.int_ok X G (c.fact 39 (f := .int "MOST_MARKS" 200) rfl)
  c_MOST_STEPS := He.int_ok X G (c.fact 40 (f := .int "MOST_STEPS" 20000) rfl)
  c_MOST_PATH := He.int_ok X G (c.fact 41 (f := .int "MOST_PATH" 2000) rfl)
  c_MOST_LONG := He.int_ok X G (c.fact 42 (f := .int "MOST_LONG" 120) rfl)
  c_MOST_START := He.int_ok X G (c.fact 43 (f := .int "MOST_START" 12000) rfl)
  c_SIGNS := He.str_ok X G (c.fact 44 (f := .str "SIGNS" "LNRU") rfl)
  e_BadRule := ek_of rfl X G c 45 51 rfl rfl
  e_BadFloor := ek_of rfl X G c 46 53 rfl rfl
  e_BadWalker := ek_of rfl X G c 47 55 rfl rfl
  e_BadNumber := ek_of rfl X G c 48 57 rfl rfl
  e_BadText := ek_of rfl X G c 49 59 rfl rfl
  e_MarkError := He.glo_ok X G (c.fact 50 (f := .glo "MarkError") rfl)
  q := fun i => exOk_of (exB_of e i).1
  k := fun i j => (exB_of e i).2.1 j
  kv := fun i => (exB_of e i).2.2
  kp := He.keep_ok (c.fact 61 (f := .keep "MarkError") rfl)
  x := fun i => match i with
    | 0 => He.exm_ok (c.fact 52 (f := .exm "BadRule" "MarkError" true) rfl)
    | 1 => He.exm_ok (c.fact 54 (f := .exm "BadFloor" "MarkError" true) rfl)
    | 2 => He.exm_ok (c.fact 56 (f := .exm "BadWalker" "MarkError" true) rfl)
    | 3 => He.exm_ok (c.fact 58 (f := .exm "BadNumber" "MarkError" true) rfl)
    | 4 => He.exm_ok (c.fact 60 (f := .exm "BadText" "MarkError" true) rfl)

end
end MWL
open PySem PySem.W PySem.Calls PyProof.Rows
theorem PySem.Challenge.cw_markwalkers_k91_whole_two_at_once_holds : PySem.Challenge.rw_markwalkers_k91_whole_two_at_once.Holds := by
  w_on; o_law
  refine HandSHeadRun.head_any (r := OpenLaw.row PySem.Challenge.rw_markwalkers_k91_whole_two_at_once) (q := view (OpenLaw.row PySem.Challenge.rw_markwalkers_k91_whole_two_at_once).prog [65]) (H := MWL.hk) (ob := MWL.ob) (M := 4000) (loose := MWL.lo) (d := HandSHeadRun.topDef (OpenLaw.row PySem.Challenge.rw_markwalkers_k91_whole_two_at_once).prog 65) (kwd := []) MWL.ob_eq
    (by kernel_rfl) (fun s => by kernel_rfl) MWL.run (by kernel_rfl) (by kernel_rfl) (by kernel_rfl) (by rfl) (by first | assumption | decide +kernel) (by decide +kernel) ⟨rfl, rfl, rfl, rfl, rfl, by decide +kernel⟩ ?hw ?hc
  case hw => w_witness2
  case hc =>
    refine MW.end_ok (l := PySem.Challenge.rw_markwalkers_k91_whole_two_at_once) (n := 63) (k := 6) (x := "_law_script") (st := MWL.s_law) (N := MWL.N_law) (FL := fun _ _ _ _ _ _ => True) rfl (by decide) (by kernel_rfl) ⟨rfl, by decide, by decide⟩ MWL.S_law ?F
    intro w mg fa h Y G hmg0
    obtain ⟨K, KX, c⟩ := Y
    have hmg : mg ("law" : PySem.Str) = some (.ref fa) := by
      have e : (HandSHeadRun.topDef (OpenLaw.row PySem.Challenge.rw_markwalkers_k91_whole_two_at_once).prog 65).name = ("law" : PySem.Str) := by kernel_rfl
      rw [← e]
      exact hmg0
    have T : MWL.Txt K mg := MWL.txt KX G c.t.d c.more
    obtain ⟨fd, F⟩ := c.t.d.def_ 30 (d := MWL.dfn "law" MWL.s_law) rfl
    have e := hmg.symm.trans (He.glo_ok KX G (c.t.d.fact 30 (f := .glo "law") rfl))
    cases e
    have b := L2.FunD.bindsA (ps := ["_law_script"]) F fun _ _ _ _ _ _ us hl => match us, hl with | [_], _ => rfl
    refine ⟨K, fd, "law", KX, MW.fun_ofD F, fun s v => b s [v] rfl, fun base _ _ => ?_⟩
    have F__law_cell := MWL.ok__law_cell (P := PySem.Challenge.rw_markwalkers_k91_whole_two_at_once.prog) (w := w) (base := base) T 
    have F__law_mix := MWL.ok__law_mix (P := PySem.Challenge.rw_markwalkers_k91_whole_two_at_once.prog) (w := w) (base := base) T F__law_cell
    have F__law_draw := MWL.ok__law_draw (P := PySem.Challenge.rw_markwalkers_k91_whole_two_at_once.prog) (w := w) (base := base) T F__law_mix
    have F__law_pick := MWL.ok__law_pick (P := PySem.Challenge.rw_markwalkers_k91_whole_two_at_once.prog) (w := w) (base := base) T F__law_draw
    have F__law_refusal := MWL.ok__law_refusal (P := PySem.Challenge.rw_markwalkers_k91_whole_two_at_once.prog) (w := w) (base := base) T 
    have F_look_rule := MWL.ok_look_rule (P := PySem.Challenge.rw_markwalkers_k91_whole_two_at_once.prog) (w := w) (base := base) T 
    have F_look_walker := MWL.ok_look_walker (P := PySem.Challenge.rw_markwalkers_k91_whole_two_at_once.prog) (w := w) (base := base) T 
    have F_look_floor := MWL.ok_look_floor (P := PySem.Challenge.rw_markwalkers_k91_whole_two_at_once.prog) (w := w) (base := base) T 
    have F_look_all := MWL.ok_look_all (P := PySem.Challenge.rw_markwalkers_k91_whole_two_at_once.prog) (w := w) (base := base) T F_look_rule F_look_walker F_look_floor
    have F_look_many := MWL.ok_look_many (P := PySem.Challenge.rw_markwalkers_k91_whole_two_at_once.prog) (w := w) (base := base) T 
    have F_run := MWL.ok_run (P := PySem.Challenge.rw_markwalkers_k91_whole_two_at_once.prog) (w := w) (base := base) T F_look_all F_look_many
    have F_back := MWL.ok_back (P := PySem.Challenge.rw_markwalkers_k91_whole_two_at_once.prog) (w := w) (base := base) T F_look_all F_look_many
    have F_path := MWL.ok_path (P := PySem.Challenge.rw_markwalkers_k91_whole_two_at_once.prog) (w := w) (base := base) T F_look_all F_look_many
    have F_read_colours := MWL.ok_read_colours (P := PySem.Challenge.rw_markwalkers_k91_whole_two_at_once.prog) (w := w) (base := base) T F_look_all F_look_many
    have F_period := MWL.ok_period (P := PySem.Challenge.rw_markwalkers_k91_whole_two_at_once.prog) (w := w) (base := base) T F_look_all F_look_many
    have F_counts := MWL.ok_counts (P := PySem.Challenge.rw_markwalkers_k91_whole_two_at_once.prog) (w := w) (base := base) T F_run
    have F_box := MWL.ok_box (P := PySem.Challenge.rw_markwalkers_k91_whole_two_at_once.prog) (w := w) (base := base) T F_path
    have F_times_seen := MWL.ok_times_seen (P := PySem.Challenge.rw_markwalkers_k91_whole_two_at_once.prog) (w := w) (base := base) T F_path
    have F_mirrored := MWL.ok_mirrored (P := PySem.Challenge.rw_markwalkers_k91_whole_two_at_once.prog) (w := w) (base := base) T F_look_all
    have F_plain := MWL.ok_plain (P := PySem.Challenge.rw_markwalkers_k91_whole_two_at_once.prog) (w := w) (base := base) T F_look_all
    have F_is_even := MWL.ok_is_even (P := PySem.Challenge.rw_markwalkers_k91_whole_two_at_once.prog) (w := w) (base := base) T F_look_all
    have F_written := MWL.ok_written (P := PySem.Challenge.rw_markwalkers_k91_whole_two_at_once.prog) (w := w) (base := base) T F_look_all
    have F_turned := MWL.ok_turned (P := PySem.Challenge.rw_markwalkers_k91_whole_two_at_once.prog) (w := w) (base := base) T F_look_all
    have F_goes_on := MWL.ok_goes_on (P := PySem.Challenge.rw_markwalkers_k91_whole_two_at_once.prog) (w := w) (base := base) T F_look_all
    have F_shown := MWL.ok_shown (P := PySem.Challenge.rw_markwalkers_k91_whole_two_at_once.prog) (w := w) (base := base) T F_look_all
    have F_way_on := MWL.ok_way_on (P := PySem.Challenge.rw_markwalkers_k91_whole_two_at_once.prog) (w := w) (base := base) T F_look_all
    have F_are_alike := MWL.ok_are_alike (P := PySem.Challenge.rw_markwalkers_k91_whole_two_at_once.prog) (w := w) (base := base) T F_look_all
    have F__law_one_b := MWL.ok__law_one_b (P := PySem.Challenge.rw_markwalkers_k91_whole_two_at_once.prog) (w := w) (base := base) T F_is_even F_written F_turned F_are_alike
    have F__law_one := MWL.ok__law_one (P := PySem.Challenge.rw_markwalkers_k91_whole_two_at_once.prog) (w := w) (base := base) T F_run F_back F_counts F_path F_read_colours F_times_seen F_box F_period F_goes_on F_shown F_way_on F_mirrored F_plain F__law_one_b
    have F__law_told := MWL.ok__law_told (P := PySem.Challenge.rw_markwalkers_k91_whole_two_at_once.prog) (w := w) (base := base) T F__law_one F__law_refusal
    exact MWL.body_law T F__law_pick F__law_draw F__law_told (Nat.le_refl _)

