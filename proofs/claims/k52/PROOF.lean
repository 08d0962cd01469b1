import PyProof.Rows.All
import Wide.All
import OpenK.AllK
import Wide.FinOn
import HandS.ForMost
import HandS.ForExc
import HandS.TupAny
import HandS.Wide
import HandS.Deep
import HandS.Conv
import HandS.More
import HandS.ExcInit
import HandS.Small
import HandS.OwnEq
import PyProof.NeKinds
import HandS.IsInst
import HandS.Zip
import HandS.SortInts
import HandS.TupSets
import HandS.ListItems
import KE.KDictList
import HandS.Defaults
import KE.KDictSum
import HandS.Style
import KE.SortCalls
import HandS.TryMany
import HandS.RaiseMore
import HandS.ExcField
import HandS.ExcIs
import HandS.SetFor
import HandS.Strs
import KE.RegKIsAll
import KE.RegKTryMore
import PySem.Challenge.RW_glueroom_k52_meetings_by_all_divisions
set_option Elab.async false
set_option linter.all false
set_option autoImplicit false
set_option maxRecDepth 100000
set_option maxHeartbeats 0
namespace DD
open PySem L2

/-- data without the heap -/
inductive D where
  | non | bl (b : Bool) | int (i : Int) | str (s : Str)
  | tup (ds : List D) | lst (ds : List D) | obj (c : Nat) (fs : List Str) (ds : List D) | dic (ks : List Key) (ds : List D)

mutual
inductive Rep (cA : Nat → Addr) (G : Hp) : V → D → Prop where
  | non : Rep cA G .non .non
  | bl (b : Bool) : Rep cA G (.bl b) (.bl b)
  | int (i : Int) : Rep cA G (.int i) (.int i)
  | str (s : Str) : Rep cA G (.str s) (.str s)
  | tup {p : Addr} {xs : List V} {ds : List D} (h : G p = some (.tup xs)) (r : Reps cA G xs ds) : Rep cA G (.ref p) (.tup ds)
  | lst {p : Addr} {xs : List V} {ds : List D} (h : G p = some (.lst xs)) (r : Reps cA G xs ds) : Rep cA G (.ref p) (.lst ds)
  | obj {p dx : Addr} {c : Nat} {fs : List Str} {xs : List V} {ds : List D} (h : G p = some (.ins (cA c) dx (fs.zip xs))) (l : fs.length = xs.length) (r : Reps cA G xs ds) : Rep cA G (.ref p) (.obj c fs ds)
  | dic {p : Addr} {ks : List Key} {xs : List V} {ds : List D} (h : G p = some (.dK (ks.zip xs))) (l : ks.length = xs.length) (r : Reps cA G xs ds) : Rep cA G (.ref p) (.dic ks ds)
inductive Reps (cA : Nat → Addr) (G : Hp) : List V → List D → Prop where
  | nil : Reps cA G [] []
  | cons {x : V} {d : D} {xs : List V} {ds : List D} (r : Rep cA G x d) (rs : Reps cA G xs ds) : Reps cA G (x :: xs) (d :: ds)
end

def Sub (G H : Hp) : Prop := ∀ a o, G a = some o → H a = some o
theorem Sub.refl (G : Hp) : Sub G G := fun _ _ h => h
theorem Sub.trans {G H K : Hp} (a : Sub G H) (b : Sub H K) : Sub G K := fun x o h => b x o (a x o h)
theorem Sub.new {G H : Hp} {p : Addr} {o : HO} (s : Sub G H) (h : G p = none) : Sub G (upd H p o) := fun a u e => by
  rw [upd_ne (ne_of_none e h)]
  exact s a u e

section
variable {cA : Nat → Addr} {G G' : Hp}
mutual
theorem Rep.mono (s : Sub G G') : ∀ {v : V} {d : D}, Rep cA G v d → Rep cA G' v d
  | _, _, .non => .non
  | _, _, .bl b => .bl b
  | _, _, .int i => .int i
  | _, _, .str x => .str x
  | _, _, .tup h r => .tup (s _ _ h) (Reps.mono s r)
  | _, _, .lst h r => .lst (s _ _ h) (Reps.mono s r)
  | _, _, .obj h l r => .obj (s _ _ h) l (Reps.mono s r)
  | _, _, .dic h l r => .dic (s _ _ h) l (Reps.mono s r)
theorem Reps.mono (s : Sub G G') : ∀ {vs : List V} {ds : List D}, Reps cA G vs ds → Reps cA G' vs ds
  | _, _, .nil => .nil
  | _, _, .cons r rs => .cons (Rep.mono s r) (Reps.mono s rs)
end
end

/-! ### values, mutable cells, worlds -/
inductive W where
  | d (d : D) | r (n : Nat)
inductive Cell where
  /-- a mutable list of data; a mutable list of what may itself be mutable -/
  | lst (ds : List D) | lstW (ws : List W)
  | ins (c : Nat) (fs : List Str) (ws : List W)
  | dic (ks : List Key) (ds : List D)
  /-- what is known to change no more -/
  | frz (d : D)
  /-- the law's own script -/
  | scr (ns : List Int) (S : Addr → Prop)
def Cell.live : Cell → Bool
  | .frz _ => false
  | .scr _ _ => false
  | _ => true
abbrev M := List Cell
abbrev R := List (Option W)
abbrev Wd := List (List Addr)

/-- worlds grow -/
structure Le (G : Hp) (m : Wd) (G' : Hp) (m' : Wd) : Prop where
  g : Sub G G'
  m : ∀ (i : Nat) (as : List Addr), m[i]? = some as → m'[i]? = some as
theorem Le.refl (G : Hp) (m : Wd) : Le G m G m := ⟨Sub.refl G, fun _ _ h => h⟩
theorem Le.trans {G G1 G2 : Hp} {m m1 m2 : Wd} (a : Le G m G1 m1) (b : Le G1 m1 G2 m2) : Le G m G2 m2 := ⟨a.g.trans b.g, fun i as h => b.m i as (a.m i as h)⟩

inductive WRel (cA : Nat → Addr) (G : Hp) (m : Wd) : V → W → Prop where
  | d {v : V} {d : D} (r : Rep cA G v d) : WRel cA G m v (.d d)
  | r {n : Nat} {p : Addr} {as : List Addr} (h : m[n]? = some (p :: as)) : WRel cA G m (.ref p) (.r n)
inductive WRels (cA : Nat → Addr) (G : Hp) (m : Wd) : List V → List W → Prop where
  | nil : WRels cA G m [] []
  | cons {x : V} {w : W} {xs : List V} {ws : List W} (r : WRel cA G m x w) (rs : WRels cA G m xs ws) : WRels cA G m (x :: xs) (w :: ws)

/-- what stands at a cell's places as -/
def CellOk (cA : Nat → Addr) (G : Hp) (m : Wd) (H : Hp) (as : List Addr) : Cell → Prop
  | .lst ds => ∃ p xs, as = [p] ∧ H p = some (.lst xs) ∧ Reps cA G xs ds
  | .lstW ws => ∃ p xs, as = [p] ∧ H p = some (.lst xs) ∧ WRels cA G m xs ws
  | .ins c fs ws => ∃ p dx xs, as = [p] ∧ H p = some (.ins (cA c) dx (fs.zip xs)) ∧ fs.length = xs.length ∧ WRels cA G m xs ws
  | .dic ks ds => ∃ p xs, as = [p] ∧ H p = some (.dK (ks.zip xs)) ∧ ks.length = xs.length ∧ Reps cA G xs ds
  | .frz d => ∃ p, as = [p] ∧ Rep cA G (.ref p) d
  | .scr ns S => ∃ p, as = [p] ∧ ((∃ o, G p = some (.frz o (.lst (ns.map V.int)))) ∨ S p)

structure RelM (cA : Nat → Addr) (U G : Hp) (m : Wd) (μ : M) (H : Hp) : Prop where
  uh : Sub U H
  gh : Sub G H
  ug : ∀ a o, U a = some o → G a = none
  len : m.length = μ.length
  cell : ∀ (i : Nat) (c : Cell) (as : List Addr), μ[i]? = some c → m[i]? = some as → CellOk cA G m H as c
  nd : ∀ (i : Nat) (c : Cell) (as : List Addr), μ[i]? = some c → m[i]? = some as → c.live = true → as.Nodup
  apart : ∀ (i j : Nat) (c c' : Cell) (as as' : List Addr) (a : Addr), μ[i]? = some c → μ[j]? = some c' → m[i]? = some as → m[j]? = some as' → c.live = true → c'.live = true → a ∈ as → a ∈ as' → i = j
  free : ∀ (i : Nat) (c : Cell) (as : List Addr) (a : Addr), μ[i]? = some c → m[i]? = some as → c.live = true → a ∈ as → G a = none ∧ U a = none

def RelR (cA : Nat → Addr) (G : Hp) (m : Wd) (σ : L2.St) (ρ : R) : Prop := σ.length = ρ.length ∧ ∀ (i : Nat) (w : W), ρ[i]? = some (some w) → ∃ v, σ[i]? = some (some v) ∧ WRel cA G m v w

section
variable {cA : Nat → Addr} {G G' U H H' : Hp} {m m' : Wd} {μ : M} {σ : L2.St} {ρ : R}
theorem WRel.mono (l : Le G m G' m') {v : V} {w : W} (h : WRel cA G m v w) : WRel cA G' m' v w := by
  cases h with
  | d r => exact .d (r.mono l.g)
  | r h => exact .r (l.m _ _ h)
theorem WRels.mono (l : Le G m G' m') : ∀ {vs : List V} {ws : List W}, WRels cA G m vs ws → WRels cA G' m' vs ws
  | _, _, .nil => .nil
  | _, _, .cons r rs => .cons (r.mono l) (rs.mono l)
theorem RelR.mono (l : Le G m G' m') (h : RelR cA G m σ ρ) : RelR cA G' m' σ ρ := ⟨h.1, fun i w e => by
  obtain ⟨v, e1, r⟩ := h.2 i w e
  exact ⟨v, e1, r.mono l⟩⟩
theorem Reps.len : ∀ {vs : List V} {ds : List D}, Reps cA G vs ds → vs.length = ds.length
  | _, _, .nil => rfl
  | _, _, .cons _ rs => congrArg (· + 1) rs.len
theorem WRels.len : ∀ {vs : List V} {ws : List W}, WRels cA G m vs ws → vs.length = ws.length
  | _, _, .nil => rfl
  | _, _, .cons _ rs => congrArg (· + 1) rs.len
theorem Reps.get : ∀ {vs : List V} {ds : List D} {i : Nat} {v : V}, Reps cA G vs ds → vs[i]? = some v → ∃ d, ds[i]? = some d ∧ Rep cA G v d
  | _, _, i, _, .nil, h => by simp at h
  | _, _, 0, _, .cons r _, h => by simp at h; subst h; exact ⟨_, rfl, r⟩
  | _, _, i + 1, _, .cons _ rs, h => by simpa using rs.get (i := i) (by simpa using h)
theorem Reps.get' : ∀ {vs : List V} {ds : List D} {i : Nat} {d : D}, Reps cA G vs ds → ds[i]? = some d → ∃ v, vs[i]? = some v ∧ Rep cA G v d
  | _, _, i, _, .nil, h => by simp at h
  | _, _, 0, _, .cons r _, h => by simp at h; subst h; exact ⟨_, rfl, r⟩
  | _, _, i + 1, _, .cons _ rs, h => by simpa using rs.get' (i := i) (by simpa using h)
theorem WRels.get' : ∀ {vs : List V} {ws : List W} {i : Nat} {w : W}, WRels cA G m vs ws → ws[i]? = some w → ∃ v, vs[i]? = some v ∧ WRel cA G m v w
  | _, _, i, _, .nil, h => by simp at h
  | _, _, 0, _, .cons r _, h => by simp at h; subst h; exact ⟨_, rfl, r⟩
  | _, _, i + 1, _, .cons _ rs, h => by simpa using rs.get' (i := i) (by simpa using h)
theorem Reps.app : ∀ {vs us : List V} {ds es : List D}, Reps cA G vs ds → Reps cA G us es → Reps cA G (vs ++ us) (ds ++ es)
  | _, _, _, _, .nil, h => h
  | _, _, _, _, .cons r rs, h => .cons r (rs.app h)
theorem Reps.set {v : V} {d : D} (r : Rep cA G v d) : ∀ {vs : List V} {ds : List D} (i : Nat), Reps cA G vs ds → Reps cA G (vs.set i v) (ds.set i d)
  | _, _, _, .nil => .nil
  | _, _, 0, .cons _ rs => .cons r rs
  | _, _, i + 1, .cons r' rs => .cons r' (rs.set r i)
theorem Reps.drop : ∀ {vs : List V} {ds : List D} (n : Nat), Reps cA G vs ds → Reps cA G (vs.drop n) (ds.drop n)
  | _, _, 0, h => h
  | _, _, _ + 1, .nil => .nil
  | _, _, n + 1, .cons _ rs => rs.drop n
theorem Reps.take : ∀ {vs : List V} {ds : List D} (n : Nat), Reps cA G vs ds → Reps cA G (vs.take n) (ds.take n)
  | _, _, 0, _ => .nil
  | _, _, _ + 1, .nil => .nil
  | _, _, n + 1, .cons r rs => .cons r (rs.take n)
theorem Reps.erase : ∀ {vs : List V} {ds : List D} (n : Nat), Reps cA G vs ds → Reps cA G (vs.eraseIdx n) (ds.eraseIdx n)
  | _, _, _, .nil => .nil
  | _, _, 0, .cons _ rs => rs
  | _, _, n + 1, .cons r rs => .cons r (rs.erase n)

/-- the footprint of the live cells, the known part and the frame hold no new object -/
theorem RelM.new (r : RelM cA U G m μ H) {p : Addr} (h : H p = none) : G p = none ∧ U p = none := by
  constructor
  · cases e : G p with
    | none => rfl
    | some o => rw [r.gh p o e] at h; cases h
  · cases e : U p with
    | none => rfl
    | some o => rw [r.uh p o e] at h; cases h
theorem CellOk.at {as : List Addr} {c : Cell} (h : CellOk cA G m H as c) (gh : Sub G H) (lv : c.live = true) : ∀ a ∈ as, ∃ o, H a = some o := by
  cases c with
  | lst ds => obtain ⟨p, xs, rfl, e, _⟩ := h; intro a ha; simp at ha; subst ha; exact ⟨_, e⟩
  | lstW ws => obtain ⟨p, xs, rfl, e, _⟩ := h; intro a ha; simp at ha; subst ha; exact ⟨_, e⟩
  | ins c fs ws => obtain ⟨p, dx, xs, rfl, e, _⟩ := h; intro a ha; simp at ha; subst ha; exact ⟨_, e⟩
  | dic ks ds => obtain ⟨p, xs, rfl, e, _⟩ := h; intro a ha; simp at ha; subst ha; exact ⟨_, e⟩
  | frz d =>
    obtain ⟨p, rfl, r⟩ := h
    intro a ha
    simp at ha
    subst ha
    generalize hv : V.ref a = v at r
    cases r with
    | tup h _ => cases hv; exact ⟨_, gh _ _ h⟩
    | lst h _ => cases hv; exact ⟨_, gh _ _ h⟩
    | obj h _ _ => cases hv; exact ⟨_, gh _ _ h⟩
    | dic h _ _ => cases hv; exact ⟨_, gh _ _ h⟩
    | _ => cases hv
  | scr ns S => cases lv
/-- the cell's heap may grow around it -/
theorem CellOk.mono {as : List Addr} {c : Cell} (l : Le G m G' m') (k : c.live = true → ∀ a ∈ as, ∀ o, H a = some o → H' a = some o) (h : CellOk cA G m H as c) : CellOk cA G' m' H' as c := by
  cases c with
  | lst ds => obtain ⟨p, xs, rfl, e, r⟩ := h; exact ⟨p, xs, rfl, k rfl p (by simp) _ e, r.mono l.g⟩
  | lstW ws => obtain ⟨p, xs, rfl, e, r⟩ := h; exact ⟨p, xs, rfl, k rfl p (by simp) _ e, r.mono l⟩
  | ins c fs ws => obtain ⟨p, dx, xs, rfl, e, n, r⟩ := h; exact ⟨p, dx, xs, rfl, k rfl p (by simp) _ e, n, r.mono l⟩
  | dic ks ds => obtain ⟨p, xs, rfl, e, n, r⟩ := h; exact ⟨p, xs, rfl, k rfl p (by simp) _ e, n, r.mono l.g⟩
  | frz d => obtain ⟨p, rfl, r⟩ := h; exact ⟨p, rfl, r.mono l.g⟩
  | scr ns S => obtain ⟨p, rfl, e⟩ := h; exact ⟨p, rfl, e.imp (fun ⟨o, e⟩ => ⟨o, l.g _ _ e⟩) id⟩
/-- a new object stands, known to nobody -/
theorem RelM.grow (r : RelM cA U G m μ H) (s : Sub H H') : RelM cA U G m μ H' :=
  ⟨r.uh.trans s, r.gh.trans s, r.ug, r.len, fun i c as h1 h2 => (r.cell i c as h1 h2).mono (Le.refl G m) fun _ a _ o e => s a o e, r.nd, r.apart, r.free⟩
/-- a new object is known at once -/
theorem RelM.know (r : RelM cA U G m μ H) {p : Addr} {o : HO} (h : H p = none) : RelM cA U (upd G p o) m μ (upd H p o) := by
  obtain ⟨hg, hu⟩ := r.new h
  have l : Le G m (upd G p o) m := ⟨(Sub.refl G).new hg, fun _ _ e => e⟩
  have ne : ∀ (i : Nat) (c : Cell) (as : List Addr) (a : Addr), μ[i]? = some c → m[i]? = some as → c.live = true → a ∈ as → a ≠ p := fun i c as a h1 h2 lv h3 => by
    obtain ⟨o', e⟩ := (r.cell i c as h1 h2).at r.gh lv a h3
    exact ne_of_none e h
  refine ⟨r.uh.new hu, fun a u e => ?_, fun a u e => ?_, r.len, fun i c as h1 h2 => (r.cell i c as h1 h2).mono l fun lv a ha o' e => ?_, r.nd, r.apart, fun i c as a h1 h2 h3 h4 => ?_⟩
  · by_cases q : a = p
    · subst q; rw [upd_same] at e ⊢; exact e
    · rw [upd_ne q] at e ⊢; exact r.gh a u e
  · rw [upd_ne (ne_of_none e hu)]; exact r.ug a u e
  · rw [upd_ne (ne i c as a h1 h2 lv ha)]; exact e
  · rw [upd_ne (ne i c as a h1 h2 h3 h4)]; exact r.free i c as a h1 h2 h3 h4
theorem Le.know {p : Addr} (hg : G p = none) {o : HO} : Le G m (upd G p o) m := ⟨(Sub.refl G).new hg, fun _ _ e => e⟩
/-- a new cell of one place -/
theorem RelM.cellNew (r : RelM cA U G m μ H) {p : Addr} {o : HO} {c : Cell} (h : H p = none) (hc : CellOk cA G (m ++ [[p]]) (upd H p o) [p] c) : RelM cA U G (m ++ [[p]]) (μ ++ [c]) (upd H p o) := by
  obtain ⟨hg, hu⟩ := r.new h
  have ne : ∀ (i : Nat) (c : Cell) (as : List Addr) (a : Addr), μ[i]? = some c → m[i]? = some as → c.live = true → a ∈ as → a ≠ p := fun i c as a h1 h2 lv h3 => by
    obtain ⟨o', e⟩ := (r.cell i c as h1 h2).at r.gh lv a h3
    exact ne_of_none e h
  have l : Le G m G (m ++ [[p]]) := ⟨Sub.refl G, fun i as e => by rw [List.getElem?_append_left (List.getElem?_eq_some_iff.mp e).1]; exact e⟩
  have split : ∀ (i : Nat) (c' : Cell) (as : List Addr), (μ ++ [c])[i]? = some c' → (m ++ [[p]])[i]? = some as → (μ[i]? = some c' ∧ m[i]? = some as) ∨ (i = μ.length ∧ c' = c ∧ as = [p]) := fun i c' as h1 h2 => by
    have hl := r.len
    by_cases hi : i < μ.length
    · rw [List.getElem?_append_left hi] at h1
      rw [List.getElem?_append_left (by omega)] at h2
      exact .inl ⟨h1, h2⟩
    · have : i = μ.length := by
        have := (List.getElem?_eq_some_iff.mp h1).1
        simp at this
        omega
      subst this
      rw [List.getElem?_append_right (by omega)] at h1 h2
      simp [hl] at h1 h2
      exact .inr ⟨rfl, h1.symm, h2.symm⟩
  refine ⟨r.uh.new hu, r.gh.new hg, r.ug, by simp [r.len], fun i c' as h1 h2 => ?_, fun i c' as h1 h2 h3 => ?_, fun i j c1 c2 as as' a h1 h2 h3 h4 h5 h6 h7 h8 => ?_, fun i c' as a h1 h2 h3 h4 => ?_⟩
  · rcases split i c' as h1 h2 with ⟨e1, e2⟩ | ⟨_, rfl, rfl⟩
    · exact (r.cell i c' as e1 e2).mono l fun lv a ha o' e => by rw [upd_ne (ne i c' as a e1 e2 lv ha)]; exact e
    · exact hc
  · rcases split i c' as h1 h2 with ⟨e1, e2⟩ | ⟨_, rfl, rfl⟩
    · exact r.nd i c' as e1 e2 h3
    · simp
  · rcases split i c1 as h1 h3 with ⟨e1, e2⟩ | ⟨q1, rfl, rfl⟩
    · rcases split j c2 as' h2 h4 with ⟨e3, e4⟩ | ⟨q2, rfl, rfl⟩
      · exact r.apart i j c1 c2 as as' a e1 e3 e2 e4 h5 h6 h7 h8
      · simp at h8; exact absurd h8 (ne i c1 as a e1 e2 h5 h7)
    · rcases split j c2 as' h2 h4 with ⟨e3, e4⟩ | ⟨q2, rfl, rfl⟩
      · simp at h7; exact absurd h7 (ne j c2 as' a e3 e4 h6 h8)
      · omega
  · rcases split i c' as h1 h2 with ⟨e1, e2⟩ | ⟨_, rfl, rfl⟩
    · exact r.free i c' as a e1 e2 h3 h4
    · simp at h4; subst h4; exact ⟨hg, hu⟩
theorem Le.cellNew {p : Addr} : Le G m G (m ++ [[p]]) := ⟨Sub.refl G, fun i as e => by rw [List.getElem?_append_left (List.getElem?_eq_some_iff.mp e).1]; exact e⟩
/-- a live cell is written at one of its places -/
theorem RelM.write (r : RelM cA U G m μ H) {n : Nat} {c c' : Cell} {as : List Addr} {p : Addr} {o : HO} (h1 : μ[n]? = some c) (h2 : m[n]? = some as) (h3 : c.live = true) (hp : p ∈ as) (h4 : c'.live = true) (hc : CellOk cA G m (upd H p o) as c') :
    RelM cA U G m (μ.set n c') (upd H p o) := by
  obtain ⟨hg, hu⟩ := r.free n c as p h1 h2 h3 hp
  have hn : n < μ.length := (List.getElem?_eq_some_iff.mp h1).1
  have split : ∀ (i : Nat) (x : Cell), (μ.set n c')[i]? = some x → (i ≠ n ∧ μ[i]? = some x) ∨ (i = n ∧ x = c') := fun i x e => by
    by_cases q : i = n
    · subst q
      rw [List.getElem?_set_self hn] at e
      exact .inr ⟨rfl, (Option.some.inj e).symm⟩
    · rw [List.getElem?_set_ne (Ne.symm q)] at e
      exact .inl ⟨q, e⟩
  refine ⟨r.uh.new hu, r.gh.new hg, r.ug, by simp [r.len], fun i x bs e1 e2 => ?_, fun i x bs e1 e2 e3 => ?_, fun i j x y bs bs' a e1 e2 e3 e4 e5 e6 e7 e8 => ?_, fun i x bs a e1 e2 e3 e4 => ?_⟩
  · rcases split i x e1 with ⟨q, e⟩ | ⟨rfl, rfl⟩
    · refine (r.cell i x bs e e2).mono (Le.refl G m) fun lv a ha u e' => ?_
      rw [upd_ne]
      · exact e'
      · rintro rfl
        exact q (r.apart i n x c bs as a e h1 e2 h2 lv h3 ha hp)
    · rw [h2] at e2; cases e2; exact hc
  · rcases split i x e1 with ⟨q, e⟩ | ⟨rfl, rfl⟩
    · exact r.nd i x bs e e2 e3
    · rw [h2] at e2; cases e2; exact r.nd i c as h1 h2 h3
  · have to : ∀ (i : Nat) (x : Cell), (μ.set n c')[i]? = some x → x.live = true → ∃ z, μ[i]? = some z ∧ z.live = true := fun i x e lv => by
      rcases split i x e with ⟨_, e⟩ | ⟨rfl, rfl⟩
      · exact ⟨x, e, lv⟩
      · exact ⟨c, h1, h3⟩
    obtain ⟨z1, f1, g1⟩ := to i x e1 e5
    obtain ⟨z2, f2, g2⟩ := to j y e2 e6
    exact r.apart i j z1 z2 bs bs' a f1 f2 e3 e4 g1 g2 e7 e8
  · rcases split i x e1 with ⟨q, e⟩ | ⟨rfl, rfl⟩
    · exact r.free i x bs a e e2 e3 e4
    · rw [h2] at e2; cases e2; exact r.free i c as a h1 h2 h3 e4
/-- a live cell of one place becomes known -/
theorem RelM.freeze (r : RelM cA U G m μ H) {n : Nat} {c : Cell} {p : Addr} {o : HO} {d : D} (h1 : μ[n]? = some c) (h2 : m[n]? = some [p]) (h3 : c.live = true) (ho : H p = some o) (hd : Rep cA (upd G p o) (.ref p) d) :
    RelM cA U (upd G p o) m (μ.set n (.frz d)) H := by
  obtain ⟨hg, hu⟩ := r.free n c [p] p h1 h2 h3 (by simp)
  have hn : n < μ.length := (List.getElem?_eq_some_iff.mp h1).1
  have l : Le G m (upd G p o) m := Le.know hg
  have split : ∀ (i : Nat) (x : Cell), (μ.set n (.frz d))[i]? = some x → (i ≠ n ∧ μ[i]? = some x) ∨ (i = n ∧ x = .frz d) := fun i x e => by
    by_cases q : i = n
    · subst q
      rw [List.getElem?_set_self hn] at e
      exact .inr ⟨rfl, (Option.some.inj e).symm⟩
    · rw [List.getElem?_set_ne (Ne.symm q)] at e
      exact .inl ⟨q, e⟩
  refine ⟨r.uh, fun a u e => ?_, fun a u e => ?_, by simp [r.len], fun i x bs e1 e2 => ?_, fun i x bs e1 e2 e3 => ?_, fun i j x y bs bs' a e1 e2 e3 e4 e5 e6 e7 e8 => ?_, fun i x bs a e1 e2 e3 e4 => ?_⟩
  · by_cases q : a = p
    · subst q; rw [upd_same] at e; cases e; exact ho
    · rw [upd_ne q] at e; exact r.gh a u e
  · rw [upd_ne (ne_of_none e hu)]; exact r.ug a u e
  · rcases split i x e1 with ⟨q, e⟩ | ⟨rfl, rfl⟩
    · exact (r.cell i x bs e e2).mono l fun _ _ _ _ h => h
    · rw [h2] at e2; cases e2; exact ⟨p, rfl, hd⟩
  · rcases split i x e1 with ⟨q, e⟩ | ⟨rfl, rfl⟩
    · exact r.nd i x bs e e2 e3
    · cases e3
  · rcases split i x e1 with ⟨q, e⟩ | ⟨rfl, rfl⟩
    · rcases split j y e2 with ⟨q', e'⟩ | ⟨rfl, rfl⟩
      · exact r.apart i j x y bs bs' a e e' e3 e4 e5 e6 e7 e8
      · cases e6
    · cases e5
  · rcases split i x e1 with ⟨q, e⟩ | ⟨rfl, rfl⟩
    · rw [upd_ne]
      · exact r.free i x bs a e e2 e3 e4
      · rintro rfl
        exact q (r.apart i n x c bs [a] a e h1 e2 h2 e3 h3 e4 (by simp))
    · cases e3
end
end DD
namespace DD
open PySem L2

/-! ### reading a value, letting it go -/
@[simp] def unD : List W → Option (List D)
  | [] => some []
  | .d d :: ws => (unD ws).map (d :: ·)
  | .r _ :: _ => none
/-- what a value is now -/
@[simp] def rs (μ : M) : W → Option D
  | .d d => some d
  | .r n => match μ[n]? with
    | some (.lst ds) => some (.lst ds)
    | some (.dic ks ds) => some (.dic ks ds)
    | some (.frz d) => some d
    | some (.ins c fs ws) => (unD ws).map (.obj c fs)
    | some (.lstW ws) => (unD ws).map .lst
    | _ => none
/-- a value is let go: it is known from now on -/
@[simp] def esc0 (μ : M) : W → Option (D × M)
  | .d d => some (d, μ)
  | .r n => match μ[n]? with
    | some (.lst ds) => some (.lst ds, μ.set n (.frz (.lst ds)))
    | some (.dic ks ds) => some (.dic ks ds, μ.set n (.frz (.dic ks ds)))
    | some (.frz d) => some (d, μ)
    | some (.ins c fs ws) => (unD ws).map fun ds => (.obj c fs ds, μ.set n (.frz (.obj c fs ds)))
    | _ => none
@[simp] def escs0 (μ : M) : List W → Option (List D × M)
  | [] => some ([], μ)
  | w :: ws => match esc0 μ w with
    | some (d, μ1) => match escs0 μ1 ws with
      | some (ds, μ2) => some (d :: ds, μ2)
      | none => none
    | none => none
@[simp] def esc (μ : M) : W → Option (D × M)
  | .d d => some (d, μ)
  | .r n => match μ[n]? with
    | some (.lstW ws) => match escs0 μ ws with
      | some (ds, μ1) => match μ1[n]? with
        | some (.lstW _) => some (.lst ds, μ1.set n (.frz (.lst ds)))
        | _ => none
      | none => none
    | _ => esc0 μ (.r n)
@[simp] def escs (μ : M) : List W → Option (List D × M)
  | [] => some ([], μ)
  | w :: ws => match esc μ w with
    | some (d, μ1) => match escs μ1 ws with
      | some (ds, μ2) => some (d :: ds, μ2)
      | none => none
    | none => none
/-- v is d, its parts known -/
def Now (cA : Nat → Addr) (G H : Hp) (v : V) : D → Prop
  | .non => v = .non
  | .bl b => v = .bl b
  | .int i => v = .int i
  | .str s => v = .str s
  | .tup ds => ∃ p xs, v = .ref p ∧ H p = some (.tup xs) ∧ Reps cA G xs ds
  | .lst ds => ∃ p xs, v = .ref p ∧ H p = some (.lst xs) ∧ Reps cA G xs ds
  | .obj c fs ds => ∃ p dx xs, v = .ref p ∧ H p = some (.ins (cA c) dx (fs.zip xs)) ∧ fs.length = xs.length ∧ Reps cA G xs ds
  | .dic ks ds => ∃ p xs, v = .ref p ∧ H p = some (.dK (ks.zip xs)) ∧ ks.length = xs.length ∧ Reps cA G xs ds
section
variable {cA : Nat → Addr} {G G' U H H' : Hp} {m m' : Wd} {μ μ' : M} {v : V} {w : W} {d : D}
theorem Rep.now (g : Sub G H) (r : Rep cA G v d) : Now cA G H v d := by
  cases r with
  | non => rfl
  | bl b => rfl
  | int i => rfl
  | str s => rfl
  | tup h r => exact ⟨_, _, rfl, g _ _ h, r⟩
  | lst h r => exact ⟨_, _, rfl, g _ _ h, r⟩
  | obj h l r => exact ⟨_, _, _, rfl, g _ _ h, l, r⟩
  | dic h l r => exact ⟨_, _, rfl, g _ _ h, l, r⟩
theorem unD_ok : ∀ {ws : List W} {ds : List D} {xs : List V}, unD ws = some ds → WRels cA G m xs ws → Reps cA G xs ds
  | [], _, _, h, .nil => by simp [unD] at h; subst h; exact .nil
  | .d d :: ws, ds, _, h, .cons r rs => by
    cases r with
    | d r =>
      unfold unD at h
      cases e : unD ws with
      | none => rw [e] at h; simp at h
      | some es => rw [e] at h; simp at h; subst h; exact .cons r (unD_ok e rs)
  | .r n :: ws, ds, _, h, .cons _ _ => by simp [unD] at h
theorem lt_of_rel (r : RelM cA U G m μ H) {n : Nat} {as : List Addr} (h : m[n]? = some as) : ∃ c, μ[n]? = some c := by
  have := (List.getElem?_eq_some_iff.mp h).1
  exact ⟨μ[n]'(by rw [← r.len]; exact this), List.getElem?_eq_getElem _⟩
theorem rs_ok (r : RelM cA U G m μ H) (q : WRel cA G m v w) (h : rs μ w = some d) : Now cA G H v d := by
  cases q with
  | d q => simp [rs] at h; subst h; exact q.now r.gh
  | @r n p as e =>
    obtain ⟨c, hc⟩ := lt_of_rel r e
    have k := r.cell n c _ hc e
    simp only [rs, hc] at h
    cases c with
    | lst ds => cases h; obtain ⟨p', xs, e1, e2, e3⟩ := k; cases e1; exact ⟨p, xs, rfl, e2, e3⟩
    | dic ks ds => cases h; obtain ⟨p', xs, e1, e2, e3, e4⟩ := k; cases e1; exact ⟨p, xs, rfl, e2, e3, e4⟩
    | frz d' => cases h; obtain ⟨p', e1, e2⟩ := k; cases e1; exact e2.now r.gh
    | ins c fs ws =>
      obtain ⟨p', dx, xs, e1, e2, e3, e4⟩ := k
      cases e1
      dsimp only at h
      cases e : unD ws with
      | none => rw [e] at h; simp at h
      | some ds => rw [e] at h; simp at h; subst h; exact ⟨p, dx, xs, rfl, e2, e3, unD_ok e e4⟩
    | lstW ws =>
      obtain ⟨p', xs, e1, e2, e4⟩ := k
      cases e1
      dsimp only at h
      cases e : unD ws with
      | none => rw [e] at h; simp at h
      | some ds => rw [e] at h; simp at h; subst h; exact ⟨p, xs, rfl, e2, unD_ok e e4⟩
    | scr ns S => cases h
theorem esc0_ok (r : RelM cA U G m μ H) (q : WRel cA G m v w) (h : esc0 μ w = some (d, μ')) : ∃ G', Le G m G' m ∧ RelM cA U G' m μ' H ∧ Rep cA G' v d := by
  cases q with
  | d q => simp [esc0] at h; obtain ⟨rfl, rfl⟩ := h; exact ⟨G, Le.refl G m, r, q⟩
  | @r n p as e =>
    obtain ⟨c, hc⟩ := lt_of_rel r e
    have k := r.cell n c _ hc e
    simp only [esc0, hc] at h
    cases c with
    | lst ds =>
      cases h
      obtain ⟨p', xs, e1, e2, e3⟩ := k
      cases e1
      have hg := (r.free n _ _ p hc e rfl (by simp)).1
      have rp : Rep cA (upd G p (.lst xs)) (.ref p) (.lst ds) := .lst upd_same (e3.mono (Le.know (m := m) hg).g)
      exact ⟨_, Le.know hg, r.freeze hc e rfl e2 rp, rp⟩
    | dic ks ds =>
      cases h
      obtain ⟨p', xs, e1, e2, e3, e4⟩ := k
      cases e1
      have hg := (r.free n _ _ p hc e rfl (by simp)).1
      have rp : Rep cA (upd G p (.dK (ks.zip xs))) (.ref p) (.dic ks ds) := .dic upd_same e3 (e4.mono (Le.know (m := m) hg).g)
      exact ⟨_, Le.know hg, r.freeze hc e rfl e2 rp, rp⟩
    | frz d' => cases h; obtain ⟨p', e1, e2⟩ := k; cases e1; exact ⟨G, Le.refl G m, r, e2⟩
    | ins c fs ws =>
      obtain ⟨p', dx, xs, e1, e2, e3, e4⟩ := k
      cases e1
      dsimp only at h
      cases eu : unD ws with
      | none => rw [eu] at h; simp at h
      | some ds =>
        rw [eu] at h
        simp at h
        obtain ⟨rfl, rfl⟩ := h
        have hg := (r.free n _ _ p hc e rfl (by simp)).1
        have rp : Rep cA (upd G p (.ins (cA c) dx (fs.zip xs))) (.ref p) (.obj c fs ds) := .obj upd_same e3 ((unD_ok eu e4).mono (Le.know (m := m) hg).g)
        exact ⟨_, Le.know hg, r.freeze hc e rfl e2 rp, rp⟩
    | lstW ws => cases h
    | scr ns S => cases h
theorem escs0_ok : ∀ {vs : List V} {ws : List W} {ds : List D} {G : Hp} {μ μ' : M}, RelM cA U G m μ H → WRels cA G m vs ws → escs0 μ ws = some (ds, μ') → ∃ G', Le G m G' m ∧ RelM cA U G' m μ' H ∧ Reps cA G' vs ds
  | _, _, _, G, _, _, r, .nil, h => by simp [escs0] at h; obtain ⟨rfl, rfl⟩ := h; exact ⟨G, Le.refl G m, r, .nil⟩
  | _, w :: ws, ds, G, μ, μ', r, .cons q qs, h => by
    unfold escs0 at h
    cases e : esc0 μ w with
    | none => rw [e] at h; simp at h
    | some z =>
      obtain ⟨d, μ1⟩ := z
      rw [e] at h
      simp only at h
      cases e2 : escs0 μ1 ws with
      | none => rw [e2] at h; simp at h
      | some z =>
        obtain ⟨es, μ2⟩ := z
        rw [e2] at h
        simp at h
        obtain ⟨rfl, rfl⟩ := h
        obtain ⟨G1, l1, r1, p1⟩ := esc0_ok r q e
        obtain ⟨G2, l2, r2, p2⟩ := escs0_ok r1 (qs.mono l1) e2
        exact ⟨G2, l1.trans l2, r2, .cons (p1.mono l2.g) p2⟩
/-- what escs0 leaves alone -/
theorem esc0_len (h : esc0 μ w = some (d, μ')) : μ'.length = μ.length ∧ ∀ (i : Nat) (ws : List W), μ'[i]? = some (.lstW ws) → μ[i]? = some (.lstW ws) := by
  cases w with
  | d _ => simp [esc0] at h; obtain ⟨_, rfl⟩ := h; exact ⟨rfl, fun _ _ z => z⟩
  | r n =>
    have key : ∀ (x : D), (μ.set n (.frz x)).length = μ.length ∧ ∀ (i : Nat) (ws : List W), (μ.set n (.frz x))[i]? = some (.lstW ws) → μ[i]? = some (.lstW ws) := fun x => ⟨by simp, fun i ws z => by
      by_cases q : n = i
      · subst q
        rw [List.getElem?_set] at z
        split at z
        · split at z <;> simp_all
        · simp_all
      · rw [List.getElem?_set_ne q] at z; exact z⟩
    simp only [esc0] at h
    split at h
    · cases h; exact key _
    · cases h; exact key _
    · cases h; exact ⟨rfl, fun _ _ z => z⟩
    · rename_i c fs ws e
      cases e2 : unD ws with
      | none => rw [e2] at h; simp at h
      | some ds => rw [e2] at h; simp at h; obtain ⟨_, rfl⟩ := h; exact key _
    · cases h
theorem escs0_len : ∀ {ws : List W} {ds : List D} {μ μ' : M}, escs0 μ ws = some (ds, μ') → ∀ (i : Nat) (us : List W), μ'[i]? = some (.lstW us) → μ[i]? = some (.lstW us)
  | [], ds, μ, μ', h => by simp [escs0] at h; obtain ⟨_, rfl⟩ := h; exact fun _ _ z => z
  | w :: ws, ds, μ, μ', h => by
    unfold escs0 at h
    cases e : esc0 μ w with
    | none => rw [e] at h; simp at h
    | some z =>
      obtain ⟨d, μ1⟩ := z
      rw [e] at h
      simp only at h
      cases e2 : escs0 μ1 ws with
      | none => rw [e2] at h; simp at h
      | some z =>
        obtain ⟨es, μ2⟩ := z
        rw [e2] at h
        simp at h
        obtain ⟨_, rfl⟩ := h
        exact fun i us z => (esc0_len e).2 i us (escs0_len e2 i us z)
theorem esc_ok (r : RelM cA U G m μ H) (q : WRel cA G m v w) (h : esc μ w = some (d, μ')) : ∃ G', Le G m G' m ∧ RelM cA U G' m μ' H ∧ Rep cA G' v d := by
  cases w with
  | d x =>
    simp only [esc] at h
    exact esc0_ok r q (by simpa [esc0] using h)
  | r n =>
    simp only [esc] at h
    split at h
    · rename_i ws hc
      cases e : escs0 μ ws with
      | none => rw [e] at h; simp at h
      | some z =>
        obtain ⟨ds, μ1⟩ := z
        rw [e] at h
        simp only at h
        split at h
        · rename_i us hu
          cases h
          cases q with
          | @r _ p as em =>
            obtain ⟨p', xs, e1, e2, e3⟩ := r.cell n _ _ hc em
            cases e1
            obtain ⟨G1, l1, r1, p1⟩ := escs0_ok r e3 e
            have hg := (r1.free n _ _ p hu em rfl (by simp)).1
            have rp : Rep cA (upd G1 p (.lst xs)) (.ref p) (.lst ds) := .lst upd_same (p1.mono (Le.know (m := m) hg).g)
            exact ⟨_, l1.trans (Le.know hg), r1.freeze hu em rfl e2 rp, rp⟩
        · cases h
    · exact esc0_ok r q h
theorem escs_ok : ∀ {vs : List V} {ws : List W} {ds : List D} {G : Hp} {μ μ' : M}, RelM cA U G m μ H → WRels cA G m vs ws → escs μ ws = some (ds, μ') → ∃ G', Le G m G' m ∧ RelM cA U G' m μ' H ∧ Reps cA G' vs ds
  | _, _, _, G, _, _, r, .nil, h => by simp [escs] at h; obtain ⟨rfl, rfl⟩ := h; exact ⟨G, Le.refl G m, r, .nil⟩
  | _, w :: ws, ds, G, μ, μ', r, .cons q qs, h => by
    unfold escs at h
    cases e : esc μ w with
    | none => rw [e] at h; simp at h
    | some z =>
      obtain ⟨d, μ1⟩ := z
      rw [e] at h
      simp only at h
      cases e2 : escs μ1 ws with
      | none => rw [e2] at h; simp at h
      | some z =>
        obtain ⟨es, μ2⟩ := z
        rw [e2] at h
        simp at h
        obtain ⟨rfl, rfl⟩ := h
        obtain ⟨G1, l1, r1, p1⟩ := esc_ok r q e
        obtain ⟨G2, l2, r2, p2⟩ := escs_ok r1 (qs.mono l1) e2
        exact ⟨G2, l1.trans l2, r2, .cons (p1.mono l2.g) p2⟩
end

/-! ### judgements -/
structure Exc where
  c : Nat
  fs : List Str
  ds : List D
/-- what is fixed while a def's body runs -/
structure Bs where
  cA : Nat → Addr
  U : Hp
  G0 : Hp
  m0 : Wd
  xc : Exc → M → Prop
structure WOk (b : Bs) (G : Hp) (m : Wd) (μ : M) (H : Hp) : Prop where
  le : Le b.G0 b.m0 G m
  rel : RelM b.cA b.U G m μ H
abbrev DTE := R → M → (W → M → Prop) → Prop
abbrev DTT := R → M → (Bool → M → Prop) → Prop
abbrev DTA := R → M → (List W → M → Prop) → Prop
structure DE (X : Cx) (b : Bs) (e : Expr) (t : DTE) : Prop where
  ex : ∃ te : TE, PE X e te ∧ ∀ {G : Hp} {m : Wd} {ρ : R} {μ : M} {σ : L2.St} {H : Hp} {Q : W → M → Prop} {K : VK}, WOk b G m μ H → RelR b.cA G m σ ρ → t ρ μ Q →
    (∀ v H' G' m' w μ', Le G m G' m' → WOk b G' m' μ' H' → WRel b.cA G' m' v w → Q w μ' → K v H') → te σ H K
structure DT (X : Cx) (b : Bs) (e : Expr) (t : DTT) : Prop where
  ex : ∃ te : TT, PT X e te ∧ ∀ {G : Hp} {m : Wd} {ρ : R} {μ : M} {σ : L2.St} {H : Hp} {Q : Bool → M → Prop} {K : Bool → Hp → Prop}, WOk b G m μ H → RelR b.cA G m σ ρ → t ρ μ Q →
    (∀ c H' G' m' μ', Le G m G' m' → WOk b G' m' μ' H' → Q c μ' → K c H') → te σ H K
structure DPW (X : Cx) (b : Bs) (e : Expr) (t : DTT) : Prop where
  ex : ∃ te : TT, PW X e te ∧ ∀ {G : Hp} {m : Wd} {ρ : R} {μ : M} {σ : L2.St} {H : Hp} {Q : Bool → M → Prop} {K : Bool → Hp → Prop}, WOk b G m μ H → RelR b.cA G m σ ρ → t ρ μ Q →
    (∀ c H' G' m' μ', Le G m G' m' → WOk b G' m' μ' H' → Q c μ' → K c H') → te σ H K
structure DA (X : Cx) (b : Bs) (es : List Expr) (t : DTA) : Prop where
  ex : ∃ te : TA, PA X es te ∧ ∀ {G : Hp} {m : Wd} {ρ : R} {μ : M} {σ : L2.St} {H : Hp} {Q : List W → M → Prop} {K : List V → Hp → Prop}, WOk b G m μ H → RelR b.cA G m σ ρ → t ρ μ Q →
    (∀ vs H' G' m' ws μ', Le G m G' m' → WOk b G' m' μ' H' → WRels b.cA G' m' vs ws → Q ws μ' → K vs H') → te σ H K
theorem WOk.mono {b : Bs} {G G' : Hp} {m m' : Wd} {μ μ' : M} {H H' : Hp} (w : WOk b G m μ H) (l : Le G m G' m') (r : RelM b.cA b.U G' m' μ' H') : WOk b G' m' μ' H' := ⟨w.le.trans l, r⟩
section
variable {X : Cx} {b : Bs} {pos : Pos}
/-! ### names, constants -/
@[simp] def dVar (i : Nat) (ρ : R) (μ : M) (Q : W → M → Prop) : Prop := match ρ[i]? with
  | some (some w) => Q w μ
  | _ => False
theorem de_var {i : Nat} {x : Str} (h : PE X (.Name x pos) (tVar i)) : DE X b (.Name x pos) (dVar i) := by
  refine ⟨_, h, fun {G m ρ μ σ H Q K} o r t k => ?_⟩
  unfold dVar at t
  split at t
  · rename_i w e
    obtain ⟨v, e1, rv⟩ := r.2 i w e
    exact ⟨v, e1, k v H G m w μ (Le.refl G m) o rv t⟩
  · exact t.elim
@[simp] def dC (d : D) (_ρ : R) (μ : M) (Q : W → M → Prop) : Prop := Q (.d d) μ
theorem de_c {e : Expr} {v : V} {d : D} (h : PE X e (tC v)) (r : ∀ G, Rep b.cA G v d) : DE X b e (dC d) :=
  ⟨_, h, fun {G m ρ μ σ H Q K} o _ t k => k v H G m _ μ (Le.refl G m) o (.d (r G)) t⟩
theorem de_int {i : Int} {j} : DE X b (.Constant (.int i) j pos) (dC (.int i)) := de_c pe_int fun _ => .int i
theorem de_bl {c : Bool} {j} : DE X b (.Constant (.bool c) j pos) (dC (.bl c)) := de_c pe_bl fun _ => .bl c
theorem de_non {j} : DE X b (.Constant .none j pos) (dC .non) := de_c pe_non fun _ => .non
theorem de_str {x : Str} {j} : DE X b (.Constant (.str x) j pos) (dC (.str x)) := de_c pe_str fun _ => .str x
/-! ### argument lists -/
@[simp] def dNil (_ρ : R) (μ : M) (Q : List W → M → Prop) : Prop := Q [] μ
@[simp] def dCons (ta : DTE) (tr : DTA) (ρ : R) (μ : M) (Q : List W → M → Prop) : Prop := ta ρ μ fun w μ1 => tr ρ μ1 fun ws μ2 => Q (w :: ws) μ2
theorem da_nil : DA X b [] dNil := ⟨_, pa_nil, fun {G m ρ μ σ H Q K} o _ t k => k [] H G m [] μ (Le.refl G m) o .nil t⟩
theorem da_cons {e : Expr} {es : List Expr} {ta : DTE} {tr : DTA} (ha : DE X b e ta) (hr : DA X b es tr) (hs : starEach (e :: es) X.env = (false, eval e X.env) :: starEach es X.env := by rfl) : DA X b (e :: es) (dCons ta tr) := by
  obtain ⟨ta', pa, qa⟩ := ha.ex
  obtain ⟨tr', pr, qr⟩ := hr.ex
  refine ⟨_, pa_cons pa pr hs, fun {G m ρ μ σ H Q K} o r t k => ?_⟩
  refine qa o r t fun v H1 G1 m1 w μ1 l1 o1 r1 t1 => ?_
  refine qr o1 (r.mono l1) t1 fun vs H2 G2 m2 ws μ2 l2 o2 r2 t2 => ?_
  exact k _ H2 G2 m2 _ μ2 (l1.trans l2) o2 (.cons (r1.mono l2) r2) t2
/-! ### displays -/
@[simp] def dLet (f : List D → D) (ta : DTA) (ρ : R) (μ : M) (Q : W → M → Prop) : Prop := ta ρ μ fun ws μ1 => match escs μ1 ws with
  | some (ds, μ2) => ws.length ≤ sizeLine ∧ Q (.d (f ds)) μ2
  | none => False
/-- a tuple; a list that is known to change no more -/
theorem de_tup {es : List Expr} {j} {ta : DTA} (ha : DA X b es ta) : DE X b (.Tuple es j pos) (dLet .tup ta) := by
  obtain ⟨ta', pa, qa⟩ := ha.ex
  refine ⟨_, pe_tup pa, fun {G m ρ μ σ H Q K} o r t k => ?_⟩
  refine qa o r t fun vs H1 G1 m1 ws μ1 l1 o1 r1 t1 => ?_
  split at t1
  · rename_i ds μ2 e
    obtain ⟨G2, l2, r2, p2⟩ := escs_ok o1.rel r1 e
    refine ⟨by rw [r1.len]; exact t1.1, fun p hp => ?_⟩
    have hg := (r2.new hp).1
    have l3 : Le G2 m1 (upd G2 p (.tup vs)) m1 := Le.know hg
    exact k _ _ _ m1 _ μ2 (l1.trans (l2.trans l3)) (o1.mono (l2.trans l3) (r2.know hp)) (.d (.tup upd_same (p2.mono l3.g))) t1.2
  · exact t1.elim
theorem de_lst {es : List Expr} {ta : DTA} (ha : DA X b es ta) : DE X b (.List es pos) (dLet .lst ta) := by
  obtain ⟨ta', pa, qa⟩ := ha.ex
  refine ⟨_, pe_lst pa, fun {G m ρ μ σ H Q K} o r t k => ?_⟩
  refine qa o r t fun vs H1 G1 m1 ws μ1 l1 o1 r1 t1 => ?_
  split at t1
  · rename_i ds μ2 e
    obtain ⟨G2, l2, r2, p2⟩ := escs_ok o1.rel r1 e
    refine ⟨by rw [r1.len]; exact t1.1, fun p hp => ?_⟩
    have hg := (r2.new hp).1
    have l3 : Le G2 m1 (upd G2 p (.lst vs)) m1 := Le.know hg
    exact k _ _ _ m1 _ μ2 (l1.trans (l2.trans l3)) (o1.mono (l2.trans l3) (r2.know hp)) (.d (.lst upd_same (p2.mono l3.g))) t1.2
  · exact t1.elim
/-- a list that may change -/
@[simp] def dLstM (ta : DTA) (ρ : R) (μ : M) (Q : W → M → Prop) : Prop := ta ρ μ fun ws μ1 => match escs μ1 ws with
  | some (ds, μ2) => ws.length ≤ sizeLine ∧ Q (.r μ2.length) (μ2 ++ [.lst ds])
  | none => False
theorem de_lstM {es : List Expr} {ta : DTA} (ha : DA X b es ta) : DE X b (.List es pos) (dLstM ta) := by
  obtain ⟨ta', pa, qa⟩ := ha.ex
  refine ⟨_, pe_lst pa, fun {G m ρ μ σ H Q K} o r t k => ?_⟩
  refine qa o r t fun vs H1 G1 m1 ws μ1 l1 o1 r1 t1 => ?_
  split at t1
  · rename_i ds μ2 e
    obtain ⟨G2, l2, r2, p2⟩ := escs_ok o1.rel r1 e
    refine ⟨by rw [r1.len]; exact t1.1, fun p hp => ?_⟩
    have l3 : Le G2 m1 G2 (m1 ++ [[p]]) := Le.cellNew
    exact k _ _ _ _ _ _ (l1.trans (l2.trans l3)) (o1.mono (l2.trans l3) (r2.cellNew (c := .lst ds) hp ⟨p, vs, rfl, upd_same, p2⟩)) (.r (as := []) (by rw [← r2.len]; simp)) t1.2
  · exact t1.elim
/-! ### operators over data -/
def Op2 (b : Bs) (r : R2) (f : D → D → (D → Prop) → Prop) : Prop :=
  ∀ {G : Hp} {m : Wd} {μ : M} {H : Hp} {v u : V} {x y : D} {q : D → Prop} {K : VK}, WOk b G m μ H → Now b.cA G H v x → Now b.cA G H u y → f x y q →
    (∀ v' H' G' z, Le G m G' m → WOk b G' m μ H' → Rep b.cA G' v' z → q z → K v' H') → r v u H K
@[simp] def dOp (f : D → D → (D → Prop) → Prop) (ta tb : DTE) (ρ : R) (μ : M) (Q : W → M → Prop) : Prop := ta ρ μ fun x μ1 => tb ρ μ1 fun y μ2 => match rs μ2 x, rs μ2 y with
  | some a, some c => f a c fun z => Q (.d z) μ2
  | _, _ => False
theorem dop_core {r : R2} {f : D → D → (D → Prop) → Prop} (hf : Op2 b r f) {G : Hp} {m : Wd} {ρ : R} {μ μ1 : M} {H1 H2 : Hp} {G1 G2 : Hp} {m1 m2 : Wd} {μ2 : M} {x y : V} {w1 w2 : W} {Q : W → M → Prop} {K : VK}
    (l1 : Le G m G1 m1) (l2 : Le G1 m1 G2 m2) (o2 : WOk b G2 m2 μ2 H2) (r1 : WRel b.cA G1 m1 x w1) (r2 : WRel b.cA G2 m2 y w2)
    (t : match rs μ2 w1, rs μ2 w2 with
      | some a, some c => f a c fun z => Q (.d z) μ2
      | _, _ => False)
    (k : ∀ v H' G' m' w μ', Le G m G' m' → WOk b G' m' μ' H' → WRel b.cA G' m' v w → Q w μ' → K v H') : r x y H2 K := by
  split at t
  · rename_i a c e1 e2
    refine hf o2 (rs_ok o2.rel (r1.mono l2) e1) (rs_ok o2.rel r2 e2) t fun v' H' G' z l o3 rp qz => ?_
    exact k v' H' G' m2 (.d z) μ2 (l1.trans (l2.trans l)) o3 (.d rp) qz
  · exact t.elim
theorem de_op {op : Operator} {r : R2} {f : D → D → (D → Prop) → Prop} {e1 e2 : Expr} {ta tb : DTE} (ho : OpR X (binaryOp op) r) (hf : Op2 b r f) (ha : DE X b e1 ta) (hb : DE X b e2 tb) : DE X b (.BinOp e1 op e2 pos) (dOp f ta tb) := by
  obtain ⟨ta', pa, qa⟩ := ha.ex
  obtain ⟨tb', pb, qb⟩ := hb.ex
  refine ⟨_, pe_op ho pa pb, fun {G m ρ μ σ H Q K} o r t k => ?_⟩
  refine qa o r t fun x H1 G1 m1 w1 μ1 l1 o1 r1 t1 => ?_
  refine qb o1 (r.mono l1) t1 fun y H2 G2 m2 w2 μ2 l2 o2 r2 t2 => ?_
  exact dop_core (ρ := ρ) (μ := μ) (μ1 := μ1) (H1 := H1) hf l1 l2 o2 r1 r2 t2 k
theorem de_cmp {op : CmpOp} {r : R2} {f : D → D → (D → Prop) → Prop} {e1 e2 : Expr} {ta tb : DTE} (ho : OpR X (compareOp op) r) (hf : Op2 b r f) (ha : DE X b e1 ta) (hb : DE X b e2 tb) (hm : behindInMarks op e2 = false) : DE X b (.Compare e1 [op] [e2] pos) (dOp f ta tb) := by
  obtain ⟨ta', pa, qa⟩ := ha.ex
  obtain ⟨tb', pb, qb⟩ := hb.ex
  refine ⟨_, pe_cmpR ho pa pb hm, fun {G m ρ μ σ H Q K} o r t k => ?_⟩
  refine qa o r t fun x H1 G1 m1 w1 μ1 l1 o1 r1 t1 => ?_
  refine qb o1 (r.mono l1) t1 fun y H2 G2 m2 w2 μ2 l2 o2 r2 t2 => ?_
  exact dop_core (ρ := ρ) (μ := μ) (μ1 := μ1) (H1 := H1) hf l1 l2 o2 r1 r2 t2 k
/-- a value that is True or False, as a test -/
@[simp] def dB (t : DTE) (ρ : R) (μ : M) (Q : Bool → M → Prop) : Prop := t ρ μ fun w μ1 => match w with
  | .d (.bl c) => Q c μ1
  | _ => False
theorem isBl {cA : Nat → Addr} {G : Hp} {m : Wd} {v : V} {c : Bool} (h : WRel cA G m v (.d (.bl c))) : v = .bl c := by
  cases h with
  | d h => cases h; rfl
theorem dt_val {e : Expr} {t : DTE} (h : DE X b e t) (he : ∀ whole, isTrue e X.env whole = (do let v ← whole; standAt e.pos; holding [v] (truthy v)) := by intro _; rfl) : DT X b e (dB t) := by
  obtain ⟨t', p, q⟩ := h.ex
  refine ⟨_, pt_val p he, fun {G m ρ μ σ H Q K} o r t k => ?_⟩
  refine q o r t fun x H1 G1 m1 w1 μ1 l1 o1 r1 t1 => ?_
  split at t1
  · rename_i c
    exact ⟨c, isBl r1, k c H1 G1 m1 μ1 l1 o1 t1⟩
  · exact t1.elim
theorem dt_cmp {op : CmpOp} {r : R2} {f : D → D → (D → Prop) → Prop} {e1 e2 : Expr} {ta tb : DTE} (ho : OpR X (compareOp op) r) (hf : Op2 b r f) (ha : DE X b e1 ta) (hb : DE X b e2 tb) (hm : behindInMarks op e2 = false) : DT X b (.Compare e1 [op] [e2] pos) (dB (dOp f ta tb)) := by
  obtain ⟨ta', pa, qa⟩ := ha.ex
  obtain ⟨tb', pb, qb⟩ := hb.ex
  refine ⟨_, pt_cmpR ho pa pb hm, fun {G m ρ μ σ H Q K} o r t k => ?_⟩
  refine qa o r t fun x H1 G1 m1 w1 μ1 l1 o1 r1 t1 => ?_
  refine qb o1 (r.mono l1) t1 fun y H2 G2 m2 w2 μ2 l2 o2 r2 t2 => ?_
  refine dop_core (ρ := ρ) (μ := μ) (μ1 := μ1) (H1 := H1) (Q := fun w μ1 => match w with
    | .d (.bl c) => Q c μ1
    | _ => False) hf l1 l2 o2 r1 r2 t2 fun v H' G' m' w μ' l o' r' q' => ?_
  split at q'
  · rename_i c
    exact ⟨c, isBl r', k c H' G' m' μ' l o' q'⟩
  · exact q'.elim
end
end DD
namespace DD
open PySem L2

section
variable {X : Cx} {b : Bs} {pos : Pos}
/-- a new object of data -/
theorem give_new {G : Hp} {m : Wd} {μ : M} {H : Hp} {q : D → Prop} {K : VK} {p : Addr} {o : HO} {d : D} (w : WOk b G m μ H) (hp : H p = none) (hd : ∀ G', Sub G G' → G' p = some o → Rep b.cA G' (.ref p) d) (hq : q d)
    (k : ∀ v' H' G' z, Le G m G' m → WOk b G' m μ H' → Rep b.cA G' v' z → q z → K v' H') : K (.ref p) (upd H p o) := by
  have hg := (w.rel.new hp).1
  have l : Le G m (upd G p o) m := Le.know hg
  exact k _ _ _ d l (w.mono l (w.rel.know hp)) (hd _ l.g upd_same) hq
theorem give_old {G : Hp} {m : Wd} {μ : M} {H : Hp} {q : D → Prop} {K : VK} {v : V} {d : D} (w : WOk b G m μ H) (hd : Rep b.cA G v d) (hq : q d)
    (k : ∀ v' H' G' z, Le G m G' m → WOk b G' m μ H' → Rep b.cA G' v' z → q z → K v' H') : K v H := k v H G d (Le.refl G m) w hd hq
/-! ### + -/
@[simp] def fAdd : D → D → (D → Prop) → Prop
  | .int i, .int j, q => q (.int (i + j))
  | .str s, .str t, q => s.length + t.length ≤ sizeLine ∧ q (.str (s ++ t))
  | .lst xs, .lst ys, q => xs.length + ys.length ≤ sizeLine ∧ q (.lst (xs ++ ys))
  | .tup xs, .tup ys, q => xs.length + ys.length ≤ sizeLine ∧ xs ≠ [] ∧ ys ≠ [] ∧ q (.tup (xs ++ ys))
  | _, _, _ => False
theorem de_add {e1 e2 : Expr} {ta tb : DTE} (ha : DE X b e1 ta) (hb : DE X b e2 tb) : DE X b (.BinOp e1 .Add e2 pos) (dOp fAdd ta tb) := by
  refine de_op ((op_add.or op_add_str).or (op_cat.or op_catA)) ?_ ha hb
  intro G m μ H v u x y q K w nx ny f k
  match x, y, nx, ny, f with
  | .int i, .int j, nx, ny, f => cases nx; cases ny; exact .inl (.inl ⟨i, j, rfl, rfl, give_old w (.int _) f k⟩)
  | .str s, .str t, nx, ny, f => cases nx; cases ny; exact .inl (.inr ⟨s, t, rfl, rfl, f.1, give_old w (.str _) f.2 k⟩)
  | .lst xs, .lst ys, nx, ny, f =>
    obtain ⟨p, vs, rfl, h1, r1⟩ := nx
    obtain ⟨p2, us, rfl, h2, r2⟩ := ny
    exact .inr (.inl ⟨p, p2, vs, us, rfl, rfl, h1, h2, by rw [r1.len, r2.len]; exact f.1, fun a ha => give_new w ha (fun G' s e => .lst e ((r1.app r2).mono s)) f.2 k⟩)
  | .tup xs, .tup ys, nx, ny, f =>
    obtain ⟨p, vs, rfl, h1, r1⟩ := nx
    obtain ⟨p2, us, rfl, h2, r2⟩ := ny
    refine .inr (.inr ⟨p, p2, vs, us, rfl, rfl, SqT.of h1, SqT.of h2, by rw [r1.len, r2.len]; exact f.1, fun e => ?_, fun _ e => ?_, fun _ _ a ha => give_new w ha (fun G' s e => .tup e ((r1.app r2).mono s)) f.2.2.2 k⟩)
    · subst e; cases r1; exact (f.2.1 rfl).elim
    · subst e; cases r2; exact (f.2.2.1 rfl).elim
/-! ### arithmetic -/
@[simp] def fI (C : Int → Int → Prop) (g : Int → Int → D) : D → D → (D → Prop) → Prop
  | .int i, .int j, q => C i j ∧ q (g i j)
  | _, _, _ => False
theorem op2_I {C C' : Int → Int → Prop} {g : Int → Int → V} {g' : Int → Int → D} (hC : ∀ i j, C' i j → C i j) (hg : ∀ (G : Hp) i j, Rep b.cA G (g i j) (g' i j)) : Op2 b (rI C g) (fI C' g') := by
  intro G m μ H v u x y q K w nx ny f k
  match x, y, nx, ny, f with
  | .int i, .int j, nx, ny, f => cases nx; cases ny; exact ⟨i, j, rfl, rfl, hC i j f.1, give_old w (hg G i j) f.2 k⟩
@[simp] def fI0 (g : Int → Int → D) : D → D → (D → Prop) → Prop
  | .int i, .int j, q => q (g i j)
  | _, _, _ => False
theorem op2_I0 {g : Int → Int → V} {g' : Int → Int → D} (hg : ∀ (G : Hp) i j, Rep b.cA G (g i j) (g' i j)) : Op2 b (rI0 g) (fI0 g') := by
  intro G m μ H v u x y q K w nx ny f k
  match x, y, nx, ny, f with
  | .int i, .int j, nx, ny, f => cases nx; cases ny; exact ⟨i, j, rfl, rfl, give_old w (hg G i j) f k⟩
variable {e1 e2 : Expr} {ta tb : DTE}
abbrev fSub := fI0 fun i j => .int (i - j)
abbrev fMul := fI CMul fun i j => .int (i * j)
abbrev fDiv := fI (fun _ j => 0 < j ∧ j < 1073741824) fun i j => .int (i / j)
abbrev fMod := fI (fun _ j => 0 < j) fun i j => .int (i % j)
abbrev fPow := fI CPow fun i j => .int (i ^ j.toNat)
theorem de_sub (ha : DE X b e1 ta) (hb : DE X b e2 tb) : DE X b (.BinOp e1 .Sub e2 pos) (dOp fSub ta tb) := de_op op_sub (op2_I0 fun _ _ _ => .int _) ha hb
theorem de_mul (ha : DE X b e1 ta) (hb : DE X b e2 tb) : DE X b (.BinOp e1 .Mult e2 pos) (dOp fMul ta tb) := de_op op_mul (op2_I (fun _ _ h => h) fun _ _ _ => .int _) ha hb
theorem de_fdiv (ha : DE X b e1 ta) (hb : DE X b e2 tb) : DE X b (.BinOp e1 .FloorDiv e2 pos) (dOp fDiv ta tb) := de_op op_fdiv (op2_I (fun _ _ h => h) fun _ _ _ => .int _) ha hb
theorem de_mod (ha : DE X b e1 ta) (hb : DE X b e2 tb) : DE X b (.BinOp e1 .Mod e2 pos) (dOp fMod ta tb) := de_op op_mod (op2_I (fun _ _ h => h) fun _ _ _ => .int _) ha hb
theorem de_pow (ha : DE X b e1 ta) (hb : DE X b e2 tb) : DE X b (.BinOp e1 .Pow e2 pos) (dOp fPow ta tb) := de_op op_pow (op2_I (fun _ _ h => h) fun _ _ _ => .int _) ha hb
@[simp] def dNeg (ta : DTE) (ρ : R) (μ : M) (Q : W → M → Prop) : Prop := ta ρ μ fun w μ1 => match w with
  | .d (.int i) => Q (.d (.int (-i))) μ1
  | _ => False
theorem isInt {cA : Nat → Addr} {G : Hp} {m : Wd} {v : V} {c : Int} (h : WRel cA G m v (.d (.int c))) : v = .int c := by
  cases h with
  | d h => cases h; rfl
theorem de_neg (ha : DE X b e1 ta) : DE X b (.UnaryOp .USub e1 pos) (dNeg ta) := by
  obtain ⟨ta', pa, qa⟩ := ha.ex
  refine ⟨_, pe_un un_neg pa, fun {G m ρ μ σ H Q K} o r t k => ?_⟩
  refine qa o r t fun v H1 G1 m1 w μ1 l1 o1 r1 t1 => ?_
  split at t1
  · rename_i i
    exact ⟨i, isInt r1, k _ H1 G1 m1 _ μ1 l1 o1 (.d (.int _)) t1⟩
  · exact t1.elim
/-! ### order of ints, of texts -/
@[simp] def fCmp (g : Int → Int → Bool) : D → D → (D → Prop) → Prop := fI0 fun i j => .bl (g i j)
abbrev fLt := fCmp fun i j => decide (i < j)
abbrev fLe := fCmp fun i j => decide (i ≤ j)
abbrev fGt := fCmp fun i j => decide (j < i)
abbrev fGe := fCmp fun i j => decide (j ≤ i)
theorem o2_lt : Op2 b (rI0 fun i j => .bl (decide (i < j))) fLt := op2_I0 fun _ _ _ => .bl _
theorem o2_le : Op2 b (rI0 fun i j => .bl (decide (i ≤ j))) fLe := op2_I0 fun _ _ _ => .bl _
theorem o2_gt : Op2 b (rI0 fun i j => .bl (decide (j < i))) fGt := op2_I0 fun _ _ _ => .bl _
theorem o2_ge : Op2 b (rI0 fun i j => .bl (decide (j ≤ i))) fGe := op2_I0 fun _ _ _ => .bl _
theorem de_lt (ha : DE X b e1 ta) (hb : DE X b e2 tb) : DE X b (.Compare e1 [.Lt] [e2] pos) (dOp fLt ta tb) := de_cmp op_lt o2_lt ha hb (nomark _)
theorem de_le (ha : DE X b e1 ta) (hb : DE X b e2 tb) : DE X b (.Compare e1 [.LtE] [e2] pos) (dOp fLe ta tb) := de_cmp op_le o2_le ha hb (nomark _)
theorem de_gt (ha : DE X b e1 ta) (hb : DE X b e2 tb) : DE X b (.Compare e1 [.Gt] [e2] pos) (dOp fGt ta tb) := de_cmp op_gt o2_gt ha hb (nomark _)
theorem de_ge (ha : DE X b e1 ta) (hb : DE X b e2 tb) : DE X b (.Compare e1 [.GtE] [e2] pos) (dOp fGe ta tb) := de_cmp op_ge o2_ge ha hb (nomark _)
theorem dt_lt (ha : DE X b e1 ta) (hb : DE X b e2 tb) : DT X b (.Compare e1 [.Lt] [e2] pos) (dB (dOp fLt ta tb)) := dt_cmp op_lt o2_lt ha hb (nomark _)
theorem dt_le (ha : DE X b e1 ta) (hb : DE X b e2 tb) : DT X b (.Compare e1 [.LtE] [e2] pos) (dB (dOp fLe ta tb)) := dt_cmp op_le o2_le ha hb (nomark _)
theorem dt_gt (ha : DE X b e1 ta) (hb : DE X b e2 tb) : DT X b (.Compare e1 [.Gt] [e2] pos) (dB (dOp fGt ta tb)) := dt_cmp op_gt o2_gt ha hb (nomark _)
theorem dt_ge (ha : DE X b e1 ta) (hb : DE X b e2 tb) : DT X b (.Compare e1 [.GtE] [e2] pos) (dB (dOp fGe ta tb)) := dt_cmp op_ge o2_ge ha hb (nomark _)
/-- a < b <= c of ints -/
@[simp] def dCh (g g' : Int → Int → Bool) (ta tb tc : DTE) (ρ : R) (μ : M) (Q : W → M → Prop) : Prop := ta ρ μ fun x μ1 => tb ρ μ1 fun y μ2 => match x, y with
  | .d (.int i), .d (.int j) => if g i j = true then tc ρ μ2 fun z μ3 => (match z with
      | .d (.int n) => Q (.d (.bl (g' j n))) μ3
      | _ => False) else Q (.d (.bl false)) μ2
  | _, _ => False
theorem dt_chain {op op' : CmpOp} {e3 : Expr} {tc : DTE} {g g' : Int → Int → Bool} (ho : OpR X (compareOp op) (rI0 fun i j => .bl (g i j))) (ho' : OpR X (compareOp op') (rI0 fun i j => .bl (g' i j))) (ha : DE X b e1 ta) (hb : DE X b e2 tb) (hc : DE X b e3 tc)
    (pt : ∀ {ta tb tc : TE}, PE X e1 ta → PE X e2 tb → PE X e3 tc → PT X (.Compare e1 [op, op'] [e2, e3] pos) (tTest (tChain (rI0 fun i j => .bl (g i j)) (rI0 fun i j => .bl (g' i j)) ta tb tc))) : DT X b (.Compare e1 [op, op'] [e2, e3] pos) (dB (dCh g g' ta tb tc)) := by
  obtain ⟨ta', pa, qa⟩ := ha.ex
  obtain ⟨tb', pb, qb⟩ := hb.ex
  obtain ⟨tc', pc, qc⟩ := hc.ex
  refine ⟨_, pt pa pb pc, fun {G m ρ μ σ H Q K} o r t k => ?_⟩
  refine qa o r t fun x H1 G1 m1 w1 μ1 l1 o1 r1 t1 => ?_
  refine qb o1 (r.mono l1) t1 fun y H2 G2 m2 w2 μ2 l2 o2 r2 t2 => ?_
  split at t2
  · rename_i i j
    refine ⟨i, j, isInt r1, isInt r2, g i j, rfl, ?_⟩
    split
    · rename_i e
      rw [if_pos e] at t2
      refine qc o2 ((r.mono l1).mono l2) t2 fun z H3 G3 m3 w3 μ3 l3 o3 r3 t3 => ?_
      split at t3
      · rename_i n
        exact ⟨j, n, isInt r2, isInt r3, _, rfl, k _ H3 G3 m3 μ3 (l1.trans (l2.trans l3)) o3 t3⟩
      · exact t3.elim
    · rename_i e
      rw [if_neg e] at t2
      exact ⟨_, rfl, k _ H2 G2 m2 μ2 (l1.trans l2) o2 t2⟩
  · exact t2.elim
end
end DD
namespace DD
open PySem L2

/-! ### == of data -/
mutual
def deq : D → D → Bool
  | .non, .non => true
  | .bl a, .bl b => a == b
  | .bl a, .int j => (if a then 1 else 0) == j
  | .int i, .bl b => i == (if b then 1 else 0)
  | .int i, .int j => i == j
  | .str x, .str y => x == y
  | .lst xs, .lst ys => deqs xs ys
  | .tup xs, .tup ys => deqs xs ys
  | .obj c _ xs, .obj c' _ ys => c == c' && deqs xs ys
  | _, _ => false
def deqs : List D → List D → Bool
  | [], [] => true
  | x :: xs, y :: ys => deq x y && deqs xs ys
  | [], _ :: _ => false
  | _ :: _, [] => false
end
mutual
def toP : D → Option PyData
  | .non => some .none
  | .bl b => some (.bool b)
  | .int i => some (.int i)
  | .str s => some (.str s)
  | .lst ds => (toPs ds).map .list
  | .tup ds => (toPs ds).map .tuple
  | _ => none
def toPs : List D → Option (List PyData)
  | [] => some []
  | d :: ds => (toP d).bind fun p => (toPs ds).map (p :: ·)
end
mutual
def okD : Nat → D → Bool
  | _, .non => true
  | _, .bl _ => true
  | _, .int _ => true
  | _, .str s => PyData.strOk s
  | 0, _ => false
  | n + 1, .lst ds => okDs n ds
  | n + 1, .tup ds => okDs n ds
  | _, _ => false
def okDs : Nat → List D → Bool
  | _, [] => true
  | n, d :: ds => okD n d && okDs n ds
end
theorem okDs_all (n : Nat) : ∀ ds : List D, okDs n ds = ds.all (okD n)
  | [] => by simp [okDs]
  | d :: ds => by simp [okDs, okDs_all n ds]

mutual
theorem okD_toP : ∀ (n : Nat) (d : D), okD n d = true → ∃ p, toP d = some p ∧ PyData.canLay0 p = true ∧ p.depth ≤ n
  | n, .non, h => ⟨_, rfl, rfl, Nat.zero_le _⟩
  | n, .bl b, h => ⟨_, rfl, rfl, Nat.zero_le _⟩
  | n, .int i, h => ⟨_, rfl, rfl, Nat.zero_le _⟩
  | n, .str s, h => ⟨_, rfl, by simpa [okD, PyData.canLay0] using h, Nat.zero_le _⟩
  | 0, .lst ds, h => by simp [okD] at h
  | 0, .tup ds, h => by simp [okD] at h
  | n, .obj c fs ds, h => by cases n <;> simp [okD] at h
  | n, .dic ks ds, h => by cases n <;> simp [okD] at h
  | n + 1, .lst ds, h => by
    obtain ⟨ps, e, c, l⟩ := okDs_toPs n ds (by simpa [okD] using h)
    exact ⟨_, by simp [toP, e]; rfl, by simpa [PyData.canLay0] using c, by simp [PyData.depth]; exact l⟩
  | n + 1, .tup ds, h => by
    obtain ⟨ps, e, c, l⟩ := okDs_toPs n ds (by simpa [okD] using h)
    exact ⟨_, by simp [toP, e]; rfl, by simpa [PyData.canLay0] using c, by simp [PyData.depth]; exact l⟩
theorem okDs_toPs : ∀ (n : Nat) (ds : List D), okDs n ds = true → ∃ ps, toPs ds = some ps ∧ PyData.canLayAll0 ps = true ∧ PyData.depthAll ps ≤ n
  | n, [], h => ⟨[], rfl, rfl, Nat.zero_le _⟩
  | n, d :: ds, h => by
    simp [okDs] at h
    obtain ⟨p, e, c, l⟩ := okD_toP n d h.1
    obtain ⟨ps, es, cs, ls⟩ := okDs_toPs n ds h.2
    exact ⟨p :: ps, by simp [toPs, e, es], by simp [PyData.canLayAll0, c, cs], by simp [PyData.depthAll]; omega⟩
end
mutual
theorem eqv_deq : ∀ (x y : D) (p r : PyData), toP x = some p → toP y = some r → PyData.eqv p r = deq x y
  | .non, y, p, r, h, k => by
    simp [toP] at h; subst h
    cases y <;> simp [toP] at k
    all_goals first | (subst k; rfl) | (obtain ⟨a, _, rfl⟩ := k; rfl)
  | .bl b, y, p, r, h, k => by
    simp [toP] at h; subst h
    cases y <;> simp [toP] at k
    all_goals first | (subst k; simp [PyData.eqv, deq]) | (obtain ⟨a, _, rfl⟩ := k; simp [PyData.eqv, deq])
  | .int i, y, p, r, h, k => by
    simp [toP] at h; subst h
    cases y <;> simp [toP] at k
    all_goals first | (subst k; simp [PyData.eqv, deq]) | (obtain ⟨a, _, rfl⟩ := k; simp [PyData.eqv, deq])
  | .str s, y, p, r, h, k => by
    simp [toP] at h; subst h
    cases y <;> simp [toP] at k
    all_goals first | (subst k; simp [PyData.eqv, deq]) | (obtain ⟨a, _, rfl⟩ := k; simp [PyData.eqv, deq])
  | .lst ds, y, p, r, h, k => by
    simp [toP] at h
    obtain ⟨ps, hp, rfl⟩ := h
    cases y with
    | lst es =>
      simp [toP] at k
      obtain ⟨rs, hr, rfl⟩ := k
      simp [PyData.eqv, deq, eqvs_deqs ds es ps rs hp hr]
    | _ => simp [toP] at k <;> first | (subst k; simp [PyData.eqv, deq]) | (obtain ⟨a, _, rfl⟩ := k; simp [PyData.eqv, deq])
  | .tup ds, y, p, r, h, k => by
    simp [toP] at h
    obtain ⟨ps, hp, rfl⟩ := h
    cases y with
    | tup es =>
      simp [toP] at k
      obtain ⟨rs, hr, rfl⟩ := k
      simp [PyData.eqv, deq, eqvs_deqs ds es ps rs hp hr]
    | _ => simp [toP] at k <;> first | (subst k; simp [PyData.eqv, deq]) | (obtain ⟨a, _, rfl⟩ := k; simp [PyData.eqv, deq])
  | .obj c fs ds, y, p, r, h, k => by simp [toP] at h
  | .dic ks ds, y, p, r, h, k => by simp [toP] at h
theorem eqvs_deqs : ∀ (xs ys : List D) (ps rs : List PyData), toPs xs = some ps → toPs ys = some rs → PyData.eqvAll ps rs = deqs xs ys
  | [], ys, ps, rs, h, k => by
    simp [toPs] at h; subst h
    cases ys with
    | nil => simp [toPs] at k; subst k; simp [PyData.eqvAll, deqs]
    | cons y ys =>
      simp [toPs, Option.bind_eq_some_iff] at k
      obtain ⟨a, _, c, _, rfl⟩ := k
      simp [PyData.eqvAll, deqs]
  | x :: xs, ys, ps, rs, h, k => by
    simp [toPs, Option.bind_eq_some_iff] at h
    obtain ⟨p, hp, qs, hq, rfl⟩ := h
    cases ys with
    | nil => simp [toPs] at k; subst k; simp [PyData.eqvAll, deqs]
    | cons y ys =>
      simp [toPs, Option.bind_eq_some_iff] at k
      obtain ⟨a, ha, c, hc, rfl⟩ := k
      simp [PyData.eqvAll, deqs, eqv_deq x y p a hp ha, eqvs_deqs xs ys qs c hq hc]
end
section
variable {K : PySem.W.Frag} {cA : Nat → Addr} {G H : Hp}
mutual
theorem Rep.dp (g : Sub G H) : ∀ {v : V} {d : D} {p : PyData}, Rep cA G v d → toP d = some p → Dp K H v p
  | _, _, _, .non, e => by cases e; exact .non
  | _, _, _, .bl b, e => by cases e; exact .bl b
  | _, _, _, .int i, e => by cases e; exact .int i
  | _, _, _, .str s, e => by cases e; exact .str s
  | _, _, _, .tup h r, e => by
    simp [toP] at e
    obtain ⟨ps, e, rfl⟩ := e
    exact .tup (SqT.of (g _ _ h)) (Reps.dps g r e)
  | _, _, _, .lst h r, e => by
    simp [toP] at e
    obtain ⟨ps, e, rfl⟩ := e
    exact .lst (SqL.of (g _ _ h)) (Reps.dps g r e)
  | _, _, _, .obj _ _ _, e => by simp [toP] at e
  | _, _, _, .dic _ _ _, e => by simp [toP] at e
theorem Reps.dps (g : Sub G H) : ∀ {vs : List V} {ds : List D} {ps : List PyData}, Reps cA G vs ds → toPs ds = some ps → DpAll K H vs ps
  | _, _, _, .nil, e => by cases e; exact .nil
  | _, _, _, .cons r rs, e => by
    simp [toPs, Option.bind_eq_some_iff] at e
    obtain ⟨p, h1, ps, h2, rfl⟩ := e
    exact .cons (Rep.dp g r h1) (Reps.dps g rs h2)
end
theorem Now.dp {v : V} {d : D} {p : PyData} (g : Sub G H) (n : Now cA G H v d) (e : toP d = some p) : Dp K H v p := by
  cases d with
  | non => cases n; cases e; exact .non
  | bl b => cases n; cases e; exact .bl b
  | int i => cases n; cases e; exact .int i
  | str s => cases n; cases e; exact .str s
  | tup ds =>
    obtain ⟨q, xs, rfl, h, r⟩ := n
    simp [toP] at e
    obtain ⟨ps, e, rfl⟩ := e
    exact .tup (SqT.of h) (r.dps g e)
  | lst ds =>
    obtain ⟨q, xs, rfl, h, r⟩ := n
    simp [toP] at e
    obtain ⟨ps, e, rfl⟩ := e
    exact .lst (SqL.of h) (r.dps g e)
  | obj c fs ds => simp [toP] at e
  | dic ks ds => simp [toP] at e
end
section
variable {X : Cx} {b : Bs} {pos : Pos} {e1 e2 : Expr} {ta tb : DTE}
def fEq (x y : D) (q : D → Prop) : Prop := okD 60 x = true ∧ okD 60 y = true ∧ q (.bl (deq x y))
def fNe (x y : D) (q : D → Prop) : Prop := okD 60 x = true ∧ okD 60 y = true ∧ q (.bl (!deq x y))
theorem shaped_ok {p : PyData} (c : PyData.canLay0 p = true) (l : p.depth ≤ 60) : SeqAt.shaped p = true := by
  unfold SeqAt.shaped
  rw [c, decide_eq_true (by omega)]
  rfl
theorem o2_eq {K : PySem.W.Frag} : Op2 b (rEqD K) fEq := by
  intro G m μ H v u x y q Kq w nx ny f k
  obtain ⟨o1, o2, f⟩ := f
  obtain ⟨p, e1, c1, l1⟩ := okD_toP _ _ o1
  obtain ⟨r, e2, c2, l2⟩ := okD_toP _ _ o2
  refine ⟨p, r, nx.dp w.rel.gh e1, ny.dp w.rel.gh e2, shaped_ok c1 l1, shaped_ok c2 l2, ?_⟩
  rw [eqv_deq x y p r e1 e2]
  exact give_old w (.bl _) f k
theorem o2_ne {K : PySem.W.Frag} : Op2 b (rNeD K) fNe := by
  intro G m μ H v u x y q Kq w nx ny f k
  obtain ⟨o1, o2, f⟩ := f
  obtain ⟨p, e1, c1, l1⟩ := okD_toP _ _ o1
  obtain ⟨r, e2, c2, l2⟩ := okD_toP _ _ o2
  refine ⟨p, r, nx.dp w.rel.gh e1, ny.dp w.rel.gh e2, shaped_ok c1 l1, shaped_ok c2 l2, ?_⟩
  rw [eqv_deq x y p r e1 e2]
  exact give_old w (.bl _) f k
theorem de_eq (hu : X.A.units + 64 < cLine) (ha : DE X b e1 ta) (hb : DE X b e2 tb) : DE X b (.Compare e1 [.Eq] [e2] pos) (dOp fEq ta tb) := de_cmp (op_eqD hu) o2_eq ha hb (nomark _)
theorem de_ne (hu : X.A.units + 64 < cLine) (ha : DE X b e1 ta) (hb : DE X b e2 tb) : DE X b (.Compare e1 [.NotEq] [e2] pos) (dOp fNe ta tb) := de_cmp (op_neD hu) o2_ne ha hb (nomark _)
theorem dt_eq (hu : X.A.units + 64 < cLine) (ha : DE X b e1 ta) (hb : DE X b e2 tb) : DT X b (.Compare e1 [.Eq] [e2] pos) (dB (dOp fEq ta tb)) := dt_cmp (op_eqD hu) o2_eq ha hb (nomark _)
theorem dt_ne (hu : X.A.units + 64 < cLine) (ha : DE X b e1 ta) (hb : DE X b e2 tb) : DT X b (.Compare e1 [.NotEq] [e2] pos) (dB (dOp fNe ta tb)) := dt_cmp (op_neD hu) o2_ne ha hb (nomark _)
/-! ### is None -/
def D.isNon : D → Bool
  | .non => true
  | _ => false
def fIsN (x y : D) (q : D → Prop) : Prop := match y with
  | .non => q (.bl x.isNon)
  | _ => False
def fNotN (x y : D) (q : D → Prop) : Prop := match y with
  | .non => q (.bl (!x.isNon))
  | _ => False
theorem now_non {cA : Nat → Addr} {G H : Hp} {v : V} {x : D} (n : Now cA G H v x) : decide (v = .non) = x.isNon := by
  cases x with
  | non => cases n; rfl
  | bl b => cases n; rfl
  | int i => cases n; rfl
  | str s => cases n; rfl
  | tup ds => obtain ⟨p, xs, rfl, _⟩ := n; rfl
  | lst ds => obtain ⟨p, xs, rfl, _⟩ := n; rfl
  | obj c fs ds => obtain ⟨p, dx, xs, rfl, _⟩ := n; rfl
  | dic ks ds => obtain ⟨p, xs, rfl, _⟩ := n; rfl
theorem o2_isN : Op2 b (fun x y H Q => y = .non ∧ Q (.bl (decide (x = .non))) H) fIsN := by
  intro G m μ H v u x y q Kq w nx ny f k
  match y, ny, f with
  | .non, ny, f =>
    cases ny
    refine ⟨rfl, ?_⟩
    rw [now_non nx]
    exact give_old w (.bl _) f k
theorem o2_notN : Op2 b (fun x y H Q => y = .non ∧ Q (.bl (!decide (x = .non))) H) fNotN := by
  intro G m μ H v u x y q Kq w nx ny f k
  match y, ny, f with
  | .non, ny, f =>
    cases ny
    refine ⟨rfl, ?_⟩
    rw [now_non nx]
    exact give_old w (.bl _) f k
theorem de_isN (ha : DE X b e1 ta) (hb : DE X b e2 tb) : DE X b (.Compare e1 [.Is] [e2] pos) (dOp fIsN ta tb) := de_cmp op_isN o2_isN ha hb (nomark _)
theorem de_notN (ha : DE X b e1 ta) (hb : DE X b e2 tb) : DE X b (.Compare e1 [.IsNot] [e2] pos) (dOp fNotN ta tb) := de_cmp op_notN o2_notN ha hb (nomark _)
theorem dt_isN (ha : DE X b e1 ta) (hb : DE X b e2 tb) : DT X b (.Compare e1 [.Is] [e2] pos) (dB (dOp fIsN ta tb)) := dt_cmp op_isN o2_isN ha hb (nomark _)
theorem dt_notN (ha : DE X b e1 ta) (hb : DE X b e2 tb) : DT X b (.Compare e1 [.IsNot] [e2] pos) (dB (dOp fNotN ta tb)) := dt_cmp op_notN o2_notN ha hb (nomark _)
end
end DD
namespace DD
open PySem L2

section
variable {X : Cx} {b : Bs} {pos : Pos} {e1 e2 e3 : Expr} {ta tb tc : DTE} {tt tu : DTT} {rest : List Expr}
/-! ### and, or, not, if -/
@[simp] def dAnd (t u : DTT) (ρ : R) (μ : M) (Q : Bool → M → Prop) : Prop := t ρ μ fun c μ1 => if c = true then u ρ μ1 Q else Q false μ1
@[simp] def dOr (t u : DTT) (ρ : R) (μ : M) (Q : Bool → M → Prop) : Prop := t ρ μ fun c μ1 => if c = true then Q true μ1 else u ρ μ1 Q
@[simp] def dNot (t : DTT) (ρ : R) (μ : M) (Q : Bool → M → Prop) : Prop := t ρ μ fun c μ1 => Q (!c) μ1
theorem dw_and1 (ha : DT X b e1 tt) : DPW X b (.BoolOp .And [e1] pos) tt := by
  obtain ⟨t', p, q⟩ := ha.ex
  exact ⟨_, pw_and1 p, q⟩
theorem dw_or1 (ha : DT X b e1 tt) : DPW X b (.BoolOp .Or [e1] pos) tt := by
  obtain ⟨t', p, q⟩ := ha.ex
  exact ⟨_, pw_or1 p, q⟩
theorem dw_and (ha : DT X b e1 tt) (hb : DPW X b (.BoolOp .And (e2 :: rest) pos) tu) : DPW X b (.BoolOp .And (e1 :: e2 :: rest) pos) (dAnd tt tu) := by
  obtain ⟨t', p, q⟩ := ha.ex
  obtain ⟨u', p', q'⟩ := hb.ex
  refine ⟨_, pw_and p p', fun {G m ρ μ σ H Q K} o r t k => ?_⟩
  refine q o r t fun c H1 G1 m1 μ1 l1 o1 t1 => ?_
  cases c with
  | true => exact q' o1 (r.mono l1) t1 fun c H2 G2 m2 μ2 l2 o2 t2 => k c H2 G2 m2 μ2 (l1.trans l2) o2 t2
  | false => exact k false H1 G1 m1 μ1 l1 o1 t1
theorem dw_or (ha : DT X b e1 tt) (hb : DPW X b (.BoolOp .Or (e2 :: rest) pos) tu) : DPW X b (.BoolOp .Or (e1 :: e2 :: rest) pos) (dOr tt tu) := by
  obtain ⟨t', p, q⟩ := ha.ex
  obtain ⟨u', p', q'⟩ := hb.ex
  refine ⟨_, pw_or p p', fun {G m ρ μ σ H Q K} o r t k => ?_⟩
  refine q o r t fun c H1 G1 m1 μ1 l1 o1 t1 => ?_
  cases c with
  | false => exact q' o1 (r.mono l1) t1 fun c H2 G2 m2 μ2 l2 o2 t2 => k c H2 G2 m2 μ2 (l1.trans l2) o2 t2
  | true => exact k true H1 G1 m1 μ1 l1 o1 t1
theorem DPW.dt (h : DPW X b e1 tt) : DT X b e1 tt := by
  obtain ⟨t', p, q⟩ := h.ex
  exact ⟨_, p.pt, q⟩
theorem dt_not (ha : DT X b e1 tt) : DT X b (.UnaryOp .Not e1 pos) (dNot tt) := by
  obtain ⟨t', p, q⟩ := ha.ex
  exact ⟨_, pt_not p, fun {G m ρ μ σ H Q K} o r t k => q o r t fun c H1 G1 m1 μ1 l1 o1 t1 => k (!c) H1 G1 m1 μ1 l1 o1 t1⟩
@[simp] def dIf (t : DTT) (ta tb : DTE) (ρ : R) (μ : M) (Q : W → M → Prop) : Prop := t ρ μ fun c μ1 => if c = true then ta ρ μ1 Q else tb ρ μ1 Q
theorem de_ifx (hc : DT X b e1 tt) (ha : DE X b e2 ta) (hb : DE X b e3 tb) : DE X b (.IfExp e1 e2 e3 pos) (dIf tt ta tb) := by
  obtain ⟨t', p, q⟩ := hc.ex
  obtain ⟨ta', pa, qa⟩ := ha.ex
  obtain ⟨tb', pb, qb⟩ := hb.ex
  refine ⟨_, pe_ifExp p pa pb, fun {G m ρ μ σ H Q K} o r t k => ?_⟩
  refine q o r t fun c H1 G1 m1 μ1 l1 o1 t1 => ?_
  cases c with
  | true => exact qa o1 (r.mono l1) t1 fun v H2 G2 m2 w μ2 l2 o2 r2 t2 => k v H2 G2 m2 w μ2 (l1.trans l2) o2 r2 t2
  | false => exact qb o1 (r.mono l1) t1 fun v H2 G2 m2 w μ2 l2 o2 r2 t2 => k v H2 G2 m2 w μ2 (l1.trans l2) o2 r2 t2
/-- as values -/
@[simp] def dAndV (t : DTE) (u : DTE) (ρ : R) (μ : M) (Q : W → M → Prop) : Prop := t ρ μ fun w μ1 => match w with
  | .d (.bl true) => u ρ μ1 Q
  | .d (.bl false) => Q (.d (.bl false)) μ1
  | _ => False
@[simp] def dOrV (t : DTE) (u : DTE) (ρ : R) (μ : M) (Q : W → M → Prop) : Prop := t ρ μ fun w μ1 => match w with
  | .d (.bl false) => u ρ μ1 Q
  | .d (.bl true) => Q (.d (.bl true)) μ1
  | _ => False
@[simp] def dNotV (t : DTE) (ρ : R) (μ : M) (Q : W → M → Prop) : Prop := t ρ μ fun w μ1 => match w with
  | .d (.bl c) => Q (.d (.bl (!c))) μ1
  | _ => False
theorem de_one {op} (ha : DE X b e1 ta) : DE X b (.BoolOp op [e1] pos) ta := by
  obtain ⟨t', p, q⟩ := ha.ex
  exact ⟨_, pe_one p, q⟩
theorem de_and (ha : DE X b e1 ta) (hb : DE X b (.BoolOp .And (e2 :: rest) pos) tb) : DE X b (.BoolOp .And (e1 :: e2 :: rest) pos) (dAndV ta tb) := by
  obtain ⟨t', p, q⟩ := ha.ex
  obtain ⟨u', p', q'⟩ := hb.ex
  refine ⟨_, pe_and p p', fun {G m ρ μ σ H Q K} o r t k => ?_⟩
  refine q o r t fun v H1 G1 m1 w μ1 l1 o1 r1 t1 => ?_
  split at t1
  · exact ⟨true, isBl r1, q' o1 (r.mono l1) t1 fun v H2 G2 m2 w μ2 l2 o2 r2 t2 => k v H2 G2 m2 w μ2 (l1.trans l2) o2 r2 t2⟩
  · exact ⟨false, isBl r1, k _ H1 G1 m1 _ μ1 l1 o1 (.d (.bl _)) t1⟩
  · exact t1.elim
theorem de_or (ha : DE X b e1 ta) (hb : DE X b (.BoolOp .Or (e2 :: rest) pos) tb) : DE X b (.BoolOp .Or (e1 :: e2 :: rest) pos) (dOrV ta tb) := by
  obtain ⟨t', p, q⟩ := ha.ex
  obtain ⟨u', p', q'⟩ := hb.ex
  refine ⟨_, pe_or p p', fun {G m ρ μ σ H Q K} o r t k => ?_⟩
  refine q o r t fun v H1 G1 m1 w μ1 l1 o1 r1 t1 => ?_
  split at t1
  · exact ⟨false, isBl r1, q' o1 (r.mono l1) t1 fun v H2 G2 m2 w μ2 l2 o2 r2 t2 => k v H2 G2 m2 w μ2 (l1.trans l2) o2 r2 t2⟩
  · exact ⟨true, isBl r1, k _ H1 G1 m1 _ μ1 l1 o1 (.d (.bl _)) t1⟩
  · exact t1.elim
theorem de_not (ha : DE X b e1 ta) : DE X b (.UnaryOp .Not e1 pos) (dNotV ta) := by
  obtain ⟨t', p, q⟩ := ha.ex
  refine ⟨_, pe_not p, fun {G m ρ μ σ H Q K} o r t k => ?_⟩
  refine q o r t fun v H1 G1 m1 w μ1 l1 o1 r1 t1 => ?_
  split at t1
  · exact ⟨_, isBl r1, k _ H1 G1 m1 _ μ1 l1 o1 (.d (.bl _)) t1⟩
  · exact t1.elim
/-! ### an item -/
theorem reps_atI {cA : Nat → Addr} {G : Hp} {vs : List V} {ds : List D} {i : Int} {d : D} (r : Reps cA G vs ds) (h : atI ds i = some d) : ∃ v, atI vs i = some v ∧ Rep cA G v d := by
  unfold atI at h ⊢
  rw [r.len]
  cases e : ixN ds.length i with
  | none => rw [e] at h; cases h
  | some j =>
    rw [e] at h
    obtain ⟨v, h1, h2⟩ := r.get' (i := j) h
    exact ⟨v, h1, h2⟩
@[simp] def fIx : D → D → (D → Prop) → Prop
  | .lst ds, .int i, q => match atI ds i with
    | some d => q d
    | none => False
  | .tup ds, .int i, q => match atI ds i with
    | some d => q d
    | none => False
  | .str s, .int i, q => s.length ≤ sizeLine ∧ match atI s.cps.toList i with
    | some c => q (.str ⟨#[c]⟩)
    | none => False
  | _, _, _ => False
theorem o2_ix {K : PySem.W.Frag} : Op2 b (rIx K) fIx := by
  intro G m μ H v u x y q Kq w nx ny f k
  match x, y, nx, ny, f with
  | .lst ds, .int i, nx, ny, f =>
    obtain ⟨p, xs, rfl, h, r⟩ := nx
    cases ny
    simp only [fIx] at f
    split at f
    · rename_i d e
      obtain ⟨z, e2, r2⟩ := reps_atI r e
      exact .inl ⟨p, xs, i, z, rfl, rfl, SqL.of h, e2, give_old w r2 f k⟩
    · exact f.elim
  | .tup ds, .int i, nx, ny, f =>
    obtain ⟨p, xs, rfl, h, r⟩ := nx
    cases ny
    simp only [fIx] at f
    split at f
    · rename_i d e
      obtain ⟨z, e2, r2⟩ := reps_atI r e
      exact .inr (.inl ⟨p, xs, i, z, rfl, rfl, SqT.of h, e2, give_old w r2 f k⟩)
    · exact f.elim
  | .str s, .int i, nx, ny, f =>
    cases nx
    cases ny
    simp only [fIx] at f
    obtain ⟨f1, f⟩ := f
    split at f
    · rename_i d e
      exact .inr (.inr ⟨s, i, d, rfl, rfl, f1, e, give_old w (.str _) f k⟩)
    · exact f.elim
theorem de_ix (ha : DE X b e1 ta) (hb : DE X b e2 tb) (hs : PlainIx e2 := by exact fun _ _ => rfl) : DE X b (.Subscript e1 e2 pos) (dOp fIx ta tb) := by
  obtain ⟨ta', pa, qa⟩ := ha.ex
  obtain ⟨tb', pb, qb⟩ := hb.ex
  refine ⟨_, pe_ix ix_seq pa pb hs, fun {G m ρ μ σ H Q K} o r t k => ?_⟩
  refine qa o r t fun x H1 G1 m1 w1 μ1 l1 o1 r1 t1 => ?_
  refine qb o1 (r.mono l1) t1 fun y H2 G2 m2 w2 μ2 l2 o2 r2 t2 => ?_
  exact dop_core (ρ := ρ) (μ := μ) (μ1 := μ1) (H1 := H1) o2_ix l1 l2 o2 r1 r2 t2 k
/-! ### in, not in -/
def flatD : D → Bool
  | .non => true
  | .bl _ => true
  | .int _ => true
  | .str _ => true
  | _ => false
theorem rep_flat {cA : Nat → Addr} {G : Hp} {v : V} {d : D} (r : Rep cA G v d) (f : flatD d = true) : flatV v = true := by
  cases r <;> first | rfl | cases f
theorem eqV_deq {cA : Nat → Addr} {G G' : Hp} {v u : V} {d e : D} (r : Rep cA G v d) (r' : Rep cA G' u e) (f : flatD d = true) (f' : flatD e = true) : eqV v u = deq d e := by
  cases r <;> first | (cases f; done) | (cases r' <;> first | (cases f'; done) | simp [eqV, deq])
theorem reps_in {cA : Nat → Addr} {G G' : Hp} {u : V} {e : D} (r' : Rep cA G' u e) (f' : flatD e = true) : ∀ {vs : List V} {ds : List D}, Reps cA G vs ds → ds.all flatD = true → inV u vs = (ds.any fun d => deq d e) ∧ vs.all flatV = true
  | _, _, .nil, _ => ⟨rfl, rfl⟩
  | _, _, .cons r rs, h => by
    simp only [List.all_cons, Bool.and_eq_true] at h
    obtain ⟨i1, i2⟩ := reps_in r' f' rs h.2
    refine ⟨?_, by simp [rep_flat r h.1, i2]⟩
    unfold inV at i1 ⊢
    rw [List.any_cons, List.any_cons, i1, eqV_deq r r' h.1 f']
theorem now_flat {cA : Nat → Addr} {G H : Hp} {v : V} {x : D} (n : Now cA G H v x) (f : flatD x = true) : Rep cA G v x := by
  cases x with
  | non => cases n; exact .non
  | bl b => cases n; exact .bl b
  | int i => cases n; exact .int i
  | str s => cases n; exact .str s
  | _ => cases f
def fIn (neg : Bool) : D → D → (D → Prop) → Prop
  | x, .lst ds, q => okD 60 x = true ∧ okDs 59 ds = true ∧ q (.bl (if neg then !(ds.any fun d => deq d x) else ds.any fun d => deq d x))
  | x, .tup ds, q => flatD x = true ∧ ds.all flatD = true ∧ q (.bl (if neg then !(ds.any fun d => deq d x) else ds.any fun d => deq d x))
  | .str s, .str t, q => q (.bl (if neg then !(!(Builtin.Str.occurrences t s 0 t.length 1).isEmpty) else !(Builtin.Str.occurrences t s 0 t.length 1).isEmpty))
  | _, _, _ => False
theorem any_eqv : ∀ (ds : List D) (ps : List PyData) (x : D) (p : PyData), toPs ds = some ps → toP x = some p → (ps.any fun z => PyData.eqv z p) = ds.any fun d => deq d x
  | [], ps, x, p, h, _ => by simp [toPs] at h; subst h; rfl
  | d :: ds, ps, x, p, h, hx => by
    simp [toPs, Option.bind_eq_some_iff] at h
    obtain ⟨a, h1, c, h2, rfl⟩ := h
    rw [List.any_cons, List.any_cons, any_eqv ds c x p h2 hx, eqv_deq d x a p h1 hx]
theorem o2_in {K : PySem.W.Frag} : Op2 b (fun x y H Q => (rInD K x y H Q ∨ rIn K false x y H Q) ∨ ∃ i j, x = .str i ∧ y = .str j ∧ Q (.bl (!(Builtin.Str.occurrences j i 0 j.length 1).isEmpty)) H) (fIn false) := by
  intro G m μ H v u x y q Kq w nx ny f k
  cases y with
  | lst ds =>
    obtain ⟨o1, o2, f⟩ : okD 60 x = true ∧ okDs 59 ds = true ∧ q (.bl (ds.any fun d => deq d x)) := by cases x <;> exact f
    obtain ⟨p, e1, c1, l1⟩ := okD_toP _ _ o1
    obtain ⟨ps, e2, c2, l2⟩ := okDs_toPs _ _ o2
    have e3 : toP (.lst ds) = some (.list ps) := by simp [toP, e2]
    refine .inl (.inl ⟨p, ps, nx.dp w.rel.gh e1, Now.dp w.rel.gh ny e3, shaped_ok c1 l1, shaped_ok c2 (by simp [PyData.depth]; omega), ?_⟩)
    rw [any_eqv ds ps x p e2 e1]
    exact give_old w (.bl _) f k
  | tup ds =>
    obtain ⟨o1, o2, f⟩ : flatD x = true ∧ ds.all flatD = true ∧ q (.bl (ds.any fun d => deq d x)) := by cases x <;> exact f
    obtain ⟨p, xs, rfl, h, r⟩ := ny
    obtain ⟨i1, i2⟩ := reps_in (now_flat nx o1) o1 r o2
    refine .inl (.inr ⟨p, xs, rfl, .inr (SqT.of h), rep_flat (now_flat nx o1) o1, i2, ?_⟩)
    rw [if_neg Bool.false_ne_true, i1]
    exact give_old w (.bl _) f k
  | str t =>
    cases x with
    | str s => cases nx; cases ny; exact .inr ⟨s, t, rfl, rfl, give_old w (.bl _) f k⟩
    | _ => exact f.elim
  | _ => cases x <;> exact f.elim
theorem o2_notIn {K : PySem.W.Frag} : Op2 b (fun x y H Q => (rNotInD K x y H Q ∨ rIn K true x y H Q) ∨ ∃ i j, x = .str i ∧ y = .str j ∧ Q (.bl (!(!(Builtin.Str.occurrences j i 0 j.length 1).isEmpty))) H) (fIn true) := by
  intro G m μ H v u x y q Kq w nx ny f k
  cases y with
  | lst ds =>
    obtain ⟨o1, o2, f⟩ : okD 60 x = true ∧ okDs 59 ds = true ∧ q (.bl (!ds.any fun d => deq d x)) := by cases x <;> exact f
    obtain ⟨p, e1, c1, l1⟩ := okD_toP _ _ o1
    obtain ⟨ps, e2, c2, l2⟩ := okDs_toPs _ _ o2
    have e3 : toP (.lst ds) = some (.list ps) := by simp [toP, e2]
    refine .inl (.inl ⟨p, ps, nx.dp w.rel.gh e1, Now.dp w.rel.gh ny e3, shaped_ok c1 l1, shaped_ok c2 (by simp [PyData.depth]; omega), ?_⟩)
    rw [any_eqv ds ps x p e2 e1]
    exact give_old w (.bl _) f k
  | tup ds =>
    obtain ⟨o1, o2, f⟩ : flatD x = true ∧ ds.all flatD = true ∧ q (.bl (!ds.any fun d => deq d x)) := by cases x <;> exact f
    obtain ⟨p, xs, rfl, h, r⟩ := ny
    obtain ⟨i1, i2⟩ := reps_in (now_flat nx o1) o1 r o2
    refine .inl (.inr ⟨p, xs, rfl, .inr (SqT.of h), rep_flat (now_flat nx o1) o1, i2, ?_⟩)
    rw [if_pos rfl, i1]
    exact give_old w (.bl _) f k
  | str t =>
    cases x with
    | str s => cases nx; cases ny; exact .inr ⟨s, t, rfl, rfl, give_old w (.bl _) f k⟩
    | _ => exact f.elim
  | _ => cases x <;> exact f.elim
theorem de_in (hu : X.A.units + 65 < cLine) (ha : DE X b e1 ta) (hb : DE X b e2 tb) (hm : behindInMarks .In e2 = false) : DE X b (.Compare e1 [.In] [e2] pos) (dOp (fIn false) ta tb) := de_cmp (((op_inD hu).or op_in_seq).or op_in_str) o2_in ha hb hm
theorem de_notIn (hu : X.A.units + 65 < cLine) (ha : DE X b e1 ta) (hb : DE X b e2 tb) (hm : behindInMarks .NotIn e2 = false) : DE X b (.Compare e1 [.NotIn] [e2] pos) (dOp (fIn true) ta tb) := de_cmp (((op_notInD hu).or op_notIn_seq).or op_notin_str) o2_notIn ha hb hm
theorem dt_in (hu : X.A.units + 65 < cLine) (ha : DE X b e1 ta) (hb : DE X b e2 tb) (hm : behindInMarks .In e2 = false) : DT X b (.Compare e1 [.In] [e2] pos) (dB (dOp (fIn false) ta tb)) := dt_cmp (((op_inD hu).or op_in_seq).or op_in_str) o2_in ha hb hm
theorem dt_notIn (hu : X.A.units + 65 < cLine) (ha : DE X b e1 ta) (hb : DE X b e2 tb) (hm : behindInMarks .NotIn e2 = false) : DT X b (.Compare e1 [.NotIn] [e2] pos) (dB (dOp (fIn true) ta tb)) := dt_cmp (((op_notInD hu).or op_notIn_seq).or op_notin_str) o2_notIn ha hb hm
/-! ### a field -/
/-- the fields' values by name -/
@[simp] def lookW (fs : List Str) (ws : List W) (f : Str) : Option W := (fs.zip ws).lookup f
structure CF (K : PySem.W.Frag) (cA : Nat → Addr) (fl : Nat → List Str) : Prop where
  cl : ∀ c, fl c ≠ [] → Cls K (cA c)
  no : ∀ c f, f ∈ fl c → NoAttr K (cA c) f
theorem wrels_look {cA : Nat → Addr} {G : Hp} {m : Wd} {f : Str} {w : W} : ∀ {fs : List Str} {xs : List V} {ws : List W}, WRels cA G m xs ws → (fs.zip ws).lookup f = some w → ∃ v, (fs.zip xs).lookup f = some v ∧ WRel cA G m v w
  | [], _, _, _, h => by simp at h
  | a :: fs, _, _, .nil, h => by simp at h
  | a :: fs, _, _, .cons r rs, h => by
    rw [List.zip_cons_cons, List.lookup_cons] at h ⊢
    cases e : f == a with
    | true => rw [e] at h; cases h; exact ⟨_, rfl, r⟩
    | false => rw [e] at h; exact wrels_look rs h
theorem reps_wrels {cA : Nat → Addr} {G : Hp} {m : Wd} : ∀ {xs : List V} {ds : List D}, Reps cA G xs ds → WRels cA G m xs (ds.map .d)
  | _, _, .nil => .nil
  | _, _, .cons r rs => .cons (.d r) (reps_wrels rs)
/-- what an instance is -/
@[simp] def insOf (μ : M) : W → Option (Nat × List Str × List W)
  | .d (.obj c fs ds) => some (c, fs, ds.map .d)
  | .r n => match μ[n]? with
    | some (.ins c fs ws) => some (c, fs, ws)
    | some (.frz (.obj c fs ds)) => some (c, fs, ds.map .d)
    | _ => none
  | _ => none
theorem insOf_ok {cA : Nat → Addr} {U G H : Hp} {m : Wd} {μ : M} {v : V} {w : W} {c : Nat} {fs : List Str} {ws : List W} (r : RelM cA U G m μ H) (q : WRel cA G m v w) (h : insOf μ w = some (c, fs, ws)) :
    ∃ p dx xs, v = .ref p ∧ H p = some (.ins (cA c) dx (fs.zip xs)) ∧ fs.length = xs.length ∧ WRels cA G m xs ws := by
  have ofRep : ∀ {v : V} {fs ds}, Rep cA G v (.obj c fs ds) → ∃ p dx xs, v = .ref p ∧ H p = some (.ins (cA c) dx (fs.zip xs)) ∧ fs.length = xs.length ∧ WRels cA G m xs (ds.map .d) := fun q => by
    obtain ⟨p, dx, xs, e1, e2, e3, e4⟩ := q.now r.gh
    exact ⟨p, dx, xs, e1, e2, e3, reps_wrels e4⟩
  cases q with
  | @d _ d q =>
    cases d with
    | obj c' fs' ds => simp [insOf] at h; obtain ⟨rfl, rfl, rfl⟩ := h; exact ofRep q
    | _ => simp [insOf] at h
  | @r n p as e =>
    obtain ⟨x, hc⟩ := lt_of_rel r e
    have k := r.cell n x _ hc e
    simp only [insOf, hc] at h
    cases x with
    | ins c' fs' ws' => cases h; obtain ⟨p', dx, xs, e1, e2, e3, e4⟩ := k; cases e1; exact ⟨p, dx, xs, rfl, e2, e3, e4⟩
    | frz d =>
      cases d with
      | obj c' fs' ds => cases h; obtain ⟨p', e1, e2⟩ := k; cases e1; exact ofRep e2
      | _ => cases h
    | _ => cases h
@[simp] def dFld (fl : Nat → List Str) (f : Str) (ta : DTE) (ρ : R) (μ : M) (Q : W → M → Prop) : Prop := ta ρ μ fun w μ1 => match insOf μ1 w with
  | some (c, fs, ws) => f ∈ fl c ∧ match lookW fs ws f with
    | some z => Q z μ1
    | none => False
  | none => False
theorem de_fld {fl : Nat → List Str} {f : Str} (cf : CF X.K b.cA fl) (ha : DE X b e1 ta) (hb : attributeBase e1 f X.env (eval e1 X.env) = eval e1 X.env := by rfl) : DE X b (.Attribute e1 f pos) (dFld fl f ta) := by
  obtain ⟨ta', pa, qa⟩ := ha.ex
  refine ⟨_, pe_fld pa hb, fun {G m ρ μ σ H Q K} o r t k => ?_⟩
  refine qa o r t fun v H1 G1 m1 w μ1 l1 o1 r1 t1 => ?_
  split at t1
  · rename_i c fs ws e
    obtain ⟨hf, t1⟩ := t1
    split at t1
    · rename_i z ez
      obtain ⟨p, dx, xs, rfl, e2, e3, e4⟩ := insOf_ok o1.rel r1 e
      obtain ⟨x, e5, e6⟩ := wrels_look e4 ez
      exact ⟨p, b.cA c, dx, _, x, rfl, e2, cf.cl c (List.ne_nil_of_mem hf), cf.no c f hf, e5, k x H1 G1 m1 z μ1 l1 o1 e6 t1⟩
    · exact t1.elim
  · exact t1.elim
end
end DD
namespace DD
open PySem L2

structure DEnds where
  nx : R → M → Prop
  rt : W → M → Prop
  bk : R → M → Prop := fun _ _ => False
  ct : R → M → Prop := fun _ _ => False
abbrev DTS := DEnds → R → M → Prop
abbrev DTG := W → R → M → (R → M → Prop) → Prop
structure EOk (b : Bs) (G : Hp) (m : Wd) (D : DEnds) (E : Ends) : Prop where
  nx : ∀ σ' H' G' m' ρ' μ', Le G m G' m' → WOk b G' m' μ' H' → RelR b.cA G' m' σ' ρ' → D.nx ρ' μ' → E.nx σ' H'
  rt : ∀ v H' G' m' w μ', Le G m G' m' → WOk b G' m' μ' H' → WRel b.cA G' m' v w → D.rt w μ' → E.rt v H'
  bk : ∀ σ' H' G' m' ρ' μ', Le G m G' m' → WOk b G' m' μ' H' → RelR b.cA G' m' σ' ρ' → D.bk ρ' μ' → E.bk σ' H'
  ct : ∀ σ' H' G' m' ρ' μ', Le G m G' m' → WOk b G' m' μ' H' → RelR b.cA G' m' σ' ρ' → D.ct ρ' μ' → E.ct σ' H'
theorem EOk.mono {b : Bs} {G G' : Hp} {m m' : Wd} {D : DEnds} {E : Ends} (l : Le G m G' m') (e : EOk b G m D E) : EOk b G' m' D E :=
  ⟨fun σ H G1 m1 ρ μ l1 => e.nx σ H G1 m1 ρ μ (l.trans l1), fun v H G1 m1 w μ l1 => e.rt v H G1 m1 w μ (l.trans l1), fun σ H G1 m1 ρ μ l1 => e.bk σ H G1 m1 ρ μ (l.trans l1), fun σ H G1 m1 ρ μ l1 => e.ct σ H G1 m1 ρ μ (l.trans l1)⟩
structure DS (X : Cx) (b : Bs) (st : Stmt) (t : DTS) : Prop where
  ex : ∃ ts : TS, PS X st ts ∧ ∀ {G : Hp} {m : Wd} {ρ : R} {μ : M} {σ : L2.St} {H : Hp} {D : DEnds} {E : Ends}, WOk b G m μ H → RelR b.cA G m σ ρ → t D ρ μ → EOk b G m D E → ts E σ H
structure DSs (X : Cx) (b : Bs) (sts : List Stmt) (t : DTS) : Prop where
  ex : ∃ ts : TS, PSs X sts ts ∧ ∀ {G : Hp} {m : Wd} {ρ : R} {μ : M} {σ : L2.St} {H : Hp} {D : DEnds} {E : Ends}, WOk b G m μ H → RelR b.cA G m σ ρ → t D ρ μ → EOk b G m D E → ts E σ H
structure DG (X : Cx) (b : Bs) (tg : Expr) (t : DTG) : Prop where
  ex : ∃ g : TG, PG X tg g ∧ ∀ {G : Hp} {m : Wd} {ρ : R} {μ : M} {σ : L2.St} {H : Hp} {v : V} {w : W} {Q : R → M → Prop} {K : L2.St → Hp → Prop}, WOk b G m μ H → RelR b.cA G m σ ρ → WRel b.cA G m v w → t w ρ μ Q →
    (∀ σ' H' G' m' ρ' μ', Le G m G' m' → WOk b G' m' μ' H' → RelR b.cA G' m' σ' ρ' → Q ρ' μ' → K σ' H') → g v σ H K
structure DGs (X : Cx) (b : Bs) (tgs : List Expr) (t : List D → R → M → (R → M → Prop) → Prop) : Prop where
  ex : ∃ g : TGs, PGs X tgs g ∧ ∀ {G : Hp} {m : Wd} {ρ : R} {μ : M} {σ : L2.St} {H : Hp} {vs : List V} {ds : List D} {Q : R → M → Prop} {K : L2.St → Hp → Prop}, WOk b G m μ H → RelR b.cA G m σ ρ → Reps b.cA G vs ds → t ds ρ μ Q →
    (∀ σ' H' G' m' ρ' μ', Le G m G' m' → WOk b G' m' μ' H' → RelR b.cA G' m' σ' ρ' → Q ρ' μ' → K σ' H') → g vs σ H K
section
variable {X : Cx} {b : Bs} {pos : Pos} {st : Stmt} {sts : List Stmt} {t u : DTS} {e : Expr} {te : DTE}
/-! ### blocks -/
@[simp] def dSkip (D : DEnds) (ρ : R) (μ : M) : Prop := D.nx ρ μ
@[simp] def dSeq (t u : DTS) (D : DEnds) (ρ : R) (μ : M) : Prop := t { D with nx := u D } ρ μ
theorem ds_nil : DSs X b [] dSkip := ⟨_, pss_nil, fun {G m ρ μ σ H D E} o r t k => k.nx σ H G m ρ μ (Le.refl G m) o r t⟩
theorem ds_cons (h1 : DS X b st t) (h2 : DSs X b sts u) : DSs X b (st :: sts) (dSeq t u) := by
  obtain ⟨t', p1, q1⟩ := h1.ex
  obtain ⟨u', p2, q2⟩ := h2.ex
  refine ⟨_, pss_cons p1 p2, fun {G m ρ μ σ H D E} o r tt k => ?_⟩
  exact q1 o r tt ⟨fun σ' H' G' m' ρ' μ' l o' r' t' => q2 o' r' t' (k.mono l), k.rt, k.bk, k.ct⟩
theorem ds_last (h1 : DS X b st t) : DSs X b [st] t := by
  obtain ⟨t', p1, q1⟩ := h1.ex
  exact ⟨_, pss_one p1, q1⟩
theorem ds_pass : DS X b (.Pass pos) dSkip := ⟨_, ps_pass, fun {G m ρ μ σ H D E} o r t k => k.nx σ H G m ρ μ (Le.refl G m) o r t⟩
@[simp] def dNo (_D : DEnds) (_ρ : R) (_μ : M) : Prop := False
theorem ds_no : DS X b st dNo := ⟨_, ps_never, fun _ _ h _ => h.elim⟩
theorem dss_no : DSs X b sts dNo := ⟨_, pss_never, fun _ _ h _ => h.elim⟩
/-! ### small statements -/
@[simp] def dDrop (te : DTE) (D : DEnds) (ρ : R) (μ : M) : Prop := te ρ μ fun _ μ1 => D.nx ρ μ1
theorem ds_expr (h : DE X b e te) (hs : swapsWith e none pos.line X.env = pure false := by rfl) : DS X b (.Expr e pos) (dDrop te) := by
  obtain ⟨t', p, q⟩ := h.ex
  exact ⟨_, ps_expr p hs, fun {G m ρ μ σ H D E} o r t k => q o r t fun v H1 G1 m1 w μ1 l1 o1 r1 t1 => k.nx σ H1 G1 m1 ρ μ1 l1 o1 (r.mono l1) t1⟩
@[simp] def dRet (te : DTE) (D : DEnds) (ρ : R) (μ : M) : Prop := te ρ μ fun w μ1 => D.rt w μ1
theorem ds_ret (h : DE X b e te) : DS X b (.Return (some e) pos) (dRet te) := by
  obtain ⟨t', p, q⟩ := h.ex
  exact ⟨_, ps_ret p, fun {G m ρ μ σ H D E} o r t k => q o r t fun v H1 G1 m1 w μ1 l1 o1 r1 t1 => k.rt v H1 G1 m1 w μ1 l1 o1 r1 t1⟩
@[simp] def dRetN (D : DEnds) (ρ : R) (μ : M) : Prop := D.rt (.d .non) μ
theorem ds_retN : DS X b (.Return none pos) dRetN := ⟨_, ps_retN, fun {G m ρ μ σ H D E} o r t k => k.rt .non H G m _ μ (Le.refl G m) o (.d .non) t⟩
@[simp] def dIfS (c : DTT) (t u : DTS) (D : DEnds) (ρ : R) (μ : M) : Prop := c ρ μ fun x μ1 => if x = true then t D ρ μ1 else u D ρ μ1
theorem ds_if {c : Expr} {sa sb : List Stmt} {tc : DTT} (hc : DT X b c tc) (ha : DSs X b sa t) (hb : DSs X b sb u) : DS X b (.If c sa sb pos) (dIfS tc t u) := by
  obtain ⟨c', pc, qc⟩ := hc.ex
  obtain ⟨t', p1, q1⟩ := ha.ex
  obtain ⟨u', p2, q2⟩ := hb.ex
  refine ⟨_, ps_if pc p1 p2, fun {G m ρ μ σ H D E} o r tt k => ?_⟩
  refine qc o r tt fun x H1 G1 m1 μ1 l1 o1 t1 => ?_
  cases x with
  | true => exact q1 o1 (r.mono l1) t1 (k.mono l1)
  | false => exact q2 o1 (r.mono l1) t1 (k.mono l1)
/-! ### targets -/
theorem RelR.set {cA : Nat → Addr} {G : Hp} {m : Wd} {σ : L2.St} {ρ : R} {v : V} {w : W} (r : RelR cA G m σ ρ) (q : WRel cA G m v w) (i : Nat) : RelR cA G m (σ.set i (some v)) (ρ.set i (some w)) := by
  refine ⟨by simp [r.1], fun j z h => ?_⟩
  by_cases e : i = j
  · subst e
    have hl : i < ρ.length := by
      have := (List.getElem?_eq_some_iff.mp h).1
      simpa using this
    rw [List.getElem?_set_self hl] at h
    cases h
    exact ⟨v, by rw [List.getElem?_set_self (by rw [r.1]; exact hl)], q⟩
  · rw [List.getElem?_set_ne e] at h
    obtain ⟨x, h1, h2⟩ := r.2 j z h
    exact ⟨x, by rw [List.getElem?_set_ne e]; exact h1, h2⟩
@[simp] def gN (i : Nat) (w : W) (ρ : R) (μ : M) (Q : R → M → Prop) : Prop := Q (ρ.set i (some w)) μ
theorem dg_name {i : Nat} {x : Str} (h : PG X (.Name x pos) (gName i)) : DG X b (.Name x pos) (gN i) :=
  ⟨_, h, fun {G m ρ μ σ H v w Q K} o r q t k => k _ H G m _ μ (Le.refl G m) o (r.set q i) t⟩
@[simp] def gsNil (ds : List D) (ρ : R) (μ : M) (Q : R → M → Prop) : Prop := match ds with
  | [] => Q ρ μ
  | _ => False
@[simp] def gsCons (t : DTG) (u : List D → R → M → (R → M → Prop) → Prop) (ds : List D) (ρ : R) (μ : M) (Q : R → M → Prop) : Prop := match ds with
  | d :: ds => t (.d d) ρ μ fun ρ1 μ1 => u ds ρ1 μ1 Q
  | _ => False
theorem dgs_nil : DGs X b [] gsNil := by
  refine ⟨_, pgs_nil, fun {G m ρ μ σ H vs ds Q K} o r q t k => ?_⟩
  cases q with
  | nil => exact ⟨rfl, k σ H G m ρ μ (Le.refl G m) o r t⟩
  | cons _ _ => exact t.elim
theorem dgs_cons {es : List Expr} {t : DTG} {u : List D → R → M → (R → M → Prop) → Prop} (h1 : DG X b e t) (h2 : DGs X b es u) (hs : (assignEach (e :: es) X.env).map (·.2) = assign e X.env :: (assignEach es X.env).map (·.2) := by rfl) : DGs X b (e :: es) (gsCons t u) := by
  obtain ⟨g, p, q⟩ := h1.ex
  obtain ⟨gs, ps, qs⟩ := h2.ex
  refine ⟨_, pgs_cons p ps hs, fun {G m ρ μ σ H vs ds Q K} o r rr t k => ?_⟩
  cases rr with
  | nil => exact t.elim
  | cons r1 rs => exact ⟨_, _, rfl, q o r (.d r1) t fun σ' H' G' m' ρ' μ' l o' r' t' => qs o' r' (rs.mono l.g) t' fun σ2 H2 G2 m2 ρ2 μ2 l2 o2 r2 t2 => k σ2 H2 G2 m2 ρ2 μ2 (l.trans l2) o2 r2 t2⟩
/-- (a, b, ..) = a tuple -/
@[simp] def gTp (n : Nat) (t : List D → R → M → (R → M → Prop) → Prop) (w : W) (ρ : R) (μ : M) (Q : R → M → Prop) : Prop := match w with
  | .d (.tup ds) => ds.length = n ∧ t ds ρ μ Q
  | _ => False
theorem dg_tup {es : List Expr} {j n : Nat} {t : List D → R → M → (R → M → Prop) → Prop} (hc : X.calm = true) (h : DGs X b es t) (hn : (assignEach es X.env).length = n := by rfl) (hst : (assignEach es X.env).findIdx? (·.1) = none := by rfl) : DG X b (.Tuple es j pos) (gTp n t) := by
  obtain ⟨gs, ps, qs⟩ := h.ex
  refine ⟨_, pg_tup hc ps hn hst, fun {G m ρ μ σ H v w Q K} o r q t k => ?_⟩
  unfold gTp at t
  split at t
  · rename_i ds
    cases q with
    | d q =>
      obtain ⟨p, xs, rfl, h1, r1⟩ := q.now o.rel.gh
      exact ⟨p, xs, rfl, SqT.of h1, by rw [r1.len]; exact t.1, qs o r r1 t.2 k⟩
  · exact t.elim
@[simp] def dAsg (te : DTE) (g : DTG) (D : DEnds) (ρ : R) (μ : M) : Prop := te ρ μ fun w μ1 => g w ρ μ1 D.nx
theorem ds_asg {tg : Expr} {g : DTG} (he : DE X b e te) (hg : DG X b tg g) (hs : swapsWithSole [tg] e pos.line X.env = pure false := by rfl) (hw : swappedStores [tg] e X.env = pure none := by rfl)
    (h1 : (assignEach [tg] X.env).map (·.2) = [assign tg X.env] := by rfl) : DS X b (.Assign [tg] e pos) (dAsg te g) := by
  obtain ⟨t', p, q⟩ := he.ex
  obtain ⟨g', pg, qg⟩ := hg.ex
  refine ⟨_, ps_asg p pg hs hw h1, fun {G m ρ μ σ H D E} o r t k => ?_⟩
  exact q o r t fun v H1 G1 m1 w μ1 l1 o1 r1 t1 => qg o1 (r.mono l1) r1 t1 fun σ' H' G' m' ρ' μ' l o' r' t' => k.nx σ' H' G' m' ρ' μ' (l1.trans l) o' r' t'
theorem ds_set {i : Nat} {x : Str} {pos' : Pos} (he : DE X b e te) (hp : ∀ {te : TE}, PE X e te → PS X (.Assign [.Name x pos'] e pos) (tAsg te (gName i))) : DS X b (.Assign [.Name x pos'] e pos) (dAsg te (gN i)) := by
  obtain ⟨t', p, q⟩ := he.ex
  refine ⟨_, hp p, fun {G m ρ μ σ H D E} o r t k => ?_⟩
  exact q o r t fun v H1 G1 m1 w μ1 l1 o1 r1 t1 => k.nx _ H1 G1 m1 _ μ1 l1 o1 ((r.mono l1).set r1 i) t1
/-- a, b = x, y -/
@[simp] def dPar (i j : Nat) (ta : DTA) (D : DEnds) (ρ : R) (μ : M) : Prop := ta ρ μ fun ws μ1 => match ws with
  | [w, z] => D.nx ((ρ.set i (some w)).set j (some z)) μ1
  | _ => False
theorem ds_par {i j : Nat} {es : List Expr} {ta : DTA} (ha : DA X b es ta) (hp : ∀ {ta : TA}, PA X es ta → PS X st (tPar i j ta)) : DS X b st (dPar i j ta) := by
  obtain ⟨t', p, q⟩ := ha.ex
  refine ⟨_, hp p, fun {G m ρ μ σ H D E} o r t k => ?_⟩
  refine q o r t fun vs H1 G1 m1 ws μ1 l1 o1 r1 t1 => ?_
  match ws, r1, t1 with
  | [w, z], .cons r1 (.cons r2 .nil), t1 => exact ⟨_, _, rfl, k.nx _ H1 G1 m1 _ μ1 l1 o1 (((r.mono l1).set r1 i).set r2 j) t1⟩
/-! ### while -/
def dWhile (c : DTT) (t : DTS) (D : DEnds) (ρ : R) (μ : M) : Prop := ∃ P : Nat → R → M → Prop, (∃ n, P n ρ μ) ∧ ∀ n ρ μ, P n ρ μ → c ρ μ fun x μ1 =>
  if x = true then t { D with nx := fun ρ' μ' => ∃ n', n' < n ∧ P n' ρ' μ', ct := fun ρ' μ' => ∃ n', n' < n ∧ P n' ρ' μ', bk := D.nx } ρ μ1 else D.nx ρ μ1
theorem ds_while {c : Expr} {tc : DTT} (hp : PassesOwn (model X.prog X.w) X.A X.env X.xe) (hc : DT X b c tc) (hb : DSs X b sts t) : DS X b (.While c sts [] pos) (dWhile tc t) := by
  obtain ⟨c', pc, qc⟩ := hc.ex
  obtain ⟨t', p1, q1⟩ := hb.ex
  refine ⟨_, ps_while hp pc p1, fun {G m ρ μ σ H D E} o r tt k => ?_⟩
  obtain ⟨P, ⟨n0, h0⟩, turn⟩ := tt
  refine ⟨fun n σ H => ∃ G' m' ρ' μ', Le G m G' m' ∧ WOk b G' m' μ' H ∧ RelR b.cA G' m' σ ρ' ∧ P n ρ' μ', ⟨n0, G, m, ρ, μ, Le.refl G m, o, r, h0⟩, ?_⟩
  rintro n σ1 H1 ⟨G1, m1, ρ1, μ1, l1, o1, r1, h1⟩
  refine qc o1 r1 (turn n ρ1 μ1 h1) fun x H2 G2 m2 μ2 l2 o2 t2 => ?_
  cases x with
  | true =>
    rw [if_pos rfl] at t2 ⊢
    refine ⟨fun σ' H' => ∃ n', n' < n ∧ ∃ G' m' ρ' μ', Le G m G' m' ∧ WOk b G' m' μ' H' ∧ RelR b.cA G' m' σ' ρ' ∧ P n' ρ' μ', fun _ _ z => z, ?_⟩
    have again : ∀ σ' H' G' m' ρ' μ', Le G2 m2 G' m' → WOk b G' m' μ' H' → RelR b.cA G' m' σ' ρ' → (∃ n', n' < n ∧ P n' ρ' μ') → ∃ n', n' < n ∧ ∃ G' m' ρ' μ', Le G m G' m' ∧ WOk b G' m' μ' H' ∧ RelR b.cA G' m' σ' ρ' ∧ P n' ρ' μ' :=
      fun σ' H' G' m' ρ' μ' l o' r' ⟨n', hn, hP⟩ => ⟨n', hn, G', m', ρ', μ', l1.trans (l2.trans l), o', r', hP⟩
    exact q1 o2 (r1.mono l2) t2 ⟨again, fun v H' G' m' w μ' l => k.rt v H' G' m' w μ' (l1.trans (l2.trans l)), fun σ' H' G' m' ρ' μ' l => k.nx σ' H' G' m' ρ' μ' (l1.trans (l2.trans l)), again⟩
  | false =>
    rw [if_neg Bool.false_ne_true] at t2 ⊢
    exact k.nx σ1 H2 G2 m2 ρ1 μ2 (l1.trans l2) o2 (r1.mono l2) t2
/-! ### what is walked -/
structure Src where
  items : List W
  ok : M → Prop
/-- the walked thing stands for those items -/
structure SrcOk (b : Bs) (G : Hp) (m : Wd) (s : Src) (J : It) : Prop where
  go : ∀ {G' m' μ' H' i}, Le G m G' m' → WOk b G' m' μ' H' → s.ok μ' → i < s.items.length → J.go i H'
  yld : ∀ {G' m' μ' H' i x H2}, Le G m G' m' → WOk b G' m' μ' H' → s.ok μ' → J.yld i H' x H2 → i < s.items.length → ∃ G2 w, Le G' m' G2 m' ∧ WOk b G2 m' μ' H2 ∧ s.items[i]? = some w ∧ WRel b.cA G2 m' x w
  stop : ∀ {G' m' μ' H'}, Le G m G' m' → WOk b G' m' μ' H' → s.ok μ' → J.stop s.items.length H'
abbrev DTI := R → M → (Src → M → Prop) → Prop
structure DI (X : Cx) (b : Bs) (tg e : Expr) (t : DTI) : Prop where
  ex : ∃ wi : TI, PI X tg e wi ∧ ∀ {G : Hp} {m : Wd} {ρ : R} {μ : M} {σ : L2.St} {H : Hp} {Q : Src → M → Prop} {K : It → Hp → Prop}, WOk b G m μ H → RelR b.cA G m σ ρ → t ρ μ Q →
    (∀ J H' G' m' s μ', Le G m G' m' → WOk b G' m' μ' H' → SrcOk b G' m' s J → Q s μ' → K J H') → wi σ H K
/-- for: P by the turn -/
def dFor (ti : DTI) (g : DTG) (t : DTS) (D : DEnds) (ρ : R) (μ : M) : Prop := ti ρ μ fun s μ1 => ∃ P : Nat → R → M → Prop, P 0 ρ μ1 ∧
  (∀ i ρ' μ', i ≤ s.items.length → P i ρ' μ' → s.ok μ') ∧
  (∀ i w ρ' μ', s.items[i]? = some w → P i ρ' μ' → g w ρ' μ' fun ρ2 μ2 => t { D with nx := P (i + 1), ct := P (i + 1), bk := D.nx } ρ2 μ2) ∧
  (∀ ρ' μ', P s.items.length ρ' μ' → D.nx ρ' μ')
theorem ds_for {iter tg : Expr} {ti : DTI} {g : DTG} (hp : PassesOwn (model X.prog X.w) X.A X.env X.xe) (hc : X.calm = true) (hi : DI X b tg iter ti) (hg : DG X b tg g) (hb : DSs X b sts t)
    (hs : ∀ x, foldedSetIterable iter X.env x = pure x := by intro _; rfl) : DS X b (.For tg iter sts [] pos) (dFor ti g t) := by
  obtain ⟨wi, p1, q1⟩ := hi.ex
  obtain ⟨g', p2, q2⟩ := hg.ex
  obtain ⟨t', p3, q3⟩ := hb.ex
  refine ⟨_, ps_for hp hc p1 p2 p3 hs, fun {G m ρ μ σ H D E} o r tt k => ?_⟩
  refine q1 o r tt fun J H1 G1 m1 s μ1 l1 o1 so ⟨P, h0, hok, hstep, hend⟩ => ?_
  refine ⟨fun i n σ H => n = s.items.length - i ∧ i ≤ s.items.length ∧ ∃ G' m' ρ' μ', Le G1 m1 G' m' ∧ WOk b G' m' μ' H ∧ RelR b.cA G' m' σ ρ' ∧ P i ρ' μ', ⟨s.items.length, by simp, Nat.zero_le _, G1, m1, ρ, μ1, Le.refl _ _, o1, r.mono l1, h0⟩, ?_⟩
  rintro i n σ2 H2 ⟨rfl, hi', G2, m2, ρ2, μ2, l2, o2, r2, hP⟩
  have ok2 := hok i ρ2 μ2 hi' hP
  by_cases hlt : i < s.items.length
  · refine .inr ⟨so.go l2 o2 ok2 hlt, fun σ' H' => ∃ G' m' ρ' μ', Le G1 m1 G' m' ∧ WOk b G' m' μ' H' ∧ RelR b.cA G' m' σ' ρ' ∧ P (i + 1) ρ' μ', fun σ' H' z => ⟨_, by omega, rfl, hlt, z⟩, fun x H3 y => ?_⟩
    obtain ⟨G3, d, l3, o3, e3, r3⟩ := so.yld l2 o2 ok2 y hlt
    refine q2 o3 (r2.mono l3) r3 (hstep i d ρ2 μ2 e3 hP) fun σ4 H4 G4 m4 ρ4 μ4 l4 o4 r4 t4 => ?_
    have lo : Le G1 m1 G4 m4 := l2.trans (l3.trans l4)
    exact q3 o4 r4 t4 ⟨fun σ' H' G' m' ρ' μ' l o' r' z => ⟨G', m', ρ', μ', lo.trans l, o', r', z⟩, fun v H' G' m' w μ' l => k.rt v H' G' m' w μ' (l1.trans (lo.trans l)), fun σ' H' G' m' ρ' μ' l => k.nx σ' H' G' m' ρ' μ' (l1.trans (lo.trans l)), fun σ' H' G' m' ρ' μ' l o' r' z => ⟨G', m', ρ', μ', lo.trans l, o', r', z⟩⟩
  · have e : i = s.items.length := by omega
    subst e
    exact .inl ⟨so.stop l2 o2 ok2, k.nx σ2 H2 G2 m2 ρ2 μ2 (l1.trans l2) o2 r2 (hend ρ2 μ2 hP)⟩
/-! ### lists, tuples, ranges walked -/
theorem PI.or {tg iter : Expr} {w1 w2 : TI} (h : PI X tg iter w1) (h' : PI X tg iter w2) : PI X tg iter (fun σ H R => w1 σ H R ∨ w2 σ H R) :=
  ⟨fun pins s σ H R I hw => hw.elim (h.run pins s σ H R I) (h'.run pins s σ H R I)⟩
@[simp] def iSeq (te : DTE) (ρ : R) (μ : M) (Q : Src → M → Prop) : Prop := te ρ μ fun w μ1 => match w with
  | .d (.tup ds) => Q ⟨ds.map .d, fun _ => True⟩ μ1
  | .d (.lst ds) => Q ⟨ds.map .d, fun _ => True⟩ μ1
  | .r n => match μ1[n]? with
    | some (.lst ds) => Q ⟨ds.map .d, fun μ' => μ'[n]? = some (.lst ds)⟩ μ1
    | some (.lstW ws) => Q ⟨ws, fun μ' => μ'[n]? = some (.lstW ws)⟩ μ1
    | some (.frz (.lst ds)) => Q ⟨ds.map .d, fun μ' => μ'[n]? = some (.frz (.lst ds))⟩ μ1
    | _ => False
  | _ => False
theorem Reps.wrels {cA : Nat → Addr} {G : Hp} {m : Wd} : ∀ {xs : List V} {ds : List D}, Reps cA G xs ds → WRels cA G m xs (ds.map .d)
  | _, _, .nil => .nil
  | _, _, .cons r rs => .cons (.d r) rs.wrels
theorem WRels.get {cA : Nat → Addr} {G : Hp} {m : Wd} : ∀ {vs : List V} {ws : List W} {i : Nat} {v : V}, WRels cA G m vs ws → vs[i]? = some v → ∃ w, ws[i]? = some w ∧ WRel cA G m v w
  | _, _, i, _, .nil, h => by simp at h
  | _, _, 0, _, .cons r _, h => by simp at h; subst h; exact ⟨_, rfl, r⟩
  | _, _, i + 1, _, .cons _ rs, h => by simpa using rs.get (i := i) (by simpa using h)
theorem src_list {K : PySem.W.Frag} {G : Hp} {m : Wd} {v : V} {ds : List W} {ok : M → Prop} {p : Addr}
    (key : ∀ {G' m' μ' H'}, Le G m G' m' → WOk b G' m' μ' H' → ok μ' → ∃ xs, H' p = some (.lst xs) ∧ WRels b.cA G' m' xs ds) : SrcOk b G m ⟨ds, ok⟩ (Itl K p) := by
  refine ⟨fun {G' m' μ' H' i} l o k h => ?_, fun {G' m' μ' H' i x H2} l o k y h => ?_, fun {G' m' μ' H'} l o k => ?_⟩
  · obtain ⟨xs, e, r⟩ := key l o k
    have hl := r.len
    exact ⟨xs, xs[i]'(by rw [hl]; exact h), SqL.of e, List.getElem?_eq_getElem _⟩
  · obtain ⟨xs, e, r⟩ := key l o k
    obtain ⟨rfl, y⟩ := y
    obtain ⟨d, h1, h2⟩ := r.get (y xs (SqL.of e))
    exact ⟨G', d, Le.refl _ _, o, h1, h2⟩
  · obtain ⟨xs, e, r⟩ := key l o k
    exact ⟨xs, SqL.of e, by rw [r.len]; exact Nat.le_refl _⟩
theorem src_tup {K : PySem.W.Frag} {G : Hp} {m : Wd} {v : V} {ds : List W} {ok : M → Prop} {p : Addr}
    (key : ∀ {G' m' μ' H'}, Le G m G' m' → WOk b G' m' μ' H' → ok μ' → ∃ xs, H' p = some (.tup xs) ∧ WRels b.cA G' m' xs ds) : SrcOk b G m ⟨ds, ok⟩ (Itt K p) := by
  refine ⟨fun {G' m' μ' H' i} l o k h => ?_, fun {G' m' μ' H' i x H2} l o k y h => ?_, fun {G' m' μ' H'} l o k => ?_⟩
  · obtain ⟨xs, e, r⟩ := key l o k
    have hl := r.len
    exact ⟨xs, xs[i]'(by rw [hl]; exact h), SqT.of e, List.getElem?_eq_getElem _⟩
  · obtain ⟨xs, e, r⟩ := key l o k
    obtain ⟨rfl, y⟩ := y
    obtain ⟨d, h1, h2⟩ := r.get (y xs (SqT.of e))
    exact ⟨G', d, Le.refl _ _, o, h1, h2⟩
  · obtain ⟨xs, e, r⟩ := key l o k
    exact ⟨xs, SqT.of e, by rw [r.len]; exact Nat.le_refl _⟩
theorem now_lst {cA : Nat → Addr} {G H : Hp} {p : Addr} {ds : List D} (h : Now cA G H (.ref p) (.lst ds)) : ∃ xs, H p = some (.lst xs) ∧ Reps cA G xs ds := by
  obtain ⟨q, xs, e, h1, h2⟩ := h
  cases e
  exact ⟨xs, h1, h2⟩
theorem now_tup {cA : Nat → Addr} {G H : Hp} {p : Addr} {ds : List D} (h : Now cA G H (.ref p) (.tup ds)) : ∃ xs, H p = some (.tup xs) ∧ Reps cA G xs ds := by
  obtain ⟨q, xs, e, h1, h2⟩ := h
  cases e
  exact ⟨xs, h1, h2⟩
/-- a list or a tuple walked, whichever it is -/
theorem pi_seq {tg l : Expr} {tl : TE} (hl : PE X l tl) : PI X tg l (fun σ H R => tl σ H fun x H1 => ∃ a, x = .ref a ∧ (((∃ xs, SqL X.K H1 a xs) ∧ R (Itl X.K a) H1) ∨ ((∃ xs, SqT X.K H1 a xs) ∧ R (Itt X.K a) H1))) := by
  constructor
  intro pins s σ H R I h
  refine thn (hl.run pins s σ H _ I h) ?_
  rintro v s1 ⟨x, H1, I1, r1, a, rfl, q⟩
  cases r1
  have fresh : ∀ b ∈ [s1.heap.objs.size], FpOk X pins H1 b := fun b hb => by
    rw [List.mem_singleton.mp hb]
    exact I1.fpOk (Nat.le_refl _) (I1.hok.fresh (Nat.le_refl _))
  have grow : ∀ (o : Obj) (tk : Nat), Inv X pins σ H1 { s1 with heap := s1.heap.push o, toks := tk } := fun o tk => I1.kept fun _ _ e => Heap.get?_push_of_some _ e
  rcases q with ⟨⟨xs, hq⟩, q⟩ | ⟨⟨xs, hq⟩, q⟩
  · obtain ⟨its, rv, pl, hz⟩ := I1.list hq
    exact wpAny_pyIter_list pl.isList ⟨_, [s1.heap.objs.size], _, _, H1, rfl, grow _ _, turn_list a _, ⟨_, Heap.get?_push_size _ rfl, rfl, rfl⟩, fresh, q⟩
  · obtain ⟨its, rv, pl, hz⟩ := I1.tuple hq
    exact wpAny_pyIter_tuple (show s1.heap.IsTuple a its.toArray from pl) ⟨_, [s1.heap.objs.size], _, _, H1, rfl, grow _ _, turn_tuple a _, ⟨_, Heap.get?_push_size _ rfl, rfl, rfl⟩, fresh, q⟩
theorem di_seq {tg : Expr} (h : DE X b e te) : DI X b tg e (iSeq te) := by
  obtain ⟨t', p, q⟩ := h.ex
  refine ⟨_, pi_seq p, fun {G m ρ μ σ H Q K} o r t k => ?_⟩
  refine q o r t fun v H1 G1 m1 w μ1 l1 o1 r1 t1 => ?_
  cases w with
  | d d =>
    cases r1 with
    | d r1 =>
    cases d with
    | lst ds =>
      have n1 := r1.now o1.rel.gh
      obtain ⟨a, xs, rfl, h1, h2⟩ := n1
      refine ⟨a, rfl, .inl ⟨⟨xs, SqL.of h1⟩, k _ H1 G1 m1 _ μ1 l1 o1 (src_list (v := .ref a) fun {G' m' μ' H'} l o' _ => (let ⟨ys, z1, z2⟩ := now_lst ((r1.mono l.g).now o'.rel.gh); ⟨ys, z1, z2.wrels⟩)) t1⟩⟩
    | tup ds =>
      have n1 := r1.now o1.rel.gh
      obtain ⟨a, xs, rfl, h1, h2⟩ := n1
      refine ⟨a, rfl, .inr ⟨⟨xs, SqT.of h1⟩, k _ H1 G1 m1 _ μ1 l1 o1 (src_tup (v := .ref a) fun {G' m' μ' H'} l o' _ => (let ⟨ys, z1, z2⟩ := now_tup ((r1.mono l.g).now o'.rel.gh); ⟨ys, z1, z2.wrels⟩)) t1⟩⟩
    | _ => exact t1.elim
  | r n =>
    cases r1 with
    | @r _ a as em =>
    dsimp only at t1
    split at t1
    · rename_i ds e
      obtain ⟨a', xs, e1, e2, e3⟩ := o1.rel.cell n _ _ e em
      cases e1
      refine ⟨a, rfl, .inl ⟨⟨xs, SqL.of e2⟩, k _ H1 G1 m1 _ μ1 l1 o1 (src_list (v := .ref a) fun {G' m' μ' H'} l o' e' => ?_) t1⟩⟩
      obtain ⟨a2, ys, f1, f2, f3⟩ := o'.rel.cell n _ _ e' (l.m _ _ em)
      cases f1
      exact ⟨ys, f2, f3.wrels⟩
    · rename_i ws e
      obtain ⟨a', xs, e1, e2, e3⟩ := o1.rel.cell n _ _ e em
      cases e1
      refine ⟨a, rfl, .inl ⟨⟨xs, SqL.of e2⟩, k _ H1 G1 m1 _ μ1 l1 o1 (src_list (v := .ref a) fun {G' m' μ' H'} l o' e' => ?_) t1⟩⟩
      obtain ⟨a2, ys, f1, f2, f3⟩ := o'.rel.cell n _ _ e' (l.m _ _ em)
      cases f1
      exact ⟨ys, f2, f3⟩
    · rename_i ds e
      obtain ⟨a', e1, e2⟩ := o1.rel.cell n _ _ e em
      cases e1
      obtain ⟨xs, h1, h2⟩ := now_lst (e2.now o1.rel.gh)
      refine ⟨a, rfl, .inl ⟨⟨xs, SqL.of h1⟩, k _ H1 G1 m1 _ μ1 l1 o1 (src_list (v := .ref a) fun {G' m' μ' H'} l o' e' => ?_) t1⟩⟩
      obtain ⟨a2, f1, f2⟩ := o'.rel.cell n _ _ e' (l.m _ _ em)
      cases f1
      obtain ⟨ys, z1, z2⟩ := now_lst (f2.now o'.rel.gh)
      exact ⟨ys, z1, z2.wrels⟩
    · exact t1.elim
/-- range(n), range(a, b) -/
def rng (lo : Int) (n : Nat) : List W := (List.range n).map fun (i : Nat) => W.d (.int (lo + (i : Int)))
theorem src_rng {G : Hp} {m : Wd} {lo : Int} {n : Nat} : SrcOk b G m ⟨rng lo n, fun _ => True⟩ (Itr lo n) := by
  have hl : (rng lo n).length = n := by simp [rng]
  refine ⟨fun {G' m' μ' H' i} l o k h => by rw [hl] at h; exact h, fun {G' m' μ' H' i x H2} l o k y h => ?_, fun {G' m' μ' H'} l o k => by rw [hl]; exact Nat.le_refl _⟩
  obtain ⟨rfl, rfl⟩ := y
  rw [hl] at h
  exact ⟨G', .d (.int (lo + i)), Le.refl _ _, o, by simp [rng, h], .d (.int _)⟩
@[simp] def iR1 (ta : DTA) (ρ : R) (μ : M) (Q : Src → M → Prop) : Prop := ta ρ μ fun ws μ1 => match ws with
  | [.d (.int j)] => (-(2 ^ 62) ≤ j ∧ j < 2 ^ 62) ∧ Q ⟨rng 0 j.toNat, fun _ => True⟩ μ1
  | _ => False
@[simp] def iR2 (ta : DTA) (ρ : R) (μ : M) (Q : Src → M → Prop) : Prop := ta ρ μ fun ws μ1 => match ws with
  | [.d (.int i), .d (.int j)] => (-(2 ^ 62) ≤ i ∧ i < 2 ^ 62 ∧ -(2 ^ 62) ≤ j ∧ j < 2 ^ 62) ∧ Q ⟨rng i (j - i).toNat, fun _ => True⟩ μ1
  | _ => False
theorem di_range1 {tg a : Expr} {ta : DTA} {p : Pos} (hg : Gl X "range") (hm : X.mg "range" = none) (ha : DA X b [a] ta) (hs : starEach [a] X.env = [(false, eval a X.env)] := by rfl) : DI X b tg (.Call (.Name "range" p) [a] [] pos) (iR1 ta) := by
  obtain ⟨t', p1, q⟩ := ha.ex
  refine ⟨_, pi_range1 hg hm p1 hs, fun {G m ρ μ σ H Q K} o r t k => ?_⟩
  refine q o r t fun vs H1 G1 m1 ws μ1 l1 o1 r1 t1 => ?_
  match ws, r1, t1 with
  | [.d (.int j)], .cons r1 .nil, t1 =>
    cases isInt r1
    exact ⟨j, rfl, t1.1.1, t1.1.2, k _ H1 G1 m1 _ μ1 l1 o1 src_rng t1.2⟩
theorem di_range2 {tg a c : Expr} {ta : DTA} {p : Pos} (hg : Gl X "range") (hm : X.mg "range" = none) (ha : DA X b [a, c] ta) (hs : starEach [a, c] X.env = [(false, eval a X.env), (false, eval c X.env)] := by rfl) (hs2 : starEach [c] X.env = [(false, eval c X.env)] := by rfl) :
    DI X b tg (.Call (.Name "range" p) [a, c] [] pos) (iR2 ta) := by
  obtain ⟨t', p1, q⟩ := ha.ex
  refine ⟨_, pi_range2 hg hm p1 hs hs2, fun {G m ρ μ σ H Q K} o r t k => ?_⟩
  refine q o r t fun vs H1 G1 m1 ws μ1 l1 o1 r1 t1 => ?_
  match ws, r1, t1 with
  | [.d (.int i), .d (.int j)], .cons r1 (.cons r2 .nil), t1 =>
    cases isInt r1
    cases isInt r2
    exact ⟨i, j, rfl, t1.1, k _ H1 G1 m1 _ μ1 l1 o1 src_rng t1.2⟩
end
end DD
namespace DD
open PySem L2

/-! ### contracts -/
inductive Res where
  | ret (w : W) | exc (e : Exc)
/-- a def's contract over data: its arguments, the cells that they reach, what is wanted of the end -/
abbrev FS := List W → M → (Res → M → Prop) → Prop
def ExcAt (cA : Nat → Addr) (G H : Hp) (cls : Value) (d : Option Addr) (e : Exc) : Prop :=
  cls = .ref (cA e.c) ∧ ((e.fs = [] ∧ e.ds = [] ∧ d = none) ∨ ∃ dd xs, d = some dd ∧ H dd = some (.xd (e.fs.zip xs)) ∧ e.fs.length = xs.length ∧ Reps cA G xs e.ds)
def EndD (cA : Nat → Addr) (G : Hp) (m : Wd) (H : Hp) (Q : VK) (E : XK) : Res → Prop
  | .ret w => ∀ v, WRel cA G m v w → Q v H
  | .exc e => ∀ cls d, ExcAt cA G H cls d e → E cls d H
def spD (cA : Nat → Addr) (S : FS) : Sp := fun vs H Q E => ∃ U G m ws μ Post, RelM cA U G m μ H ∧ WRels cA G m vs ws ∧ S ws μ Post ∧
  ∀ r μ' G' m' H', Post r μ' → Le G m G' m' → RelM cA U G' m' μ' H' → EndD cA G' m' H' Q E r
/-- what the body lets out -/
def EX (b : Bs) : XK := fun cls d H => ∃ e G m μ, Le b.G0 b.m0 G m ∧ RelM b.cA b.U G m μ H ∧ ExcAt b.cA G H cls d e ∧ b.xc e μ
abbrev XOk (X : Cx) (b : Bs) : Prop := Passes (L2.CX X.prog X.w) X (EX b)

def closedC (k : Nat) : Cell → Bool
  | .ins _ _ ws => ws.all fun w => match w with
    | .r n => decide (n < k)
    | _ => true
  | .lstW ws => ws.all fun w => match w with
    | .r n => decide (n < k)
    | _ => true
  | _ => true
def closedB (k : Nat) (μ : M) : Bool := μ.all (closedC k)
inductive Mode where
  | d | i | l
@[simp] def rtOf (md : Mode) (k : Nat) (P : Res → M → Prop) (w : W) (μ : M) : Prop := match md with
  | .d => match esc μ w with
    | some (d, μ1) => closedB k (μ1.take k) = true ∧ P (.ret (.d d)) (μ1.take k)
    | none => False
  | .i => P (.ret w) μ
  | .l => match w with
    | .r n => match μ[n]? with
      | some (.lst ds) => k ≤ n ∧ closedB k (μ.take k) = true ∧ P (.ret (.r k)) (μ.take k ++ [.lst ds])
      | _ => False
    | _ => False
@[simp] def xcOf (k : Nat) (P : Res → M → Prop) (e : Exc) (μ : M) : Prop := closedB k (μ.take k) = true ∧ P (.exc e) (μ.take k)
@[simp] def endsOf (md : Mode) (k : Nat) (P : Res → M → Prop) : DEnds where
  nx := fun _ μ => rtOf md k P (.d .non) μ
  rt := rtOf md k P
section
variable {cA : Nat → Addr} {U G G' H : Hp} {m m' : Wd} {μ : M}
theorem wrels_take {k : Nat} : ∀ {xs : List V} {ws : List W}, WRels cA G m xs ws → (ws.all fun w => match w with
    | .r n => decide (n < k)
    | _ => true) = true → WRels cA G (m.take k) xs ws
  | _, _, .nil, _ => .nil
  | _, w :: ws, .cons r rs, h => by
    simp only [List.all_cons, Bool.and_eq_true] at h
    refine .cons ?_ (wrels_take rs h.2)
    cases r with
    | d r => exact .d r
    | r e => exact .r (by rw [List.getElem?_take_of_lt (by simpa using h.1)]; exact e)
theorem cell_take {k : Nat} {c : Cell} {as : List Addr} (h : CellOk cA G m H as c) (hc : closedC k c = true) : CellOk cA G (m.take k) H as c := by
  cases c with
  | ins c fs ws => obtain ⟨p, dx, xs, e1, e2, e3, e4⟩ := h; exact ⟨p, dx, xs, e1, e2, e3, wrels_take e4 hc⟩
  | lstW ws => obtain ⟨p, xs, e1, e2, e4⟩ := h; exact ⟨p, xs, e1, e2, wrels_take e4 hc⟩
  | _ => exact h
theorem closed_at {k i : Nat} {c : Cell} (h : closedB k (μ.take k) = true) (hi : i < k) (e : μ[i]? = some c) : closedC k c = true := by
  refine List.all_eq_true.mp h c ?_
  exact List.mem_of_getElem? (i := i) (by rw [List.getElem?_take_of_lt hi]; exact e)
theorem rel_take {k : Nat} (r : RelM cA U G m μ H) (h : closedB k (μ.take k) = true) : RelM cA U G (m.take k) (μ.take k) H := by
  have lt : ∀ {α : Type} {l : List α} {i : Nat} {a : α}, (l.take k)[i]? = some a → i < k ∧ l[i]? = some a := fun {α l i a} e => by
    have hi : i < k := by
      have := (List.getElem?_eq_some_iff.mp e).1
      rw [List.length_take] at this
      omega
    rw [List.getElem?_take_of_lt hi] at e
    exact ⟨hi, e⟩
  refine ⟨r.uh, r.gh, r.ug, by simp [r.len], fun i c as h1 h2 => ?_, fun i c as h1 h2 => r.nd i c as (lt h1).2 (lt h2).2, fun i j c c' as as' a h1 h2 h3 h4 => r.apart i j c c' as as' a (lt h1).2 (lt h2).2 (lt h3).2 (lt h4).2, fun i c as a h1 h2 => r.free i c as a (lt h1).2 (lt h2).2⟩
  exact cell_take (r.cell i c as (lt h1).2 (lt h2).2) (closed_at h (lt h1).1 (lt h1).2)
/-- the first k cells and one more list -/
theorem rel_pick {k n : Nat} {ds : List D} {as : List Addr} (r : RelM cA U G m μ H) (h : closedB k (μ.take k) = true) (hn : k ≤ n) (e : μ[n]? = some (.lst ds)) (ea : m[n]? = some as) : RelM cA U G (m.take k ++ [as]) (μ.take k ++ [.lst ds]) H := by
  have hnl : n < μ.length := (List.getElem?_eq_some_iff.mp e).1
  have hk : (μ.take k).length = k := by rw [List.length_take]; omega
  have hk' : (m.take k).length = k := by rw [List.length_take, r.len]; omega
  have at_ : ∀ {i : Nat} {c : Cell} {bs : List Addr}, (μ.take k ++ [.lst ds])[i]? = some c → (m.take k ++ [as])[i]? = some bs → ∃ j, μ[j]? = some c ∧ m[j]? = some bs ∧ (i < k → j = i) ∧ (k ≤ i → i = k ∧ j = n) := fun {i c bs} h1 h2 => by
    by_cases hi : i < k
    · rw [List.getElem?_append_left (by omega), List.getElem?_take_of_lt hi] at h1 h2
      exact ⟨i, h1, h2, fun _ => rfl, fun _ => by omega⟩
    · rw [List.getElem?_append_right (by omega)] at h1 h2
      rw [hk] at h1
      rw [hk'] at h2
      have : i = k := by
        have := (List.getElem?_eq_some_iff.mp h1).1
        simp at this
        omega
      subst this
      simp at h1 h2
      subst h1 h2
      exact ⟨n, e, ea, fun _ => by omega, fun _ => ⟨rfl, rfl⟩⟩
  refine ⟨r.uh, r.gh, r.ug, by simp [r.len], fun i c bs h1 h2 => ?_, fun i c bs h1 h2 h3 => ?_, fun i j c c' bs bs' a h1 h2 h3 h4 h5 h6 h7 h8 => ?_, fun i c bs a h1 h2 h3 h4 => ?_⟩
  · obtain ⟨j, e1, e2, e3, e4⟩ := at_ h1 h2
    have q := r.cell j c bs e1 e2
    by_cases hi : i < k
    · have := e3 hi
      subst this
      have q2 := cell_take q (closed_at h hi e1)
      refine q2.mono ⟨Sub.refl G, fun x y z => ?_⟩ fun _ _ _ _ z => z
      rw [List.getElem?_append_left (List.getElem?_eq_some_iff.mp z).1]
      exact z
    · obtain ⟨_, rfl⟩ := e4 (by omega)
      rw [e] at e1
      cases e1
      exact q
  · obtain ⟨j, e1, e2, _⟩ := at_ h1 h2
    exact r.nd j c bs e1 e2 h3
  · obtain ⟨i', e1, e2, e3, e4⟩ := at_ h1 h3
    obtain ⟨j', f1, f2, f3, f4⟩ := at_ h2 h4
    have q := r.apart i' j' c c' bs bs' a e1 f1 e2 f2 h5 h6 h7 h8
    by_cases hi : i < k
    · have := e3 hi
      by_cases hj : j < k
      · have := f3 hj; omega
      · have := f4 (by omega); omega
    · have := e4 (by omega)
      by_cases hj : j < k
      · have := f3 hj; omega
      · have := f4 (by omega); omega
  · obtain ⟨j, e1, e2, _⟩ := at_ h1 h2
    exact r.free j c bs a e1 e2 h3 h4
theorem le_take {m0 : Wd} {k : Nat} (l : Le G m0 G' m) (hk : m0.length = k) : Le G m0 G' (m.take k) := ⟨l.g, fun i as e => by
  have := (List.getElem?_eq_some_iff.mp e).1
  rw [List.getElem?_take_of_lt (by omega)]
  exact l.m i as e⟩
/-- an end as the contract wants it -/
theorem rt_end {md : Mode} {G0 : Hp} {m0 : Wd} {P : Res → M → Prop} {Q : VK} {E : XK} {v : V} {w : W} (l : Le G0 m0 G m) (r : RelM cA U G m μ H) (q : WRel cA G m v w) (t : rtOf md m0.length P w μ)
    (k : ∀ r μ' G' m' H', P r μ' → Le G0 m0 G' m' → RelM cA U G' m' μ' H' → EndD cA G' m' H' Q E r) : Q v H := by
  cases md with
  | d =>
    simp only [rtOf] at t
    split at t
    · rename_i d μ1 e
      obtain ⟨G1, l1, r1, p1⟩ := esc_ok r q e
      exact k _ _ G1 _ H t.2 (le_take (l.trans l1) rfl) (rel_take r1 t.1) v (.d p1)
    · exact t.elim
  | i => exact k _ _ G m H t l r v q
  | l =>
    simp only [rtOf] at t
    split at t
    · rename_i n
      split at t
      · rename_i ds e
        cases q with
        | @r _ p as ea =>
          refine k _ _ G _ H t.2.2 ?_ (rel_pick r t.2.1 t.1 e ea) _ (.r (p := p) (as := as) ?_)
          · exact ⟨l.g, fun i bs z => by
              have hi := (List.getElem?_eq_some_iff.mp z).1
              have hn := (List.getElem?_eq_some_iff.mp ea).1
              rw [List.getElem?_append_left (by rw [List.length_take]; omega), List.getElem?_take_of_lt hi]
              exact l.m i bs z⟩
          · have hn := (List.getElem?_eq_some_iff.mp ea).1
            have : (m.take m0.length).length = m0.length := by rw [List.length_take]; omega
            rw [List.getElem?_append_right (by omega), this]
            simp
      · exact t.elim
    · exact t.elim
end

/-! ### a def keeps its contract -/
section
variable {P : Program} {w : World} {K : PySem.W.Frag} {mg : Str → Option Value} {base : Heap}
theorem wrels_start {cA : Nat → Addr} {G : Hp} {m : Wd} {N : List Str} : ∀ {vs : List V} {ws : List W}, WRels cA G m vs ws → RelR cA G m (L2.start N vs) (ws.map some ++ List.replicate (N.length - ws.length) none) := fun {vs ws} r => by
  refine ⟨by simp [L2.start, r.len], fun i z h => ?_⟩
  by_cases hi : i < ws.length
  · rw [List.getElem?_append_left (by simpa using hi), List.getElem?_map] at h
    obtain ⟨y, e1, e2⟩ := Option.map_eq_some_iff.mp h
    cases e2
    obtain ⟨v, h1, h2⟩ := r.get' e1
    exact ⟨v, by unfold L2.start; rw [List.getElem?_append_left (by simpa [r.len] using hi), List.getElem?_map, h1]; rfl, h2⟩
  · rw [List.getElem?_append_right (by simpa using hi)] at h
    have := List.mem_of_getElem? h
    simp at this
/-- the frame of a def's body -/
abbrev fX (P : Program) (w : World) (K : PySem.W.Frag) (mg : Str → Option Value) (base : Heap) (N : List Str) (qual : Str) (sc : Scope) (f : Addr) (cdv : Value) (A : Around) (outer : List Env) (s : Shared) (H : Hp) (E : XK) : Cx :=
  cxOf (L2.CX P w) P w K mg base N qual sc f cdv A outer s H E
theorem fn_okD {x qual : Str} {st : Stmt} {f : Addr} {fd : FuncData} {N ps : List Str} {k : Nat} {cA : Nat → Addr} {S : FS} (md : Mode) (F : L2.Fun K x qual st f fd) (Sc : FnScope N ps (defScope st)) (len : ∀ ws μ P, S ws μ P → ws.length = ps.length)
    (body : ∀ (X : Cx) (b : Bs), X.prog = P → X.w = w → X.K = K → X.mg = mg → X.base = base → X.N = N → X.env.scope = defScope st → X.calm = true → Room k X.A → PassesOwn (model X.prog X.w) X.A X.env X.xe → XOk X b → b.cA = cA →
      (∀ W, (∀ cls d σ H, W cls d σ H → EX b cls d H) → Takes X W) → (∃ cdv A outer s H E, X = fX P w K mg base N qual (defScope st) f cdv A outer s H E) →
      ∃ t, DSs X b (defBody st) t ∧ ∀ ws μ Post, S ws μ Post → b.xc = xcOf μ.length Post → t (endsOf md μ.length Post) (ws.map some ++ List.replicate (N.length - ws.length) none) μ) :
    FnOk P w K mg base (L2.CX P w) (k + 1) f fd ps (spD cA S) := by
  refine F.okX Sc (fun vs H Q E h => ?_) (fun cdv A outer s H vs Q E hr h => ?_)
  · obtain ⟨U, G, m, ws, μ, Post, _, r, hS, _⟩ := h
    rw [r.len]
    exact len ws μ Post hS
  · obtain ⟨U, G, m, ws, μ, Post, rm, rw', hS, hk⟩ := h
    let b : Bs := ⟨cA, U, G, m, xcOf μ.length Post⟩
    have hx : ∀ cls d H', EX b cls d H' → E cls d H' := fun cls d H' ⟨e, G', m', μ', l, r, ea, hc⟩ => by
      have hl : m.length = μ.length := rm.len
      have hc' : xcOf μ.length Post e μ' := hc
      unfold xcOf at hc'
      rw [← hl] at hc'
      exact hk _ _ G' _ H' hc'.2 (le_take l rfl) (rel_take r hc'.1) cls d ea
    have tk : Takes (cxOf (L2.CX P w) P w K mg base N qual (defScope st) f cdv A outer s H E) (fun cls d _ H => E cls d H) := takes_of rfl rfl rfl rfl
    obtain ⟨t, ht, hw⟩ := body (cxOf (L2.CX P w) P w K mg base N qual (defScope st) f cdv A outer s H E) b rfl rfl rfl rfl rfl rfl rfl rfl hr (passes_of rfl)
      (fun pins σ H' s' e s'' I c => passes_call (X := cxOf (L2.CX P w) P w K mg base N qual (defScope st) f cdv A outer s H E) tk (fun cls d σ H' h => hx cls d H' h) pins σ H' s' e s'' I c) rfl
      (fun W hW => tk.imp fun cls d σ H' h => hx cls d H' (hW cls d σ H' h)) ⟨cdv, A, outer, s, H, E, rfl⟩
    obtain ⟨ts, p, q⟩ := ht.ex
    refine ⟨ts, p, ?_⟩
    have o : WOk b G m μ H := ⟨Le.refl G m, rm⟩
    have hl : μ.length = m.length := rm.len.symm
    refine q o (wrels_start rw') (hw ws μ Post hS rfl) ⟨fun σ' H' G' m' ρ' μ' l o' r' t' => ?_, fun v H' G' m' w μ' l o' r' t' => ?_, fun _ _ _ _ _ _ _ _ _ z => z.elim, fun _ _ _ _ _ _ _ _ _ z => z.elim⟩
    · have t' : rtOf md μ.length Post (.d .non) μ' := t'
      rw [hl] at t'
      exact rt_end (v := .non) l o'.rel (.d .non) t' hk
    · have t' : rtOf md μ.length Post w μ' := t'
      rw [hl] at t'
      exact rt_end l o'.rel r' t' hk
end
end DD
namespace DD
open PySem L2

/-! ### which cells a call reaches -/
def refsW : W → List Nat
  | .r n => [n]
  | .d _ => []
def refsC : Cell → List Nat
  | .ins _ _ ws => ws.flatMap refsW
  | .lstW ws => ws.flatMap refsW
  | _ => []
def reach (μ : M) : Nat → List Nat → List Nat → List Nat
  | 0, _, acc => acc
  | _ + 1, [], acc => acc
  | f + 1, n :: t, acc => if acc.contains n then reach μ f t acc else reach μ f ((match μ[n]? with
    | some c => refsC c
    | none => []) ++ t) (acc ++ [n])
def ren (js : List Nat) : W → W
  | .r n => .r (js.idxOf n)
  | .d d => .d d
def renC (f : W → W) : Cell → Cell
  | .ins c fs ws => .ins c fs (ws.map f)
  | .lst ds => .lst ds
  | .lstW ws => .lstW (ws.map f)
  | .dic ks ds => .dic ks ds
  | .frz d => .frz d
  | .scr ns S => .scr ns S
/-- the callee's place i is the caller's -/
def thI (js : List Nat) (n i : Nat) : Nat := match js[i]? with
  | some j => j
  | none => n + (i - js.length)
def th (js : List Nat) (n : Nat) : W → W
  | .r i => .r (thI js n i)
  | .d d => .d d
def okJs (μ : M) (ws : List W) (js : List Nat) : Bool :=
  decide js.Nodup && js.all (fun j => decide (j < μ.length)) && (ws.flatMap refsW).all (fun n => js.contains n) && js.all fun j => match μ[j]? with
    | some c => (refsC c).all fun n => js.contains n
    | none => false
def cellsOf (μ : M) (js : List Nat) : M := js.map fun j => match μ[j]? with
  | some c => renC (ren js) c
  | none => .frz .non
def setAll (μ : M) : List Nat → M → M
  | j :: js, c :: cs => setAll (μ.set j c) js cs
  | _, _ => μ
def merge (μ : M) (js : List Nat) (μ2 : M) : M := setAll μ js ((μ2.take js.length).map (renC (th js μ.length))) ++ (μ2.drop js.length).map (renC (th js μ.length))
def callS (S : FS) (ws : List W) (μ : M) (Q : W → M → Prop) (xc : Exc → M → Prop) : Prop :=
  okJs μ ws (reach μ 60 (ws.flatMap refsW) []) = true ∧ S (ws.map (ren (reach μ 60 (ws.flatMap refsW) []))) (cellsOf μ (reach μ 60 (ws.flatMap refsW) [])) fun r μ2 =>
    (reach μ 60 (ws.flatMap refsW) []).length ≤ μ2.length ∧ match r with
      | .ret w => Q (th (reach μ 60 (ws.flatMap refsW) []) μ.length w) (merge μ (reach μ 60 (ws.flatMap refsW) []) μ2)
      | .exc e => xc e (merge μ (reach μ 60 (ws.flatMap refsW) []) μ2)

theorem setAll_length : ∀ (js : List Nat) (μ cs : M), (setAll μ js cs).length = μ.length
  | [], μ, cs => by unfold setAll; rfl
  | j :: js, μ, [] => by unfold setAll; rfl
  | j :: js, μ, c :: cs => by unfold setAll; rw [setAll_length js]; simp
theorem setAll_out : ∀ (js : List Nat) (μ cs : M) (i : Nat), i ∉ js → (setAll μ js cs)[i]? = μ[i]?
  | [], μ, cs, i, _ => by unfold setAll; rfl
  | j :: js, μ, [], i, _ => by unfold setAll; rfl
  | j :: js, μ, c :: cs, i, h => by
    unfold setAll
    rw [setAll_out js _ cs i (fun z => h (List.mem_cons_of_mem _ z)), List.getElem?_set_ne]
    rintro rfl
    exact h List.mem_cons_self
theorem setAll_in : ∀ (js : List Nat) (μ cs : M) (i : Nat) (c : Cell), js.Nodup → (∀ j ∈ js, j < μ.length) → i < js.length → cs[i]? = some c → ∀ j, js[i]? = some j → (setAll μ js cs)[j]? = some c
  | [], μ, cs, i, c, _, _, h, _ => by simp at h
  | a :: js, μ, [], i, c, _, _, _, h => by simp at h
  | a :: js, μ, d :: cs, 0, c, nd, lt, h, e => fun j hj => by
    simp at e hj
    subst e hj
    unfold setAll
    rw [setAll_out js _ cs a (List.nodup_cons.mp nd).1, List.getElem?_set_self (lt a List.mem_cons_self)]
  | a :: js, μ, d :: cs, i + 1, c, nd, lt, h, e => fun j hj => by
    unfold setAll
    refine setAll_in js _ cs i c (List.nodup_cons.mp nd).2 (fun j hj => ?_) (by simpa using h) (by simpa using e) j (by simpa using hj)
    simpa using lt j (List.mem_cons_of_mem _ hj)
theorem idx_at {js : List Nat} (nd : js.Nodup) {i j : Nat} (h : js[i]? = some j) : js.idxOf j = i := by
  obtain ⟨hi, rfl⟩ := List.getElem?_eq_some_iff.mp h
  exact nd.idxOf_getElem i hi
theorem at_idx {js : List Nat} {j : Nat} (h : j ∈ js) : js[js.idxOf j]? = some j := by
  have := List.idxOf_lt_length_of_mem h
  rw [List.getElem?_eq_getElem this, List.getElem_idxOf]

section
variable {cA : Nat → Addr} {U G G' H H' : Hp} {m m2 : Wd} {μ μ2 : M} {js : List Nat}
structure JsOk (μ : M) (js : List Nat) : Prop where
  nd : js.Nodup
  lt : ∀ j ∈ js, j < μ.length
  cl : ∀ (j : Nat) (c : Cell), j ∈ js → μ[j]? = some c → ∀ n ∈ refsC c, n ∈ js
theorem okJs_ok {ws : List W} (h : okJs μ ws js = true) : JsOk μ js ∧ ∀ n ∈ ws.flatMap refsW, n ∈ js := by
  unfold okJs at h
  simp only [Bool.and_eq_true, List.all_eq_true, decide_eq_true_eq, List.contains_iff_mem] at h
  obtain ⟨⟨⟨h1, h2⟩, h3⟩, h4⟩ := h
  refine ⟨⟨h1, h2, fun j c hj e n hn => ?_⟩, h3⟩
  have := h4 j hj
  rw [e] at this
  simp only [List.all_eq_true, List.contains_iff_mem] at this
  exact this n hn
/-- the callee's world -/
def sub (m : Wd) (js : List Nat) : Wd := js.map fun j => m.getD j []
theorem sub_at {n : Nat} {as : List Addr} (hn : n ∈ js) (e : m[n]? = some as) : (sub m js)[js.idxOf n]? = some as := by
  unfold sub
  rw [List.getElem?_map, at_idx hn]
  simp [List.getD, e]
theorem sub_get {i : Nat} {as : List Addr} (e : (sub m js)[i]? = some as) (lt : ∀ j ∈ js, j < m.length) : ∃ j, js[i]? = some j ∧ m[j]? = some as := by
  unfold sub at e
  rw [List.getElem?_map] at e
  obtain ⟨j, h1, h2⟩ := Option.map_eq_some_iff.mp e
  refine ⟨j, h1, ?_⟩
  have := lt j (List.mem_of_getElem? h1)
  rw [← h2]
  simp [List.getD, List.getElem?_eq_getElem this]
theorem ren_rel {v : V} {w : W} (q : WRel cA G m v w) (h : ∀ n ∈ refsW w, n ∈ js) : WRel cA G (sub m js) v (ren js w) := by
  cases q with
  | d r => exact .d r
  | @r n p as e => exact .r (sub_at (h n (by simp [refsW])) e)
theorem ren_rels : ∀ {vs : List V} {ws : List W}, WRels cA G m vs ws → (∀ n ∈ ws.flatMap refsW, n ∈ js) → WRels cA G (sub m js) vs (ws.map (ren js))
  | _, _, .nil, _ => .nil
  | _, w :: ws, .cons r rs, h => .cons (ren_rel r fun n hn => h n (by simp [hn])) (ren_rels rs fun n hn => h n (by simp at hn ⊢; exact .inr hn))
/-- a live cell that the call does not reach -/
def Out (m : Wd) (μ : M) (js : List Nat) (a : Addr) : Prop := ∃ (i : Nat) (c : Cell) (as : List Addr), i ∉ js ∧ μ[i]? = some c ∧ m[i]? = some as ∧ c.live = true ∧ a ∈ as
open Classical in
noncomputable def frame (U H : Hp) (m : Wd) (μ : M) (js : List Nat) : Hp := fun a => if Out m μ js a then H a else U a
theorem cells_at {i : Nat} {c : Cell} (e : (cellsOf μ js)[i]? = some c) (lt : ∀ j ∈ js, j < μ.length) : ∃ j c0, js[i]? = some j ∧ μ[j]? = some c0 ∧ c = renC (ren js) c0 := by
  unfold cellsOf at e
  rw [List.getElem?_map] at e
  obtain ⟨j, h1, h2⟩ := Option.map_eq_some_iff.mp e
  have := lt j (List.mem_of_getElem? h1)
  rw [List.getElem?_eq_getElem this] at h2
  exact ⟨j, μ[j], h1, List.getElem?_eq_getElem this, h2.symm⟩
theorem renC_live (f : W → W) (c : Cell) : (renC f c).live = c.live := by cases c <;> rfl
theorem frame_out {a : Addr} (h : Out m μ js a) : frame U H m μ js a = H a := if_pos h
theorem frame_in {a : Addr} (h : ¬ Out m μ js a) : frame U H m μ js a = U a := if_neg h
theorem out_free (r : RelM cA U G m μ H) {a : Addr} (h : Out m μ js a) : G a = none ∧ U a = none ∧ ∃ o, H a = some o := by
  obtain ⟨i, c, as, _, e1, e2, lv, ha⟩ := h
  obtain ⟨f1, f2⟩ := r.free i c as a e1 e2 lv ha
  exact ⟨f1, f2, (r.cell i c as e1 e2).at r.gh lv a ha⟩
theorem rel_sub (r : RelM cA U G m μ H) (ok : JsOk μ js) : RelM cA (frame U H m μ js) G (sub m js) (cellsOf μ js) H := by
  have ltm : ∀ j ∈ js, j < m.length := fun j hj => by rw [r.len]; exact ok.lt j hj
  have notOut : ∀ (i : Nat) (c : Cell) (as : List Addr) (a : Addr), i ∈ js → μ[i]? = some c → m[i]? = some as → c.live = true → a ∈ as → ¬ Out m μ js a := fun i c as a hi e1 e2 lv ha ⟨i', c', as', h1, h2, h3, h4, h5⟩ => by
    have := r.apart i i' c c' as as' a e1 h2 e2 h3 lv h4 ha h5
    subst this
    exact h1 hi
  refine ⟨fun a o h => ?_, r.gh, fun a o h => ?_, by simp [sub, cellsOf], fun i c as h1 h2 => ?_, fun i c as h1 h2 h3 => ?_, fun i j c c' as as' a h1 h2 h3 h4 h5 h6 h7 h8 => ?_, fun i c as a h1 h2 h3 h4 => ?_⟩
  · by_cases q : Out m μ js a
    · rw [frame_out q] at h; exact h
    · rw [frame_in q] at h; exact r.uh a o h
  · by_cases q : Out m μ js a
    · exact (out_free r q).1
    · rw [frame_in q] at h; exact r.ug a o h
  · obtain ⟨j, c0, e1, e2, rfl⟩ := cells_at h1 ok.lt
    obtain ⟨j', e3, e4⟩ := sub_get h2 ltm
    rw [e1] at e3
    cases e3
    have k := r.cell j c0 as e2 e4
    cases c0 with
    | ins c fs ws =>
      obtain ⟨p, dx, xs, f1, f2, f3, f4⟩ := k
      exact ⟨p, dx, xs, f1, f2, f3, ren_rels f4 fun n hn => ok.cl j _ (List.mem_of_getElem? e1) e2 n hn⟩
    | lstW ws =>
      obtain ⟨p, xs, f1, f2, f4⟩ := k
      exact ⟨p, xs, f1, f2, ren_rels f4 fun n hn => ok.cl j _ (List.mem_of_getElem? e1) e2 n hn⟩
    | _ => exact k
  · obtain ⟨j, c0, e1, e2, rfl⟩ := cells_at h1 ok.lt
    obtain ⟨j', e3, e4⟩ := sub_get h2 ltm
    rw [e1] at e3
    cases e3
    rw [renC_live] at h3
    exact r.nd j c0 as e2 e4 h3
  · obtain ⟨x, c0, e1, e2, rfl⟩ := cells_at h1 ok.lt
    obtain ⟨x', e3, e4⟩ := sub_get h3 ltm
    rw [e1] at e3
    cases e3
    obtain ⟨y, c1, f1, f2, rfl⟩ := cells_at h2 ok.lt
    obtain ⟨y', f3, f4⟩ := sub_get h4 ltm
    rw [f1] at f3
    cases f3
    rw [renC_live] at h5 h6
    have := r.apart x y c0 c1 as as' a e2 f2 e4 f4 h5 h6 h7 h8
    subst this
    have g1 := idx_at ok.nd e1
    have g2 := idx_at ok.nd f1
    omega
  · obtain ⟨j, c0, e1, e2, rfl⟩ := cells_at h1 ok.lt
    obtain ⟨j', e3, e4⟩ := sub_get h2 ltm
    rw [e1] at e3
    cases e3
    rw [renC_live] at h3
    obtain ⟨f1, f2⟩ := r.free j c0 as a e2 e4 h3 h4
    exact ⟨f1, by rw [frame_in (notOut j c0 as a (List.mem_of_getElem? e1) e2 e4 h3 h4)]; exact f2⟩
/-- where the caller's cell i stands for the callee -/
theorem merge_at {i : Nat} {c : Cell} (ok : JsOk μ js) (hk : js.length ≤ μ2.length) (e : (merge μ js μ2)[i]? = some c) :
    (i ∉ js ∧ μ[i]? = some c) ∨ ∃ j c2, thI js μ.length j = i ∧ μ2[j]? = some c2 ∧ c = renC (th js μ.length) c2 ∧ (i < μ.length → js[j]? = some i) ∧ (μ.length ≤ i → j = js.length + (i - μ.length)) := by
  unfold merge at e
  by_cases hi : i < μ.length
  · rw [List.getElem?_append_left (by rw [setAll_length]; exact hi)] at e
    by_cases hj : i ∈ js
    · have h1 := at_idx hj
      have hlt := List.idxOf_lt_length_of_mem hj
      have h2 : ((μ2.take js.length).map (renC (th js μ.length)))[js.idxOf i]? = some (renC (th js μ.length) (μ2[js.idxOf i]'(by omega))) := by
        rw [List.getElem?_map, List.getElem?_take_of_lt hlt, List.getElem?_eq_getElem (by omega)]
        rfl
      rw [setAll_in js μ _ (js.idxOf i) _ ok.nd ok.lt hlt h2 i h1] at e
      cases e
      exact .inr ⟨js.idxOf i, _, by unfold thI; rw [h1], List.getElem?_eq_getElem _, rfl, fun _ => h1, fun z => by omega⟩
    · rw [setAll_out js μ _ i hj] at e
      exact .inl ⟨hj, e⟩
  · rw [List.getElem?_append_right (by rw [setAll_length]; omega), setAll_length, List.getElem?_map, List.getElem?_drop] at e
    obtain ⟨c2, h1, h2⟩ := Option.map_eq_some_iff.mp e
    refine .inr ⟨js.length + (i - μ.length), c2, ?_, h1, h2.symm, fun z => by omega, fun _ => rfl⟩
    unfold thI
    rw [List.getElem?_eq_none (by omega)]
    dsimp only
    omega
/-- the caller's world behind the call -/
def back (m : Wd) (js : List Nat) (m2 : Wd) : Wd := m ++ m2.drop js.length
theorem back_th (hl : m.length = μ.length) (l : Le G (sub m js) G' m2) (lt : ∀ j ∈ js, j < m.length) {i : Nat} {as : List Addr} (e : m2[i]? = some as) : (back m js m2)[thI js μ.length i]? = some as := by
  unfold back thI
  cases h : js[i]? with
  | some j =>
    have hj := lt j (List.mem_of_getElem? h)
    dsimp only
    rw [List.getElem?_append_left hj]
    have h1 : (sub m js)[i]? = some (m.getD j []) := by unfold sub; rw [List.getElem?_map, h]; rfl
    have := l.m i _ h1
    rw [e] at this
    cases this
    simp [List.getD, List.getElem?_eq_getElem hj]
  | none =>
    have hi : js.length ≤ i := List.getElem?_eq_none_iff.mp h
    dsimp only
    rw [List.getElem?_append_right (by omega), List.getElem?_drop]
    rw [← e]
    congr 1
    omega
theorem th_rel (hl : m.length = μ.length) (l : Le G (sub m js) G' m2) (lt : ∀ j ∈ js, j < m.length) {v : V} {w : W} (q : WRel cA G' m2 v w) : WRel cA G' (back m js m2) v (th js μ.length w) := by
  cases q with
  | d r => exact .d r
  | r e => exact .r (back_th hl l lt e)
theorem th_rels (hl : m.length = μ.length) (l : Le G (sub m js) G' m2) (lt : ∀ j ∈ js, j < m.length) : ∀ {vs : List V} {ws : List W}, WRels cA G' m2 vs ws → WRels cA G' (back m js m2) vs (ws.map (th js μ.length))
  | _, _, .nil => .nil
  | _, _, .cons r rs => .cons (th_rel hl l lt r) (th_rels hl l lt rs)
theorem rel_back (r : RelM cA U G m μ H) (ok : JsOk μ js) (l : Le G (sub m js) G' m2) (r2 : RelM cA (frame U H m μ js) G' m2 μ2 H') (hk : js.length ≤ μ2.length) :
    RelM cA U G' (back m js m2) (merge μ js μ2) H' ∧ Le G m G' (back m js m2) := by
  have ltm : ∀ j ∈ js, j < m.length := fun j hj => by rw [r.len]; exact ok.lt j hj
  have lb : Le G m G' (back m js m2) := ⟨l.g, fun i as e => by unfold back; rw [List.getElem?_append_left (List.getElem?_eq_some_iff.mp e).1]; exact e⟩
  have old : ∀ {i : Nat} {c : Cell} {as : List Addr}, i ∉ js → μ[i]? = some c → (back m js m2)[i]? = some as → m[i]? = some as := fun {i c as} _ e1 e2 => by
    have := (List.getElem?_eq_some_iff.mp e1).1
    unfold back at e2
    rw [List.getElem?_append_left (by rw [r.len]; exact this)] at e2
    exact e2
  have keep : ∀ a, Out m μ js a → H' a = H a := fun a h => by
    obtain ⟨_, _, o, e⟩ := out_free r h
    rw [e]
    exact r2.uh a o (by rw [frame_out h]; exact e)
  have new : ∀ {i j : Nat} {c2 : Cell} {as : List Addr}, thI js μ.length j = i → μ2[j]? = some c2 → (back m js m2)[i]? = some as → m2[j]? = some as := fun {i j c2 as} h e1 e2 => by
    have := (List.getElem?_eq_some_iff.mp e1).1
    have h3 : m2[j]? = some (m2[j]'(by rw [r2.len]; exact this)) := List.getElem?_eq_getElem _
    have h4 := back_th (μ := μ) r.len l ltm h3
    rw [h, e2] at h4
    rw [h3]
    exact h4.symm
  have uout : ∀ a o, U a = some o → ¬ Out m μ js a := fun a o h q => by
    rw [(out_free r q).2.1] at h
    cases h
  refine ⟨⟨fun a o h => ?_, r2.gh, fun a o h => ?_, ?_, fun i c as h1 h2 => ?_, fun i c as h1 h2 h3 => ?_, fun i j c c' as as' a h1 h2 h3 h4 h5 h6 h7 h8 => ?_, fun i c as a h1 h2 h3 h4 => ?_⟩, lb⟩
  · exact r2.uh a o (by rw [frame_in (uout a o h)]; exact h)
  · exact r2.ug a o (by rw [frame_in (uout a o h)]; exact h)
  · unfold back merge
    rw [List.length_append, List.length_append, setAll_length, List.length_map, List.length_drop, List.length_drop, r.len, r2.len]
  · rcases merge_at ok hk h1 with ⟨hj, e⟩ | ⟨j, c2, e1, e2, rfl, _⟩
    · have hm := old hj e h2
      refine (r.cell i c as e hm).mono lb fun lv a ha o ho => ?_
      rw [keep a ⟨i, c, as, hj, e, hm, lv, ha⟩]
      exact ho
    · have hm := new e1 e2 h2
      have k := r2.cell j c2 as e2 hm
      cases c2 with
      | ins c fs ws =>
        obtain ⟨p, dx, xs, f1, f2, f3, f4⟩ := k
        exact ⟨p, dx, xs, f1, f2, f3, th_rels r.len l ltm f4⟩
      | lstW ws =>
        obtain ⟨p, xs, f1, f2, f4⟩ := k
        exact ⟨p, xs, f1, f2, th_rels r.len l ltm f4⟩
      | _ => exact k
  · rcases merge_at ok hk h1 with ⟨hj, e⟩ | ⟨j, c2, e1, e2, rfl, _⟩
    · exact r.nd i c as e (old hj e h2) h3
    · rw [renC_live] at h3
      exact r2.nd j c2 as e2 (new e1 e2 h2) h3
  · rcases merge_at ok hk h1 with ⟨hi, e⟩ | ⟨x, c2, e1, e2, rfl, e3, e4⟩
    · have hm := old hi e h3
      rcases merge_at ok hk h2 with ⟨hj, f⟩ | ⟨y, c3, f1, f2, rfl, f3, f4⟩
      · exact r.apart i j c c' as as' a e f hm (old hj f h4) h5 h6 h7 h8
      · rw [renC_live] at h6
        have q : Out m μ js a := ⟨i, c, as, hi, e, hm, h5, h7⟩
        have z := (r2.free y c3 as' a f2 (new f1 f2 h4) h6 h8).2
        rw [frame_out q] at z
        obtain ⟨_, _, o, e'⟩ := out_free r q
        rw [e'] at z
        cases z
    · rw [renC_live] at h5
      rcases merge_at ok hk h2 with ⟨hj, f⟩ | ⟨y, c3, f1, f2, rfl, f3, f4⟩
      · have hm := old hj f h4
        have q : Out m μ js a := ⟨j, c', as', hj, f, hm, h6, h8⟩
        have z := (r2.free x c2 as a e2 (new e1 e2 h3) h5 h7).2
        rw [frame_out q] at z
        obtain ⟨_, _, o, e'⟩ := out_free r q
        rw [e'] at z
        cases z
      · rw [renC_live] at h6
        have := r2.apart x y c2 c3 as as' a e2 f2 (new e1 e2 h3) (new f1 f2 h4) h5 h6 h7 h8
        subst this
        rw [← e1, ← f1]
  · rcases merge_at ok hk h1 with ⟨hi, e⟩ | ⟨x, c2, e1, e2, rfl, e3, e4⟩
    · have hm := old hi e h2
      have q : Out m μ js a := ⟨i, c, as, hi, e, hm, h3, h4⟩
      obtain ⟨_, u, o, e'⟩ := out_free r q
      exact ⟨r2.ug a o (by rw [frame_out q]; exact e'), u⟩
    · rw [renC_live] at h3
      obtain ⟨g, z⟩ := r2.free x c2 as a e2 (new e1 e2 h2) h3 h4
      refine ⟨g, ?_⟩
      by_cases q : Out m μ js a
      · exact (out_free r q).2.1
      · rw [frame_in q] at z; exact z
end
/-! ### a call of a def with a contract -/
theorem call_core {b : Bs} {S : FS} {G : Hp} {m : Wd} {μ : M} {H : Hp} {vs : List V} {ws : List W} {Q : W → M → Prop} {K : VK} (o : WOk b G m μ H) (r : WRels b.cA G m vs ws) (t : callS S ws μ Q b.xc)
    (k : ∀ v H' G' m' w μ', Le G m G' m' → WOk b G' m' μ' H' → WRel b.cA G' m' v w → Q w μ' → K v H') : spD b.cA S vs H K (EX b) := by
  obtain ⟨hj, t⟩ := t
  obtain ⟨ok, hw⟩ := okJs_ok hj
  refine ⟨_, G, _, _, _, _, rel_sub o.rel ok, ren_rels r hw, t, fun r2 μ2 G2 m2 H2 hp l rm => ?_⟩
  obtain ⟨hk, hp⟩ := hp
  obtain ⟨rb, lb⟩ := rel_back o.rel ok l rm hk
  cases r2 with
  | ret w =>
    intro v q
    exact k v H2 G2 _ _ _ lb (o.mono lb rb) (th_rel o.rel.len l (fun j hj => by rw [o.rel.len]; exact ok.lt j hj) q) hp
  | exc e => exact fun cls d ea => ⟨e, G2, _, _, o.le.trans lb, rb, ea, hp⟩
section
variable {X : Cx} {b : Bs} {pos : Pos} {k : Nat} {f : Addr} {fd : FuncData} {ps : List Str} {S : FS} {x : Str} {p : Pos} {e : Expr} {es : List Expr} {ta : DTA}
@[simp] def dCall (S : FS) (xc : Exc → M → Prop) (ta : DTA) (ρ : R) (μ : M) (Q : W → M → Prop) : Prop := ta ρ μ fun ws μ1 => callS S ws μ1 Q xc
theorem de_call (F : FnOk X.prog X.w X.K X.mg X.base (L2.CX X.prog X.w) k f fd ps (spD b.cA S)) (hr : Room k X.A) (hx : XOk X b) (hm : X.mg x = some (.ref f)) (hk : PySem.W.keepIn X.K (.ref f) = true) (hb : Binds X.K fd ps []) (ha : DA X b (e :: es) ta) (hg : Gl X x)
    (hdb : (x == ("__debug__" : Str)) = false := by decide) (he : starEach (e :: es) X.env = (false, eval e X.env) :: starEach es X.env := by rfl) (hpl : (backTo pos (starEach es X.env)).any (·.1) = false := by rfl) :
    DE X b (.Call (.Name x p) (e :: es) [] pos) (dCall S b.xc ta) := by
  obtain ⟨t', pa, qa⟩ := ha.ex
  refine ⟨_, pe_call F hr hg hm hk hb .nil hx pa hdb he hpl, fun {G m ρ μ σ H Q K} o r t kk => ?_⟩
  refine qa o r t fun vs H1 G1 m1 ws μ1 l1 o1 r1 t1 => ?_
  rw [List.append_nil]
  exact call_core o1 r1 t1 fun v H' G' m' w μ' l o' q t' => kk v H' G' m' w μ' (l1.trans l) o' q t'
theorem de_call0 (F : FnOk X.prog X.w X.K X.mg X.base (L2.CX X.prog X.w) k f fd ps (spD b.cA S)) (hr : Room k X.A) (hx : XOk X b) (hm : X.mg x = some (.ref f)) (hk : PySem.W.keepIn X.K (.ref f) = true) (hb : Binds X.K fd ps []) (hg : Gl X x)
    (hdb : (x == ("__debug__" : Str)) = false := by decide) : DE X b (.Call (.Name x p) [] [] pos) (dCall S b.xc dNil) := by
  refine ⟨_, pe_call0 F hr hg hm hk hb .nil hx hdb, fun {G m ρ μ σ H Q K} o r t kk => ?_⟩
  exact call_core o .nil t fun v H' G' m' w μ' l o' q t' => kk v H' G' m' w μ' l o' q t'
end
end DD
namespace DD
open PySem L2

/-! ### built-ins over data -/
@[simp] def rss (μ : M) : List W → Option (List D)
  | [] => some []
  | w :: ws => match rs μ w with
    | some d => match rss μ ws with
      | some ds => some (d :: ds)
      | none => none
    | none => none
def Nows (cA : Nat → Addr) (G H : Hp) : List V → List D → Prop
  | [], [] => True
  | v :: vs, d :: ds => Now cA G H v d ∧ Nows cA G H vs ds
  | _, _ => False
theorem rss_ok {cA : Nat → Addr} {U G H : Hp} {m : Wd} {μ : M} (r : RelM cA U G m μ H) : ∀ {vs : List V} {ws : List W} {ds : List D}, WRels cA G m vs ws → rss μ ws = some ds → Nows cA G H vs ds
  | _, _, _, .nil, h => by cases h; exact True.intro
  | _, w :: ws, ds, .cons q qs, h => by
    unfold rss at h
    cases e : rs μ w with
    | none => rw [e] at h; cases h
    | some d =>
      rw [e] at h
      dsimp only at h
      cases e2 : rss μ ws with
      | none => rw [e2] at h; cases h
      | some es => rw [e2] at h; cases h; exact ⟨rs_ok r q e, rss_ok r qs e2⟩
def OpN (b : Bs) (r : List V → Hp → VK → Prop) (f : List D → (D → Prop) → Prop) : Prop :=
  ∀ {G : Hp} {m : Wd} {μ : M} {H : Hp} {vs : List V} {ds : List D} {q : D → Prop} {K : VK}, WOk b G m μ H → Nows b.cA G H vs ds → f ds q →
    (∀ v' H' G' z, Le G m G' m → WOk b G' m μ H' → Rep b.cA G' v' z → q z → K v' H') → r vs H K
@[simp] def dFn (f : List D → (D → Prop) → Prop) (ta : DTA) (ρ : R) (μ : M) (Q : W → M → Prop) : Prop := ta ρ μ fun ws μ1 => match rss μ1 ws with
  | some ds => f ds fun z => Q (.d z) μ1
  | none => False
section
variable {X : Cx} {b : Bs} {pos p : Pos} {e : Expr} {es : List Expr} {te : DTE} {ta : DTA}
theorem de_fn {r : List V → Hp → VK → Prop} {f : List D → (D → Prop) → Prop} {c : Expr} (hf : OpN b r f) (ha : DA X b es ta) (hp : ∀ {ta : TA}, PA X es ta → PE X c (tCB r ta)) : DE X b c (dFn f ta) := by
  obtain ⟨t', pa, qa⟩ := ha.ex
  refine ⟨_, hp pa, fun {G m ρ μ σ H Q K} o r t k => ?_⟩
  refine qa o r t fun vs H1 G1 m1 ws μ1 l1 o1 r1 t1 => ?_
  split at t1
  · rename_i ds e1
    exact hf o1 (rss_ok o1.rel r1 e1) t1 fun v' H' G' z l o' rp qz => k v' H' G' m1 _ μ1 (l1.trans l) o' (.d rp) qz
  · exact t1.elim
/-- a new list that may change -/
@[simp] def dFnM (f : List D → Option (List D)) (ta : DTA) (ρ : R) (μ : M) (Q : W → M → Prop) : Prop := ta ρ μ fun ws μ1 => match rss μ1 ws with
  | some ds => match f ds with
    | some xs => Q (.r μ1.length) (μ1 ++ [.lst xs])
    | none => False
  | none => False
theorem nows1 {cA : Nat → Addr} {G H : Hp} {vs : List V} {d : D} (h : Nows cA G H vs [d]) : ∃ v, vs = [v] ∧ Now cA G H v d := by
  match vs, h with
  | [v], h => exact ⟨v, rfl, h.1⟩
theorem nows2 {cA : Nat → Addr} {G H : Hp} {vs : List V} {d e : D} (h : Nows cA G H vs [d, e]) : ∃ v u, vs = [v, u] ∧ Now cA G H v d ∧ Now cA G H u e := by
  match vs, h with
  | [v, u], h => exact ⟨v, u, rfl, h.1, h.2.1⟩
/-! len -/
def fLen : List D → (D → Prop) → Prop
  | [.lst ds], q => q (.int ds.length)
  | [.tup ds], q => q (.int ds.length)
  | [.str s], q => s.length ≤ sizeLine ∧ q (.int s.length)
  | _, _ => False
theorem on_len {K : PySem.W.Frag} : OpN b (fun xs H Q => ∃ x n, xs = [x] ∧ LenV K x H n ∧ Q (.int n) H) fLen := by
  intro G m μ H vs ds q Kq w n f k
  match ds, n, f with
  | [.lst ds], n, f =>
    obtain ⟨v, rfl, a, xs, rfl, h, r⟩ := nows1 n
    exact ⟨.ref a, xs.length, rfl, .inl ⟨xs, SqL.of h, rfl⟩, by rw [r.len]; exact give_old w (.int _) f k⟩
  | [.tup ds], n, f =>
    obtain ⟨v, rfl, a, xs, rfl, h, r⟩ := nows1 n
    exact ⟨.ref a, xs.length, rfl, .inr ⟨xs, SqT.of h, rfl⟩, by rw [r.len]; exact give_old w (.int _) f k⟩
  | [.str s], n, f =>
    obtain ⟨v, rfl, n1⟩ := nows1 n
    cases (show v = .str s from n1)
    exact ⟨.str s, s.length, rfl, ⟨f.1, rfl⟩, give_old w (.int _) f.2 k⟩
theorem de_len (hm : X.mg "len" = none) (ha : DA X b [e] ta) (hg : Gl X "len") (he : starEach [e] X.env = [(false, eval e X.env)] := by rfl) (hpl : (backTo pos (starEach [] X.env)).any (·.1) = false := by rfl) : DE X b (.Call (.Name "len" p) [e] [] pos) (dFn fLen ta) :=
  de_fn on_len ha fun pa => pe_callB call_len hg hm PySem.boot_len pa (he := he) (hpl := hpl)
/-! list(x), tuple(x) -/
@[simp] def seqIn : List D → Option (List D)
  | [.lst ds] => some ds
  | [.tup ds] => some ds
  | _ => none
@[simp] def fList (ds : List D) (q : D → Prop) : Prop := match seqIn ds with
  | some xs => q (.lst xs)
  | none => False
def fTup (ds : List D) (q : D → Prop) : Prop := match seqIn ds with
  | some xs => q (.tup xs)
  | none => False
theorem seq_at {K : PySem.W.Frag} {cA : Nat → Addr} {G H : Hp} {vs : List V} {ds xs : List D} (n : Nows cA G H vs ds) (e : seqIn ds = some xs) : ∃ a us, vs = [.ref a] ∧ ((SqL K H a us ∧ ds = [.lst xs]) ∨ (SqT K H a us ∧ ds = [.tup xs])) ∧ Reps cA G us xs := by
  match ds, n, e with
  | [.lst ds], n, e =>
    cases e
    obtain ⟨v, rfl, a, us, rfl, h, r⟩ := nows1 n
    exact ⟨a, us, rfl, .inl ⟨SqL.of h, rfl⟩, r⟩
  | [.tup ds], n, e =>
    cases e
    obtain ⟨v, rfl, a, us, rfl, h, r⟩ := nows1 n
    exact ⟨a, us, rfl, .inr ⟨SqT.of h, rfl⟩, r⟩
theorem on_list {K : PySem.W.Frag} : OpN b (fun xs H Q => ∃ p ys, xs = [.ref p] ∧ (SqL K H p ys ∨ SqT K H p ys) ∧ ∀ l, H l = none → Q (.ref l) (upd H l (.lst ys))) fList := by
  intro G m μ H vs ds q Kq w n f k
  unfold fList at f
  split at f
  · rename_i xs e
    obtain ⟨a, us, rfl, h, r⟩ := seq_at n e
    exact ⟨a, us, rfl, h.imp (·.1) (·.1), fun l hl => give_new w hl (fun G' s e => .lst e (r.mono s)) f k⟩
  · exact f.elim
theorem on_tup {K : PySem.W.Frag} : OpN b (fun xs H Q => ∃ p ys, xs = [.ref p] ∧ ((SqL K H p ys ∧ ∀ l, H l = none → Q (.ref l) (upd H l (.tup ys))) ∨ (SqT K H p ys ∧ Q (.ref p) H))) (fun ds q => match ds with
    | [.lst xs] => q (.tup xs)
    | _ => False) := by
  intro G m μ H vs ds q Kq w n f k
  match ds, n, f with
  | [.lst xs], n, f =>
    obtain ⟨a, us, rfl, h, r⟩ := seq_at (K := K) n (xs := xs) rfl
    rcases h with ⟨h, _⟩ | ⟨_, h⟩
    · exact ⟨a, us, rfl, .inl ⟨h, fun l hl => give_new w hl (fun G' s e => .tup e (r.mono s)) f k⟩⟩
    · cases h
theorem de_list (hm : X.mg "list" = none) (ha : DA X b [e] ta) (hg : Gl X "list") (he : starEach [e] X.env = [(false, eval e X.env)] := by rfl) (hpl : (backTo pos (starEach [] X.env)).any (·.1) = false := by rfl) : DE X b (.Call (.Name "list" p) [e] [] pos) (dFn fList ta) :=
  de_fn on_list ha fun pa => pe_callTy call_list_of hg hm (by decide +kernel) pa (he := he) (hpl := hpl)
theorem de_listM (hm : X.mg "list" = none) (ha : DA X b [e] ta) (hg : Gl X "list") (he : starEach [e] X.env = [(false, eval e X.env)] := by rfl) (hpl : (backTo pos (starEach [] X.env)).any (·.1) = false := by rfl) : DE X b (.Call (.Name "list" p) [e] [] pos) (dFnM seqIn ta) := by
  obtain ⟨t', pa, qa⟩ := ha.ex
  refine ⟨_, pe_callTy call_list_of hg hm (by decide +kernel) pa (he := he) (hpl := hpl), fun {G m ρ μ σ H Q K} o r t k => ?_⟩
  refine qa o r t fun vs H1 G1 m1 ws μ1 l1 o1 r1 t1 => ?_
  split at t1
  · rename_i ds e1
    split at t1
    · rename_i xs e2
      obtain ⟨a, us, rfl, h, rp⟩ := seq_at (K := X.K) (rss_ok o1.rel r1 e1) e2
      refine ⟨a, us, rfl, h.imp (·.1) (·.1), fun l hl => ?_⟩
      exact k _ _ _ _ _ _ (l1.trans Le.cellNew) (o1.mono Le.cellNew (o1.rel.cellNew (c := .lst xs) hl ⟨l, us, rfl, upd_same, rp⟩)) (.r (as := []) (by rw [← o1.rel.len]; simp)) t1
    · exact t1.elim
  · exact t1.elim
/-- tuple(x): of a list a new one, of a tuple itself -/
@[simp] def dTupOf (ta : DTA) (ρ : R) (μ : M) (Q : W → M → Prop) : Prop := ta ρ μ fun ws μ1 => match ws with
  | [.d (.tup ds)] => Q (.d (.tup ds)) μ1
  | ws => match rss μ1 ws with
    | some [.lst ds] => Q (.d (.tup ds)) μ1
    | _ => False
theorem de_tupOf (hm : X.mg "tuple" = none) (ha : DA X b [e] ta) (hg : Gl X "tuple") (he : starEach [e] X.env = [(false, eval e X.env)] := by rfl) (hpl : (backTo pos (starEach [] X.env)).any (·.1) = false := by rfl) : DE X b (.Call (.Name "tuple" p) [e] [] pos) (dTupOf ta) := by
  obtain ⟨t', pa, qa⟩ := ha.ex
  refine ⟨_, pe_callTy call_tuple_of hg hm (by decide +kernel) pa (he := he) (hpl := hpl), fun {G m ρ μ σ H Q K} o r t k => ?_⟩
  refine qa o r t fun vs H1 G1 m1 ws μ1 l1 o1 r1 t1 => ?_
  unfold dTupOf at t
  split at t1
  · rename_i ds
    cases r1 with
    | cons r1 rs =>
    cases rs
    cases r1 with
    | d r1 =>
    obtain ⟨a, us, rfl, h, rp⟩ := r1.now o1.rel.gh
    exact ⟨a, us, rfl, .inr ⟨SqT.of h, k _ H1 G1 m1 _ μ1 l1 o1 (.d r1) t1⟩⟩
  · split at t1
    · rename_i ds e1
      refine on_tup (b := b) o1 (rss_ok o1.rel r1 e1) t1 fun v' H' G' z l o' rp qz => k v' H' G' m1 (.d z) μ1 (l1.trans l) o' (.d rp) qz
    · exact t1.elim
/-! list(range(n)) -/
def rngD (lo : Int) (n : Nat) : List D := (List.range n).map fun (i : Nat) => D.int (lo + (i : Int))
def dLRng1 (mu : Bool) (te : DTE) (ρ : R) (μ : M) (Q : W → M → Prop) : Prop := te ρ μ fun w μ1 => match w with
  | .d (.int n) => (-(2 ^ 62) ≤ n ∧ n ≤ 16777216) ∧ if mu then Q (.r μ1.length) (μ1 ++ [.lst (rngD 0 n.toNat)]) else Q (.d (.lst (rngD 0 n.toNat))) μ1
  | _ => False
theorem reps_rng {cA : Nat → Addr} {G : Hp} {lo hi : Int} : Reps cA G (rgV lo hi) (rngD lo (hi - lo).toNat) := by
  unfold rgV rngD
  generalize List.range (hi - lo).toNat = l
  induction l with
  | nil => exact .nil
  | cons a l ih => exact .cons (.int _) ih
theorem de_lrng1 (mu : Bool) {p2 pos2 : Pos} (hc : X.calm = true) (hm : X.mg "list" = none) (hm2 : X.mg "range" = none) (ha : DE X b e te) (hg : Gl X "list") (hg2 : Gl X "range") (na : starEach [e] X.env = (false, eval e X.env) :: starEach [] X.env := by rfl)
    (nb : starEach [.Call (.Name "range" p2) [e] [] pos2] X.env = (false, eval (.Call (.Name "range" p2) [e] [] pos2) X.env) :: starEach [] X.env := by rfl) : DE X b (.Call (.Name "list" p) [.Call (.Name "range" p2) [e] [] pos2] [] pos) (dLRng1 mu te) := by
  obtain ⟨t', pa, qa⟩ := ha.ex
  refine ⟨_, pe_listRg hc hg hm (prg_1 hg2 hm2 pa na) nb, fun {G m ρ μ σ H Q K} o r t k => ?_⟩
  refine qa o r t fun v H1 G1 m1 w μ1 l1 o1 r1 t1 => ?_
  split at t1
  · rename_i n
    obtain ⟨⟨h1, h2⟩, t1⟩ := t1
    refine ⟨n, isInt r1, ⟨by decide, by decide, h1, by omega, by omega⟩, fun q hq => ?_⟩
    have rp : Reps b.cA G1 (rgV 0 n) (rngD 0 n.toNat) := by
      have := reps_rng (cA := b.cA) (G := G1) (lo := 0) (hi := n)
      rwa [Int.sub_zero] at this
    cases mu with
    | true =>
      exact k _ _ _ _ _ _ (l1.trans Le.cellNew) (o1.mono Le.cellNew (o1.rel.cellNew (c := .lst (rngD 0 n.toNat)) hq ⟨q, _, rfl, upd_same, rp⟩)) (.r (as := []) (by rw [← o1.rel.len]; simp)) t1
    | false =>
      have hg := (o1.rel.new hq).1
      have l2 : Le G1 m1 (upd G1 q (.lst (rgV 0 n))) m1 := Le.know hg
      exact k _ _ _ m1 _ μ1 (l1.trans l2) (o1.mono l2 (o1.rel.know hq)) (.d (.lst upd_same (rp.mono l2.g))) t1
  · exact t1.elim
/-! abs, max, min, int -/
@[simp] def fI1 (g : Int → Int) : List D → (D → Prop) → Prop
  | [.int i], q => q (.int (g i))
  | _, _ => False
@[simp] def fI2 (g : Int → Int → Int) : List D → (D → Prop) → Prop
  | [.int i, .int j], q => q (.int (g i j))
  | _, _ => False
theorem on_I2 {g : Int → Int → Int} : OpN b (fun xs H Q => ∃ i j, xs = [.int i, .int j] ∧ Q (.int (g i j)) H) (fI2 g) := by
  intro G m μ H vs ds q Kq w n f k
  match ds, n, f with
  | [.int i, .int j], n, f =>
    obtain ⟨v, u, rfl, n1, n2⟩ := nows2 n
    cases n1
    cases n2
    exact ⟨i, j, rfl, give_old w (.int _) f k⟩
theorem on_I1 {g : Int → Int} : OpN b (fun xs H Q => ∃ i, xs = [.int i] ∧ Q (.int (g i)) H) (fI1 g) := by
  intro G m μ H vs ds q Kq w n f k
  match ds, n, f with
  | [.int i], n, f =>
    obtain ⟨v, rfl, n1⟩ := nows1 n
    cases n1
    exact ⟨i, rfl, give_old w (.int _) f k⟩
theorem de_abs (hm : X.mg "abs" = none) (ha : DA X b [e] ta) (hg : Gl X "abs") (he : starEach [e] X.env = [(false, eval e X.env)] := by rfl) (hpl : (backTo pos (starEach [] X.env)).any (·.1) = false := by rfl) : DE X b (.Call (.Name "abs" p) [e] [] pos) (dFn (fI1 fun i => if i < 0 then -i else i) ta) :=
  de_fn on_I1 ha fun pa => pe_callB call_abs hg hm (by decide +kernel) pa (he := he) (hpl := hpl)
theorem de_max2 {e2 : Expr} (hc : X.calm = true) (hm : X.mg "max" = none) (ha : DA X b [e, e2] ta) (hg : Gl X "max") (he : starEach [e, e2] X.env = (false, eval e X.env) :: starEach [e2] X.env := by rfl) (hpl : (backTo pos (starEach [e2] X.env)).any (·.1) = false := by rfl) :
    DE X b (.Call (.Name "max" p) [e, e2] [] pos) (dFn (fI2 fun i j => if j > i then j else i) ta) := de_fn on_I2 ha fun pa => pe_callB (call_max2 hc) hg hm (by decide +kernel) pa (he := he) (hpl := hpl)
theorem de_min2 {e2 : Expr} (hc : X.calm = true) (hm : X.mg "min" = none) (ha : DA X b [e, e2] ta) (hg : Gl X "min") (he : starEach [e, e2] X.env = (false, eval e X.env) :: starEach [e2] X.env := by rfl) (hpl : (backTo pos (starEach [e2] X.env)).any (·.1) = false := by rfl) :
    DE X b (.Call (.Name "min" p) [e, e2] [] pos) (dFn (fI2 fun i j => if j < i then j else i) ta) := de_fn on_I2 ha fun pa => pe_callB (call_min2 hc) hg hm (by decide +kernel) pa (he := he) (hpl := hpl)
@[simp] def fInt : List D → (D → Prop) → Prop
  | [.int i], q => q (.int i)
  | [.bl c], q => q (.int (if c then 1 else 0))
  | _, _ => False
theorem on_int : OpN b (fun xs H Q => (∃ i, xs = [.int i] ∧ Q (.int i) H) ∨ ∃ k, xs = [.bl k] ∧ Q (.int (if k then 1 else 0)) H) fInt := by
  intro G m μ H vs ds q Kq w n f k
  match ds, n, f with
  | [.int i], n, f =>
    obtain ⟨v, rfl, n1⟩ := nows1 n
    cases n1
    exact .inl ⟨i, rfl, give_old w (.int _) f k⟩
  | [.bl c], n, f =>
    obtain ⟨v, rfl, n1⟩ := nows1 n
    cases n1
    exact .inr ⟨c, rfl, give_old w (.int _) f k⟩
theorem de_int1 (hm : X.mg "int" = none) (ha : DA X b [e] ta) (hg : Gl X "int") (he : starEach [e] X.env = [(false, eval e X.env)] := by rfl) (hpl : (backTo pos (starEach [] X.env)).any (·.1) = false := by rfl) : DE X b (.Call (.Name "int" p) [e] [] pos) (dFn fInt ta) :=
  de_fn on_int ha fun pa => pe_callTy call_int1 hg hm (by decide +kernel) pa (he := he) (hpl := hpl)
/-! any, all of a list of truth values -/
def bls : List D → Option (List Bool)
  | [] => some []
  | .bl c :: ds => (bls ds).map (c :: ·)
  | _ => none
theorem bls_ok {cA : Nat → Addr} {G : Hp} : ∀ {ds : List D} {bs : List Bool} {xs : List V}, bls ds = some bs → Reps cA G xs ds → xs = bs.map V.bl
  | [], _, _, h, .nil => by cases h; rfl
  | d :: ds, bs, _, h, .cons r rs => by
    cases d with
    | bl c =>
      unfold bls at h
      cases e : bls ds with
      | none => rw [e] at h; cases h
      | some es => rw [e] at h; cases h; cases r; rw [bls_ok e rs]; rfl
    | _ => cases h
def fBl (g : List Bool → Bool) : List D → (D → Prop) → Prop
  | [.lst ds], q => match bls ds with
    | some bs => q (.bl (g bs))
    | none => False
  | _, _ => False
theorem on_bl {K : PySem.W.Frag} {g : List Bool → Bool} : OpN b (fun vs H Q => ∃ (a : Addr) (bs : List Bool), vs = [V.ref a] ∧ SqL K H a (bs.map V.bl) ∧ Q (.bl (g bs)) H) (fBl g) := by
  intro G m μ H vs ds q Kq w n f k
  match ds, n, f with
  | [.lst ds], n, f =>
    obtain ⟨v, rfl, a, xs, rfl, h, r⟩ := nows1 n
    simp only [fBl] at f
    split at f
    · rename_i bs e
      have hx := bls_ok e r
      subst hx
      exact ⟨a, bs, rfl, SqL.of h, give_old w (.bl _) f k⟩
    · exact f.elim
theorem de_any (hc : X.calm = true) (hm : X.mg "any" = none) (ha : DA X b [e] ta) (hg : Gl X "any") (he : starEach [e] X.env = [(false, eval e X.env)] := by rfl) (hpl : (backTo pos (starEach [] X.env)).any (·.1) = false := by rfl) : DE X b (.Call (.Name "any" p) [e] [] pos) (dFn (fBl fun bs => bs.any id) ta) :=
  de_fn on_bl ha fun pa => pe_callB (cr_any hc) hg hm (by decide +kernel) pa (he := he) (hpl := hpl)
theorem de_all (hc : X.calm = true) (hm : X.mg "all" = none) (ha : DA X b [e] ta) (hg : Gl X "all") (he : starEach [e] X.env = [(false, eval e X.env)] := by rfl) (hpl : (backTo pos (starEach [] X.env)).any (·.1) = false := by rfl) : DE X b (.Call (.Name "all" p) [e] [] pos) (dFn (fBl fun bs => bs.all id) ta) :=
  de_fn on_bl ha fun pa => pe_callB (cr_all hc) hg hm (by decide +kernel) pa (he := he) (hpl := hpl)
end
end DD
namespace DD
open PySem L2

/-! ### methods that change a list -/
def OpM (b : Bs) (r : V → List V → Hp → VK → Prop) (f : List D → List D → (List D → D → Prop) → Prop) : Prop :=
  ∀ {G H : Hp} {p : Addr} {us vs : List V} {ds es : List D} {q : List D → D → Prop} {K : VK}, H p = some (.lst us) → Reps b.cA G us ds → Reps b.cA G vs es → f ds es q →
    (∀ us' v' ds' z, Reps b.cA G us' ds' → Rep b.cA G v' z → q ds' z → K v' (upd H p (.lst us'))) → r (.ref p) vs H K
@[simp] def isLst (μ : M) (n : Nat) : Bool := match μ[n]? with
  | some (.lst _) => true
  | _ => false
@[simp] def dMut (f : List D → List D → (List D → D → Prop) → Prop) (to : DTE) (ta : DTA) (ρ : R) (μ : M) (Q : W → M → Prop) : Prop := to ρ μ fun w μ1 => match w with
  | .r n => isLst μ1 n = true ∧ ta ρ μ1 fun ws μ2 => match escs μ2 ws with
    | some (es, μ3) => match μ3[n]? with
      | some (.lst ds) => f ds es fun ds' z => Q (.d z) (μ3.set n (.lst ds'))
      | _ => False
    | none => False
  | _ => False
theorem isLst_at {b : Bs} {G H : Hp} {m : Wd} {μ : M} {n : Nat} {v : V} (o : WOk b G m μ H) (r : WRel b.cA G m v (.r n)) (h : isLst μ n = true) : ∃ p us, v = .ref p ∧ H p = some (.lst us) ∧ m[n]? = some [p] := by
  cases r with
  | @r _ p as e =>
  unfold isLst at h
  split at h
  · rename_i ds hc
    obtain ⟨p', xs, e1, e2, e3⟩ := o.rel.cell n _ _ hc e
    cases e1
    exact ⟨p, xs, rfl, e2, e⟩
  · cases h
theorem mut_core {b : Bs} {r : V → List V → Hp → VK → Prop} {f : List D → List D → (List D → D → Prop) → Prop} (hf : OpM b r f) {G H : Hp} {m : Wd} {μ2 : M} {n : Nat} {p : Addr} {vs : List V} {ws : List W} {Q : W → M → Prop} {K : VK} (o2 : WOk b G m μ2 H) (hp : m[n]? = some [p]) (r2 : WRels b.cA G m vs ws)
    (t : match escs μ2 ws with
      | some (es, μ3) => match μ3[n]? with
        | some (.lst ds) => f ds es fun ds' z => Q (.d z) (μ3.set n (.lst ds'))
        | _ => False
      | none => False)
    (k : ∀ v H' G' m' w μ', Le G m G' m' → WOk b G' m' μ' H' → WRel b.cA G' m' v w → Q w μ' → K v H') : r (.ref p) vs H K := by
  split at t
  · rename_i es μ3 e1
    obtain ⟨G3, l3, r3, rp⟩ := escs_ok o2.rel r2 e1
    split at t
    · rename_i ds hc
      obtain ⟨p', us, e2, e3, e4⟩ := r3.cell n _ _ hc hp
      cases e2
      refine hf e3 e4 rp t fun us' v' ds' z q1 q2 q3 => ?_
      exact k v' _ G3 m (.d z) _ l3 (o2.mono l3 (r3.write (c' := .lst ds') hc hp rfl (by simp) rfl ⟨p, us', rfl, upd_same, q1⟩)) (.d q2) q3
    · exact t.elim
  · exact t.elim
section
variable {X : Cx} {b : Bs} {pos apos : Pos} {o e : Expr} {es : List Expr} {to te : DTE} {ta : DTA} {name : Str}
theorem de_mut {r : V → List V → Hp → VK → Prop} {f : List D → List D → (List D → D → Prop) → Prop} (hf : OpM b r f) (ho : DE X b o to) (ha : DA X b (e :: es) ta)
    (hp : ∀ {to : TE} {ta : TA}, PE X o to → PA X (e :: es) ta → PE X (.Call (.Attribute o name apos) (e :: es) [] pos) (tBM X.K "list" r to ta)) : DE X b (.Call (.Attribute o name apos) (e :: es) [] pos) (dMut f to ta) := by
  obtain ⟨to', po, qo⟩ := ho.ex
  obtain ⟨ta', pa, qa⟩ := ha.ex
  refine ⟨_, hp po pa, fun {G m ρ μ σ H Q K} ok rr t k => ?_⟩
  refine qo ok rr t fun v H1 G1 m1 w μ1 l1 o1 r1 t1 => ?_
  split at t1
  · rename_i n
    obtain ⟨p, us, rfl, h1, h2⟩ := isLst_at o1 r1 t1.1
    refine ⟨.inl ⟨rfl, us, SqL.of h1⟩, ?_⟩
    refine qa o1 (rr.mono l1) t1.2 fun vs H2 G2 m2 ws μ2 l2 o2 r2 t2 => ?_
    exact mut_core hf o2 (l2.m _ _ h2) r2 t2 fun v H' G' m' w μ' l => k v H' G' m' w μ' (l1.trans (l2.trans l))
  · exact t1.elim
theorem de_mut0 {r : V → List V → Hp → VK → Prop} {f : List D → List D → (List D → D → Prop) → Prop} (hf : OpM b r f) (ho : DE X b o to)
    (hp : ∀ {to : TE}, PE X o to → PE X (.Call (.Attribute o name apos) [] [] pos) (tBM0 X.K "list" r to)) : DE X b (.Call (.Attribute o name apos) [] [] pos) (dMut f to dNil) := by
  obtain ⟨to', po, qo⟩ := ho.ex
  refine ⟨_, hp po, fun {G m ρ μ σ H Q K} ok rr t k => ?_⟩
  refine qo ok rr t fun v H1 G1 m1 w μ1 l1 o1 r1 t1 => ?_
  split at t1
  · rename_i n
    obtain ⟨p, us, rfl, h1, h2⟩ := isLst_at o1 r1 t1.1
    exact ⟨.inl ⟨rfl, us, SqL.of h1⟩, mut_core hf o1 h2 .nil t1.2 fun v H' G' m' w μ' l => k v H' G' m' w μ' (l1.trans l)⟩
  · exact t1.elim
@[simp] def mApp (ds es : List D) (q : List D → D → Prop) : Prop := match es with
  | [d] => ds.length < sizeLine ∧ q (ds ++ [d]) .non
  | _ => False
theorem om_app : OpM b rAppend mApp := by
  intro G H p us vs ds es q K h r1 r2 f k
  match es, r2, f with
  | [d], .cons r2 .nil, f => exact ⟨p, us, _, rfl, rfl, h, by rw [r1.len]; exact f.1, k _ _ _ _ (r1.app (.cons r2 .nil)) .non f.2⟩
def mPop (ds es : List D) (q : List D → D → Prop) : Prop := match es with
  | [] => match ds[ds.length - 1]? with
    | some d => q ds.dropLast d
    | none => False
  | [.int i] => (-(2 ^ 63) ≤ i ∧ i < 2 ^ 63) ∧ match seqIndex? i ds.length with
    | some k => match ds[k]? with
      | some d => q (ds.eraseIdx k) d
      | none => False
    | none => False
  | _ => False
theorem om_popAt : OpM b rPopAt (fun ds es q => match es with
    | [.int i] => mPop ds [.int i] q
    | _ => False) := by
  intro G H p us vs ds es q K h r1 r2 f k
  match es, r2, f with
  | [.int i], .cons r2 .nil, f =>
    cases r2
    obtain ⟨⟨h1, h2⟩, f⟩ := f
    split at f
    · rename_i n e
      split at f
      · rename_i d e2
        obtain ⟨v, e3, e4⟩ := r1.get' e2
        exact ⟨p, us, i, n, v, rfl, rfl, h, h1, h2, by rw [r1.len]; exact e, e3, k _ _ _ _ (r1.erase n) e4 f⟩
      · exact f.elim
    · exact f.elim
theorem reps_dropLast {cA : Nat → Addr} {G : Hp} {vs : List V} {ds : List D} (r : Reps cA G vs ds) : Reps cA G vs.dropLast ds.dropLast := by
  rw [List.dropLast_eq_take, List.dropLast_eq_take, r.len]
  exact r.take _
theorem om_pop : OpM b rPop (fun ds es q => match es with
    | [] => mPop ds [] q
    | _ => False) := by
  intro G H p us vs ds es q K h r1 r2 f k
  match es, r2, f with
  | [], .nil, f =>
    unfold mPop at f
    dsimp only at f
    split at f
    · rename_i d e
      obtain ⟨v, e3, e4⟩ := r1.get' e
      exact ⟨p, us, v, rfl, rfl, h, by rw [r1.len]; exact e3, k _ _ _ _ (reps_dropLast r1) e4 f⟩
    · exact f.elim
def mClear (ds es : List D) (q : List D → D → Prop) : Prop := match es with
  | [] => q [] .non
  | _ => False
theorem om_clear : OpM b rClear mClear := by
  intro G H p us vs ds es q K h r1 r2 f k
  match es, r2, f with
  | [], .nil, f => exact ⟨p, us, rfl, rfl, h, k _ _ _ _ .nil .non f⟩
theorem reps_rev {cA : Nat → Addr} {G : Hp} : ∀ {vs : List V} {ds : List D}, Reps cA G vs ds → Reps cA G vs.reverse ds.reverse
  | _, _, .nil => .nil
  | _, _, .cons r rs => by
    rw [List.reverse_cons, List.reverse_cons]
    exact (reps_rev rs).app (.cons r .nil)
@[simp] def mRev (ds es : List D) (q : List D → D → Prop) : Prop := match es with
  | [] => q ds.reverse .non
  | _ => False
theorem om_rev : OpM b rReverse mRev := by
  intro G H p us vs ds es q K h r1 r2 f k
  match es, r2, f with
  | [], .nil, f => exact ⟨p, us, rfl, rfl, h, k _ _ _ _ (reps_rev r1) .non f⟩
def mIns (ds es : List D) (q : List D → D → Prop) : Prop := match es with
  | [.int i, d] => ds.length < sizeLine ∧ (0 ≤ i ∧ i < 2 ^ 63) ∧ q (ds.take i.toNat ++ [d] ++ ds.drop i.toNat) .non
  | _ => False
theorem om_ins : OpM b (fun x vs H Q => ∃ (l : Addr) (xs : List V) (i : Int) (y : V), x = .ref l ∧ vs = [.int i, y] ∧ H l = some (.lst xs) ∧ xs.length < sizeLine ∧ 0 ≤ i ∧ i < 2 ^ 63 ∧
    Q .non (upd H l (.lst (xs.take i.toNat ++ [y] ++ xs.drop i.toNat)))) mIns := by
  intro G H p us vs ds es q K h r1 r2 f k
  match es, r2, f with
  | [.int i, d], .cons r2 (.cons r3 .nil), f =>
    cases r2
    exact ⟨p, us, i, _, rfl, rfl, h, by rw [r1.len]; exact f.1, f.2.1.1, f.2.1.2, k _ _ _ _ (((r1.take _).app (.cons r3 .nil)).app (r1.drop _)) .non f.2.2⟩
/-! ### l[i] = e on a mutable list -/
@[simp] def dgIx (to ti : DTE) (x : W) (ρ : R) (μ : M) (Q : R → M → Prop) : Prop := to ρ μ fun w μ1 => ti ρ μ1 fun i μ2 => match w, i with
  | .r n, .d (.int i) => match esc μ2 x with
    | some (d, μ3) => match μ3[n]? with
      | some (.lst ds) => match ixN ds.length i with
        | some j => Q ρ (μ3.set n (.lst (ds.set j d)))
        | none => False
      | _ => False
    | none => False
  | _, _ => False
theorem dg_ix {i : Expr} {ti : DTE} (ho : DE X b o to) (hi : DE X b i ti) (ha : ∀ v, assign (.Subscript o i pos) X.env v = (do
      let ov ← holding [v] (eval o X.env)
      let iv ← holding [v, ov] (eval i X.env)
      standAt pos
      holding [v, ov, iv] (setItem ov iv v)
      release [v, ov, iv] []) := by intro _; rfl) : DG X b (.Subscript o i pos) (dgIx to ti) := by
  obtain ⟨to', po, qo⟩ := ho.ex
  obtain ⟨ti', pi, qi⟩ := hi.ex
  refine ⟨_, pg_sub po pi set_list ha, fun {G m ρ μ σ H v x Q K} ok rr rx t k => ?_⟩
  refine qo ok rr t fun v1 H1 G1 m1 w μ1 l1 o1 r1 t1 => ?_
  refine qi o1 (rr.mono l1) t1 fun v2 H2 G2 m2 z μ2 l2 o2 r2 t2 => ?_
  split at t2
  · rename_i n j
    split at t2
    · rename_i d μ3 e1
      obtain ⟨G3, l3, r3, rp⟩ := esc_ok o2.rel ((rx.mono l1).mono l2) e1
      split at t2
      · rename_i ds hc
        split at t2
        · rename_i jj e4
          cases r1 with
          | @r _ p as e =>
          have hm := l2.m _ _ e
          obtain ⟨p', us, e5, e6, e7⟩ := r3.cell n _ _ hc hm
          cases e5
          refine ⟨p, us, j, jj, rfl, isInt r2, e6, by rw [e7.len]; exact e4, ?_⟩
          have lf := l1.trans (l2.trans l3)
          exact k σ _ G3 m2 ρ _ lf (o2.mono l3 (r3.write (c' := .lst (ds.set jj d)) hc hm rfl (by simp) rfl ⟨p, _, rfl, upd_same, e7.set rp jj⟩)) (rr.mono lf) t2
        · exact t2.elim
      · exact t2.elim
    · exact t2.elim
  · exact t2.elim
end
end DD
namespace DD
open PySem L2

def Bs.q (b : Bs) : Bs := { b with xc := fun _ _ => False }
theorem WOk.q {b : Bs} {G : Hp} {m : Wd} {μ : M} {H : Hp} (o : WOk b G m μ H) : WOk b.q G m μ H := ⟨o.le, o.rel⟩
theorem WOk.unq {b : Bs} {G : Hp} {m : Wd} {μ : M} {H : Hp} (o : WOk b.q G m μ H) : WOk b G m μ H := ⟨o.le, o.rel⟩
theorem xok_q {X : Cx} {b : Bs} : XOk X b.q := by
  intro pins σ H s e s' I c
  obtain ⟨_, _, _, cls, d, _, _, _, _, _, _, _, z⟩ := c
  obtain ⟨_, _, _, _, _, _, _, f⟩ := z
  exact f.elim
/-! ### one reading for all contexts of a family -/
def can (X : Cx) (e : Expr) : TE := fun σ H Q => ∀ (pins : List (Addr × Obj)) (s : Shared), Inv X pins σ H s → wpAny (model X.prog X.w) X.A (eval e X.env) (EP X pins σ Q) X.xe s
theorem uni_e {F : Cx → Prop} {b : Bs} {e : Expr} {t : DTE} (h : ∀ X, F X → DE X b e t) : ∃ te : TE, (∀ X, F X → PE X e te) ∧ ∀ {G : Hp} {m : Wd} {ρ : R} {μ : M} {σ : L2.St} {H : Hp} {Q : W → M → Prop} {K : VK}, WOk b G m μ H → RelR b.cA G m σ ρ → t ρ μ Q →
    (∀ v H' G' m' w μ', Le G m G' m' → WOk b G' m' μ' H' → WRel b.cA G' m' v w → Q w μ' → K v H') → te σ H K := by
  refine ⟨fun σ H Q => ∀ X, F X → can X e σ H Q, fun X hX => ⟨fun pins s σ H Q I q => q X hX pins s I⟩, fun {G m ρ μ σ H Q K} o r t' k X hX pins s I => ?_⟩
  obtain ⟨te, p, q⟩ := (h X hX).ex
  exact p.run pins s σ H K I (q o r t' k)
structure DTs (X : Cx) (b : Bs) (ifs : List Expr) (t : DTT) : Prop where
  ex : ∃ te : TT, PTs X ifs te ∧ ∀ {G : Hp} {m : Wd} {ρ : R} {μ : M} {σ : L2.St} {H : Hp} {Q : Bool → M → Prop} {K : Bool → Hp → Prop}, WOk b G m μ H → RelR b.cA G m σ ρ → t ρ μ Q →
    (∀ c H' G' m' μ', Le G m G' m' → WOk b G' m' μ' H' → Q c μ' → K c H') → te σ H K
@[simp] def dYes (_ρ : R) (μ : M) (Q : Bool → M → Prop) : Prop := Q true μ
theorem dts_nil {X : Cx} {b : Bs} : DTs X b [] dYes := ⟨_, pts_nil, fun {G m ρ μ σ H Q K} o r t k => k true H G m μ (Le.refl G m) o t⟩
theorem dts_one {X : Cx} {b : Bs} {c : Expr} {t : DTT} (h : DT X b c t) : DTs X b [c] t := by
  obtain ⟨t', p, q⟩ := h.ex
  exact ⟨_, pts_one p, q⟩
theorem uni_t {F : Cx → Prop} {b : Bs} {ifs : List Expr} {t : DTT} (h : ∀ X, F X → DTs X b ifs t) : ∃ te : TT, (∀ X, F X → PTs X ifs te) ∧ ∀ {G : Hp} {m : Wd} {ρ : R} {μ : M} {σ : L2.St} {H : Hp} {Q : Bool → M → Prop} {K : Bool → Hp → Prop}, WOk b G m μ H → RelR b.cA G m σ ρ → t ρ μ Q →
    (∀ c H' G' m' μ', Le G m G' m' → WOk b G' m' μ' H' → Q c μ' → K c H') → te σ H K := by
  refine ⟨fun σ H Q => ∀ X, F X → ∀ (pins : List (Addr × Obj)) (s : Shared), Inv X pins σ H s →
    wpAny (model X.prog X.w) X.A (forIn ifs true fun c r => if r = true then do let ok ← isTrue c X.env (eval c X.env); pure (ForInStep.yield ok) else pure (ForInStep.yield r)) (TP X pins σ Q) X.xe s, fun X hX => ⟨fun pins s σ H Q I q => q X hX pins s I⟩, fun {G m ρ μ σ H Q K} o r t' k X hX pins s I => ?_⟩
  obtain ⟨te, p, q⟩ := (h X hX).ex
  exact p.run pins s σ H K I (q o r t' k)
/-! ### targets that store the block's own names only -/
def wipeR (ρ : R) : List Nat → R
  | [] => ρ
  | v :: vs => (wipeR ρ vs).set v none
theorem RelR.wipe {cA : Nat → Addr} {G : Hp} {m : Wd} {σ : L2.St} {ρ : R} (r : RelR cA G m σ ρ) : ∀ vs : List Nat, RelR cA G m (L2.wipe σ vs) (wipeR ρ vs)
  | [] => r
  | v :: vs => by
    have ih := r.wipe vs
    unfold L2.wipe wipeR
    refine ⟨by simp [ih.1], fun i w h => ?_⟩
    by_cases e : v = i
    · subst e
      have hl : v < (wipeR ρ vs).length := by
        have := (List.getElem?_eq_some_iff.mp h).1
        simpa using this
      rw [List.getElem?_set_self hl] at h
      cases h
    · rw [List.getElem?_set_ne e] at h ⊢
      exact ih.2 i w h
theorem wipe_set {σ : L2.St} {i : Nat} {x : Option V} : ∀ {vs : List Nat}, i ∈ vs → L2.wipe (σ.set i x) vs = L2.wipe σ vs
  | v :: vs, h => by
    unfold L2.wipe
    by_cases e : i ∈ vs
    · rw [wipe_set e]
    · have hv : i = v := (List.mem_cons.mp h).resolve_right e
      subst hv
      have key : ∀ {vs : List Nat} (τ : L2.St), i ∉ vs → L2.wipe (τ.set i x) vs = (L2.wipe τ vs).set i x := fun {vs} τ => by
        induction vs with
        | nil => intro _; rfl
        | cons a as ih =>
          intro hn
          unfold L2.wipe
          rw [ih (fun z => hn (List.mem_cons_of_mem _ z)), List.set_comm]
          intro q
          exact hn (by rw [q]; exact List.mem_cons_self)
      rw [key σ e, List.set_set]
theorem wipe_wipe {σ : L2.St} (vs : List Nat) : L2.wipe (L2.wipe σ vs) vs = L2.wipe σ vs := by
  apply List.ext_getElem?
  intro i
  by_cases h : i ∈ vs
  · have key : ∀ (τ τ' : L2.St), τ.length = τ'.length → ∀ vs : List Nat, i ∈ vs → (L2.wipe τ vs)[i]? = (L2.wipe τ' vs)[i]? := fun τ τ' hl vs => by
      induction vs with
      | nil => intro z; cases z
      | cons a as ih =>
        intro hm
        unfold L2.wipe
        by_cases q : a = i
        · subst q
          by_cases ha : a < τ.length
          · rw [List.getElem?_set_self (by rw [wipe_length]; exact ha), List.getElem?_set_self (by rw [wipe_length, ← hl]; exact ha)]
          · rw [List.getElem?_eq_none (by simp [wipe_length]; omega), List.getElem?_eq_none (by simp [wipe_length]; omega)]
        · rw [List.getElem?_set_ne q, List.getElem?_set_ne q]
          exact ih ((List.mem_cons.mp hm).resolve_left (Ne.symm q))
    exact key _ _ (wipe_length σ vs) vs h
  · exact wipe_out h
structure DGo (X : Cx) (b : Bs) (vs : List Nat) (tg : Expr) (t : DTG) : Prop where
  ex : ∃ g : TG, PG X tg g ∧ ∀ {G : Hp} {m : Wd} {ρ : R} {μ : M} {σ : L2.St} {H : Hp} {v : V} {w : W} {Q : R → M → Prop} {K : L2.St → Hp → Prop}, WOk b G m μ H → RelR b.cA G m σ ρ → WRel b.cA G m v w → t w ρ μ Q →
    (∀ σ' H' G' m' ρ' μ', Le G m G' m' → WOk b G' m' μ' H' → RelR b.cA G' m' σ' ρ' → L2.wipe σ' vs = L2.wipe σ vs → Q ρ' μ' → K σ' H') → g v σ H K
structure DGos (X : Cx) (b : Bs) (vs : List Nat) (tgs : List Expr) (t : List D → R → M → (R → M → Prop) → Prop) : Prop where
  ex : ∃ g : TGs, PGs X tgs g ∧ ∀ {G : Hp} {m : Wd} {ρ : R} {μ : M} {σ : L2.St} {H : Hp} {us : List V} {ds : List D} {Q : R → M → Prop} {K : L2.St → Hp → Prop}, WOk b G m μ H → RelR b.cA G m σ ρ → Reps b.cA G us ds → t ds ρ μ Q →
    (∀ σ' H' G' m' ρ' μ', Le G m G' m' → WOk b G' m' μ' H' → RelR b.cA G' m' σ' ρ' → L2.wipe σ' vs = L2.wipe σ vs → Q ρ' μ' → K σ' H') → g us σ H K
section
variable {X : Cx} {b : Bs} {pos : Pos} {vs : List Nat} {e : Expr}
theorem dgo_name {i : Nat} {x : Str} (h : PG X (.Name x pos) (gName i)) (hi : i ∈ vs) : DGo X b vs (.Name x pos) (gN i) :=
  ⟨_, h, fun {G m ρ μ σ H v w Q K} o r q t k => k _ H G m _ μ (Le.refl G m) o (r.set q i) (wipe_set hi) t⟩
theorem dgos_nil : DGos X b vs [] gsNil := by
  refine ⟨_, pgs_nil, fun {G m ρ μ σ H us ds Q K} o r q t k => ?_⟩
  cases q with
  | nil => exact ⟨rfl, k σ H G m ρ μ (Le.refl G m) o r rfl t⟩
  | cons _ _ => exact t.elim
theorem dgos_cons {es : List Expr} {t : DTG} {u : List D → R → M → (R → M → Prop) → Prop} (h1 : DGo X b vs e t) (h2 : DGos X b vs es u) (hs : (assignEach (e :: es) X.env).map (·.2) = assign e X.env :: (assignEach es X.env).map (·.2) := by rfl) : DGos X b vs (e :: es) (gsCons t u) := by
  obtain ⟨g, p, q⟩ := h1.ex
  obtain ⟨gs, ps, qs⟩ := h2.ex
  refine ⟨_, pgs_cons p ps hs, fun {G m ρ μ σ H us ds Q K} o r rr t k => ?_⟩
  cases rr with
  | nil => exact t.elim
  | cons r1 rs => exact ⟨_, _, rfl, q o r (.d r1) t fun σ' H' G' m' ρ' μ' l o' r' z t' => qs o' r' (rs.mono l.g) t' fun σ2 H2 G2 m2 ρ2 μ2 l2 o2 r2 z2 t2 => k σ2 H2 G2 m2 ρ2 μ2 (l.trans l2) o2 r2 (z2.trans z) t2⟩
theorem dgo_tup {es : List Expr} {j n : Nat} {t : List D → R → M → (R → M → Prop) → Prop} (hc : X.calm = true) (h : DGos X b vs es t) (hn : (assignEach es X.env).length = n := by rfl) (hst : (assignEach es X.env).findIdx? (·.1) = none := by rfl) : DGo X b vs (.Tuple es j pos) (gTp n t) := by
  obtain ⟨gs, ps, qs⟩ := h.ex
  refine ⟨_, pg_tup hc ps hn hst, fun {G m ρ μ σ H v w Q K} o r q t k => ?_⟩
  unfold gTp at t
  split at t
  · rename_i ds
    cases q with
    | d q =>
      obtain ⟨p, xs, rfl, h1, r1⟩ := q.now o.rel.gh
      exact ⟨p, xs, rfl, SqT.of h1, by rw [r1.len]; exact t.1, qs o r r1 t.2 k⟩
  · exact t.elim
end
theorem uni_g {F : Cx → Prop} {b : Bs} {vs : List Nat} {tg : Expr} {t : DTG} (h : ∀ X, F X → DGo X b vs tg t) : ∃ g : TG, (∀ X, F X → PG X tg g) ∧ ∀ {G : Hp} {m : Wd} {ρ : R} {μ : M} {σ : L2.St} {H : Hp} {v : V} {w : W} {Q : R → M → Prop} {K : L2.St → Hp → Prop}, WOk b G m μ H → RelR b.cA G m σ ρ → WRel b.cA G m v w → t w ρ μ Q →
    (∀ σ' H' G' m' ρ' μ', Le G m G' m' → WOk b G' m' μ' H' → RelR b.cA G' m' σ' ρ' → L2.wipe σ' vs = L2.wipe σ vs → Q ρ' μ' → K σ' H') → g v σ H K := by
  refine ⟨fun v σ H Q => ∀ X, F X → ∀ (pins : List (Addr × Obj)) (s : Shared) (u : Value), Inv X pins σ H s → RelV v u → wpAny (model X.prog X.w) X.A (assign tg X.env u) (fun _ s' => ∃ σ' H', Inv X pins σ' H' s' ∧ Q σ' H') X.xe s,
    fun X hX => ⟨fun pins s σ H v u Q I rv q => q X hX pins s u I rv⟩, fun {G m ρ μ σ H v w Q K} o r q t' k X hX pins s u I rv => ?_⟩
  obtain ⟨g, p, q'⟩ := (h X hX).ex
  exact p.run pins s σ H v u K I rv (q' o r q t' k)

/-! ### a last cell that goes -/
theorem rel_last {cA : Nat → Addr} {U G H : Hp} {m : Wd} {μ : M} (r : RelM cA U G m μ H) (h : closedB (μ.length - 1) μ.dropLast = true) : RelM cA U G m.dropLast μ.dropLast H := by
  have e1 : μ.dropLast = μ.take (μ.length - 1) := List.dropLast_eq_take
  have e2 : m.dropLast = m.take (μ.length - 1) := by rw [List.dropLast_eq_take, r.len]
  rw [e1] at h ⊢
  rw [e2]
  exact rel_take r h
theorem closed_of {cA : Nat → Addr} {U G H : Hp} {m : Wd} {μ : M} (r : RelM cA U G m μ H) : closedB μ.length μ = true := by
  refine List.all_eq_true.mpr fun c hc => ?_
  obtain ⟨i, hi, rfl⟩ := List.getElem_of_mem hc
  have k := r.cell i μ[i] (m[i]'(by rw [r.len]; exact hi)) (List.getElem?_eq_getElem hi) (List.getElem?_eq_getElem _)
  generalize μ[i] = c at k
  cases c with
  | ins c fs ws =>
    obtain ⟨p, dx, xs, _, _, _, q⟩ := k
    refine List.all_eq_true.mpr fun w hw => ?_
    obtain ⟨j, hj, rfl⟩ := List.getElem_of_mem hw
    obtain ⟨v, _, rv⟩ := q.get' (List.getElem?_eq_getElem hj)
    generalize ws[j] = w at rv
    cases rv with
    | d _ => rfl
    | r e => exact decide_eq_true (by rw [← r.len]; exact (List.getElem?_eq_some_iff.mp e).1)
  | lstW ws =>
    obtain ⟨p, xs, _, _, q⟩ := k
    refine List.all_eq_true.mpr fun w hw => ?_
    obtain ⟨j, hj, rfl⟩ := List.getElem_of_mem hw
    obtain ⟨v, _, rv⟩ := q.get' (List.getElem?_eq_getElem hj)
    generalize ws[j] = w at rv
    cases rv with
    | d _ => rfl
    | r e => exact decide_eq_true (by rw [← r.len]; exact (List.getElem?_eq_some_iff.mp e).1)
  | _ => rfl
/-! ### list comprehensions -/
def closeL (n : Nat) (acc : List D) (μ : M) : Prop := μ.length = n + 1 ∧ μ.getLast? = some (.lst acc) ∧ closedB n μ.dropLast = true
def dLc (mu : Bool) (ti : DTI) (g : DTG) (tt : DTT) (te : DTE) (vs : List Nat) (ρ : R) (μ : M) (Q : W → M → Prop) : Prop := ti ρ μ fun s μ1 => ∃ P : Nat → List D → M → Prop, P 0 [] μ1 ∧
  (∀ i acc μ', i ≤ s.items.length → P i acc μ' → s.ok (μ' ++ [.lst acc])) ∧
  (∀ i w acc μ', s.items[i]? = some w → P i acc μ' → acc.length < sizeLine ∧ g w (wipeR ρ vs) (μ' ++ [.lst acc]) fun ρ2 μ2 => tt ρ2 μ2 fun c μ3 =>
    if c = true then te ρ2 μ3 fun w μ4 => match esc μ4 w with
      | some (d', μ5) => closeL μ'.length acc μ5 ∧ P (i + 1) (acc ++ [d']) μ5.dropLast
      | none => False
    else closeL μ'.length acc μ3 ∧ P (i + 1) acc μ3.dropLast) ∧
  ∀ acc μ', P s.items.length acc μ' → if mu then Q (.r μ'.length) (μ' ++ [.lst acc]) else Q (.d (.lst acc)) μ'
theorem dropLast_app {α : Type} (l : List α) (a : α) : (l ++ [a]).dropLast = l := by simp
theorem last_app {α : Type} {l : List α} {a : α} (h : l.getLast? = some a) : l.dropLast ++ [a] = l := by
  rw [List.getLast?_eq_some_iff] at h
  obtain ⟨ys, rfl⟩ := h
  simp
theorem lc_coreD {X : Cx} {b : Bs} {wi : TI} {g : TG} {tt : TT} {te : TE} {ti : DTI} {dg : DTG} {dt : DTT} {de : DTE} {vs : List Nat} {mu : Bool}
    (qi : ∀ {G : Hp} {m : Wd} {ρ : R} {μ : M} {σ : L2.St} {H : Hp} {Q : Src → M → Prop} {K : It → Hp → Prop}, WOk b G m μ H → RelR b.cA G m σ ρ → ti ρ μ Q → (∀ J H' G' m' s μ', Le G m G' m' → WOk b G' m' μ' H' → SrcOk b G' m' s J → Q s μ' → K J H') → wi σ H K)
    (qg : ∀ {G : Hp} {m : Wd} {ρ : R} {μ : M} {σ : L2.St} {H : Hp} {v : V} {w : W} {Q : R → M → Prop} {K : L2.St → Hp → Prop}, WOk b.q G m μ H → RelR b.q.cA G m σ ρ → WRel b.q.cA G m v w → dg w ρ μ Q →
      (∀ σ' H' G' m' ρ' μ', Le G m G' m' → WOk b.q G' m' μ' H' → RelR b.q.cA G' m' σ' ρ' → L2.wipe σ' vs = L2.wipe σ vs → Q ρ' μ' → K σ' H') → g v σ H K)
    (qt : ∀ {G : Hp} {m : Wd} {ρ : R} {μ : M} {σ : L2.St} {H : Hp} {Q : Bool → M → Prop} {K : Bool → Hp → Prop}, WOk b.q G m μ H → RelR b.q.cA G m σ ρ → dt ρ μ Q → (∀ c H' G' m' μ', Le G m G' m' → WOk b.q G' m' μ' H' → Q c μ' → K c H') → tt σ H K)
    (qe : ∀ {G : Hp} {m : Wd} {ρ : R} {μ : M} {σ : L2.St} {H : Hp} {Q : W → M → Prop} {K : VK}, WOk b.q G m μ H → RelR b.q.cA G m σ ρ → de ρ μ Q → (∀ v H' G' m' w μ', Le G m G' m' → WOk b.q G' m' μ' H' → WRel b.q.cA G' m' v w → Q w μ' → K v H') → te σ H K)
    {G : Hp} {m : Wd} {ρ : R} {μ : M} {σ : L2.St} {H : Hp} {Q : W → M → Prop} {K : VK} (o : WOk b G m μ H) (r : RelR b.cA G m σ ρ) (t : dLc mu ti dg dt de vs ρ μ Q)
    (k : ∀ v H' G' m' w μ', Le G m G' m' → WOk b G' m' μ' H' → WRel b.cA G' m' v w → Q w μ' → K v H') : tLc wi g tt te vs σ H K := by
  refine qi o r t fun J H1 G1 m1 s μ1 l1 o1 so ⟨P, h0, hok, hstep, hend⟩ D hD => ?_
  -- the new list is the last cell
  refine ⟨fun i n H => n = s.items.length - i ∧ i ≤ s.items.length ∧ ∃ acc G' m' μ', Le G1 m1 G' m' ∧ WOk b G' (m' ++ [[D]]) (μ' ++ [.lst acc]) H ∧ m'.length = μ'.length ∧ closedB μ'.length μ' = true ∧ P i acc μ', ⟨s.items.length, by simp, Nat.zero_le _, [], G1, m1, μ1, Le.refl _ _, ?_, o1.rel.len, closed_of o1.rel, h0⟩, ?_⟩
  · exact o1.mono Le.cellNew (o1.rel.cellNew (c := .lst []) hD ⟨D, [], rfl, upd_same, .nil⟩)
  rintro i n H2 ⟨rfl, hi, acc, G2, m2, μ2, l2, o2, hl, hcl, hP⟩
  have lx : Le G1 m1 G2 (m2 ++ [[D]]) := l2.trans Le.cellNew
  have ok2 := hok i acc μ2 hi hP
  by_cases hlt : i < s.items.length
  · refine .inr ⟨so.go lx o2 ok2 hlt, fun H' => ∃ acc G' m' μ', Le G1 m1 G' m' ∧ WOk b G' (m' ++ [[D]]) (μ' ++ [.lst acc]) H' ∧ m'.length = μ'.length ∧ closedB μ'.length μ' = true ∧ P (i + 1) acc μ', fun H' z => ⟨_, by omega, rfl, hlt, z⟩, fun x H3 y => ?_⟩
    obtain ⟨G3, d, l3, o3, e3, r3⟩ := so.yld lx o2 ok2 y hlt
    obtain ⟨hz, st⟩ := hstep i d acc μ2 e3 hP
    have r2 : RelR b.cA G3 (m2 ++ [[D]]) (L2.wipe σ vs) (wipeR ρ vs) := (((r.mono l1).mono lx).mono l3).wipe vs
    -- behind the element: the list is still the last cell
    have back : ∀ {G5 : Hp} {m5 : Wd} {μ5 : M} {H5 : Hp}, Le G3 (m2 ++ [[D]]) G5 m5 → RelM b.cA b.U G5 m5 μ5 H5 → closeL μ2.length acc μ5 → Le G1 m1 G5 m5.dropLast ∧ m5 = m5.dropLast ++ [[D]] ∧ μ5 = μ5.dropLast ++ [.lst acc] ∧ m5.dropLast.length = μ5.dropLast.length ∧ closedB μ5.dropLast.length μ5.dropLast = true := fun {G5 m5 μ5 H5} l5 o5 ⟨c0, c1, c2⟩ => by
      have hm5 : m5.length = m2.length + 1 := by rw [o5.len, c0, hl]
      have hD5 : m5[m2.length]? = some [D] := l5.m _ _ (by simp)
      have e5 : m5.dropLast ++ [[D]] = m5 := by
        apply last_app
        rw [List.getLast?_eq_getElem?, hm5]
        exact hD5
      refine ⟨⟨l2.g.trans (l3.g.trans l5.g), fun j as e => ?_⟩, e5.symm, (last_app c1).symm, by simp [o5.len], by rw [List.length_dropLast, c0]; exact c2⟩
      have h1 := l2.m j as e
      have h2 := l5.m j as (by rw [List.getElem?_append_left (List.getElem?_eq_some_iff.mp h1).1]; exact h1)
      have hj := (List.getElem?_eq_some_iff.mp h1).1
      rw [← e5, List.getElem?_append_left (by rw [List.length_dropLast, hm5]; omega)] at h2
      exact h2
    have wipe2 : L2.wipe (L2.wipe σ vs) vs = L2.wipe σ vs := wipe_wipe vs
    refine qg (v := x) (w := d) o3.q r2 r3 st fun σ4 H4 G4 m4 ρ4 μ4 l4 o4 r4 z4 t4 => ⟨z4.trans wipe2, ?_⟩
    refine qt o4 r4 t4 fun c H5 G5 m5 μ5 l5 o5 t5 => ?_
    cases c with
    | false =>
      obtain ⟨c5, h5⟩ := t5
      obtain ⟨b1, b2, b3, b4, b5⟩ := back (l4.trans l5) o5.rel c5
      exact ⟨acc, G5, m5.dropLast, μ5.dropLast, b1, by rw [← b2, ← b3]; exact o5.unq, b4, b5, h5⟩
    | true =>
      refine qe o5 (r4.mono l5) t5 fun y H6 G6 m6 w6 μ6 l6 o6 r6 t6 => ?_
      split at t6
      · rename_i d' μ7 e7
        obtain ⟨G7, l7, r7, p7⟩ := esc_ok o6.rel r6 e7
        obtain ⟨c7, h7⟩ := t6
        have lf : Le G3 (m2 ++ [[D]]) G7 m6 := l4.trans (l5.trans (l6.trans l7))
        obtain ⟨b1, b2, b3, b4, b5⟩ := back lf r7 c7
        have hn : m6[μ7.dropLast.length]? = some [D] := by
          rw [b2, ← b4]
          simp
        have hc : μ7[μ7.dropLast.length]? = some (.lst acc) := by
          rw [b3]
          simp
        obtain ⟨p', xs, e8, e9, e10⟩ := r7.cell _ _ _ hc hn
        cases e8
        refine ⟨xs, e9, by rw [e10.len]; exact hz, acc ++ [d'], G7, m6.dropLast, μ7.dropLast, b1, ?_, b4, b5, h7⟩
        have rw7 := r7.write (p := D) (o := .lst (xs ++ [y])) (c' := .lst (acc ++ [d'])) hc hn rfl (by simp) rfl ⟨D, _, rfl, upd_same, e10.app (.cons p7 .nil)⟩
        have e11 : μ7.set μ7.dropLast.length (.lst (acc ++ [d'])) = μ7.dropLast ++ [.lst (acc ++ [d'])] := by
          have e12 : ∀ (l : M) (x y : Cell), (l ++ [x]).set l.length y = l ++ [y] := fun l x y => by simp
          have e13 := e12 μ7.dropLast (.lst acc) (.lst (acc ++ [d']))
          rw [← b3] at e13
          exact e13
        rw [e11] at rw7
        rw [← b2]
        have le : Le b.G0 b.m0 G7 m6 := (o3.le.trans lf)
        exact ⟨le, rw7⟩
      · exact t6.elim
  · have e : i = s.items.length := by omega
    subst e
    refine .inl ⟨so.stop lx o2 ok2, ?_⟩
    have he := hend acc μ2 hP
    have hn : (m2 ++ [[D]])[μ2.length]? = some [D] := by rw [← hl]; simp
    have hc : (μ2 ++ [Cell.lst acc])[μ2.length]? = some (.lst acc) := by simp
    obtain ⟨p', xs, e8, e9, e10⟩ := o2.rel.cell _ _ _ hc hn
    cases e8
    cases mu with
    | true =>
      have he : Q (.r μ2.length) (μ2 ++ [.lst acc]) := he
      exact k _ H2 G2 (m2 ++ [[D]]) (.r μ2.length) (μ2 ++ [.lst acc]) (l1.trans lx) o2 (.r (as := []) hn) he
    | false =>
    have he : Q (.d (.lst acc)) μ2 := he
    have hg := (o2.rel.free _ _ _ D hc hn rfl (by simp)).1
    have rp : Rep b.cA (upd G2 D (.lst xs)) (.ref D) (.lst acc) := .lst upd_same (e10.mono (Le.know (m := m2) hg).g)
    have rz := o2.rel.freeze hc hn rfl e9 rp
    have e1 : ((μ2 ++ [Cell.lst acc]).set μ2.length (.frz (.lst acc))) = μ2 ++ [.frz (.lst acc)] := by simp
    rw [e1] at rz
    have rl := rel_last rz (by simpa using hcl)
    rw [dropLast_app, dropLast_app] at rl
    have lk : Le G2 m2 (upd G2 D (.lst xs)) m2 := Le.know hg
    have le : Le b.G0 b.m0 G1 m1 := o1.le
    exact k _ H2 _ m2 _ μ2 (l1.trans (l2.trans lk)) ⟨le.trans (l2.trans lk), rl⟩ (.d rp) he
/-- the contexts of a block's element -/
def Blk (X : Cx) (scope : Scope) (X' : Cx) : Prop := ∃ (s : Shared) (H : Hp) (C : Addr) (cl : List (Str × Addr)) (fp : List Addr), X' = X.blk s H scope (compEnvC scope cl C X.env) fp
section
variable {X : Cx} {b : Bs} {elt tg iter : Expr} {ifs : List Expr} {scope : Scope} {own : List (Str × Nat)} {pos : Pos} {ti : DTI} {g : DTG} {tt : DTT} {te : DTE}
theorem de_lc (mu : Bool) (hc : X.calm = true) (hN : X.N.Nodup) (hi : DI X b tg iter ti) (ok : BlkOk X.N X.env.scope scope own) (hg : ∀ X', Blk X scope X' → DGo X' b.q (own.map (·.2)) tg g) (ht : ∀ X', Blk X scope X' → DTs X' b.q ifs tt) (he : ∀ X', Blk X scope X' → DE X' b.q elt te)
    (hs : ∀ x, foldedSetIterable iter X.env x = pure x := by intro _; rfl) : DE X b (.ListComp elt [⟨tg, iter, ifs, 0⟩] scope pos) (dLc mu ti g tt te (own.map (·.2))) := by
  obtain ⟨wi, p1, q1⟩ := hi.ex
  obtain ⟨g', p2, q2⟩ := uni_g hg
  obtain ⟨t', p3, q3⟩ := uni_t ht
  obtain ⟨e', p4, q4⟩ := uni_e he
  refine ⟨_, pe_lc hc hN p1 ok (fun s H C cl fp => p2 _ ⟨s, H, C, cl, fp, rfl⟩) (fun s H C cl fp => p3 _ ⟨s, H, C, cl, fp, rfl⟩) (fun s H C cl fp => p4 _ ⟨s, H, C, cl, fp, rfl⟩) hs, fun {G m ρ μ σ H Q K} o r t k => ?_⟩
  exact lc_coreD (X := X) q1 q2 q3 q4 o r t k
/-- name = [..] on one line -/
theorem ds_setLc (mu : Bool) {i : Nat} {y : Str} {py spos : Pos} (hc : X.calm = true) (hN : X.N.Nodup) (hy : X.N[i]? = some y) (hyl : X.env.scope.names.lookup y = some .local) (hsw : swapsWith (.ListComp elt [⟨tg, iter, ifs, 0⟩] scope pos) (some (.Name y py)) spos.line X.env = pure true)
    (hi : DI X b tg iter ti) (ok : BlkOk X.N X.env.scope scope own) (hg : ∀ X', Blk X scope X' → DGo X' b.q (own.map (·.2)) tg g) (ht : ∀ X', Blk X scope X' → DTs X' b.q ifs tt) (he : ∀ X', Blk X scope X' → DE X' b.q elt te)
    (hs : ∀ x, foldedSetIterable iter X.env x = pure x := by intro _; rfl) : DS X b (.Assign [.Name y py] (.ListComp elt [⟨tg, iter, ifs, 0⟩] scope pos) spos) (dAsg (dLc mu ti g tt te (own.map (·.2))) (gN i)) := by
  obtain ⟨wi, p1, q1⟩ := hi.ex
  obtain ⟨g', p2, q2⟩ := uni_g hg
  obtain ⟨t', p3, q3⟩ := uni_t ht
  obtain ⟨e', p4, q4⟩ := uni_e he
  refine ⟨_, ps_setLc hc hN hy hyl hsw p1 ok (fun s H C cl fp => p2 _ ⟨s, H, C, cl, fp, rfl⟩) (fun s H C cl fp => p3 _ ⟨s, H, C, cl, fp, rfl⟩) (fun s H C cl fp => p4 _ ⟨s, H, C, cl, fp, rfl⟩) hs, fun {G m ρ μ σ H D E} o r t k => ?_⟩
  exact lc_coreD (X := X) q1 q2 q3 q4 o r t fun v H' G' m' w μ' l o' r' t' => k.nx _ H' G' m' _ μ' l o' ((r.mono l).set r' i) t'
end
end DD
namespace DD
open PySem L2

/-! ### an attribute is stored -/
@[simp] def putN (f : Str) : List Str → List Str
  | [] => [f]
  | g :: fs => if g = f then g :: fs else g :: putN f fs
@[simp] def putA {α : Type} (f : Str) (w : α) : List Str → List α → List α
  | g :: fs, x :: ws => if g = f then w :: ws else x :: putA f w fs ws
  | _, _ => [w]
theorem putF_zip (f : Str) (y : V) : ∀ (fs : List Str) (xs : List V), fs.length = xs.length → putF f y (fs.zip xs) = (putN f fs).zip (putA f y fs xs) ∧ (putN f fs).length = (putA f y fs xs).length
  | [], [], _ => ⟨rfl, rfl⟩
  | g :: fs, x :: xs, h => by
    obtain ⟨i1, i2⟩ := putF_zip f y fs xs (by simpa using h)
    unfold putN putA
    rw [List.zip_cons_cons]
    show (if g = f then (g, y) :: fs.zip xs else (g, x) :: putF f y (fs.zip xs)) = _ ∧ _
    by_cases e : g = f
    · rw [if_pos e, if_pos e, if_pos e]
      exact ⟨rfl, by simpa using h⟩
    · rw [if_neg e, if_neg e, if_neg e, i1]
      exact ⟨rfl, by simp [i2]⟩
theorem putA_rel {cA : Nat → Addr} {G : Hp} {m : Wd} {f : Str} {y : V} {w : W} (q : WRel cA G m y w) : ∀ {fs : List Str} {xs : List V} {ws : List W}, fs.length = xs.length → WRels cA G m xs ws → WRels cA G m (putA f y fs xs) (putA f w fs ws)
  | [], _, _, h, .nil => .cons q .nil
  | [], _, _, h, .cons r rs => by simp at h
  | g :: fs, _, _, h, .nil => by simp at h
  | g :: fs, _, _, h, .cons r rs => by
    unfold putA
    by_cases e : g = f
    · rw [if_pos e, if_pos e]; exact .cons q rs
    · rw [if_neg e, if_neg e]; exact .cons r (putA_rel q (by simpa using h) rs)
section
variable {X : Cx} {b : Bs} {pos pos' p apos : Pos} {o e : Expr} {es : List Expr} {to te : DTE} {ta : DTA} {f x : Str}
@[simp] def dFldSet (fl : Nat → List Str) (f : Str) (to te : DTE) (D : DEnds) (ρ : R) (μ : M) : Prop := te ρ μ fun x μ1 => to ρ μ1 fun w μ2 => match w with
  | .r n => match μ2[n]? with
    | some (.ins c fs ws) => (f ∈ fl c ∧ fs.length < 1000) ∧ D.nx ρ (μ2.set n (.ins c (putN f fs) (putA f x fs ws)))
    | _ => False
  | _ => False
theorem ds_fld {fl : Nat → List Str} (cf : CF X.K b.cA fl) (ho : DE X b o to) (he : DE X b e te) (hs : swapsWith e (some (.Attribute o f pos')) pos.line X.env = pure false := by rfl) : DS X b (.Assign [.Attribute o f pos'] e pos) (dFldSet fl f to te) := by
  obtain ⟨to', po, qo⟩ := ho.ex
  obtain ⟨te', pe, qe⟩ := he.ex
  refine ⟨_, ps_fld po pe hs, fun {G m ρ μ σ H D E} ok r t k => ?_⟩
  refine qe ok r t fun v H1 G1 m1 x μ1 l1 o1 r1 t1 => ?_
  refine qo o1 (r.mono l1) t1 fun u H2 G2 m2 w μ2 l2 o2 r2 t2 => ?_
  split at t2
  · rename_i n
    split at t2
    · rename_i c fs ws hc
      cases r2 with
      | @r _ a as hm =>
      obtain ⟨a', dx, xs, e1, e2, e3, e4⟩ := o2.rel.cell n _ _ hc hm
      cases e1
      obtain ⟨⟨h1, h2⟩, t2⟩ := t2
      refine ⟨a, b.cA c, dx, _, rfl, e2, cf.cl c (List.ne_nil_of_mem h1), cf.no c f h1, by rw [List.length_zip]; omega, ?_⟩
      obtain ⟨z1, z2⟩ := putF_zip f v fs xs e3
      rw [z1]
      have lf := l1.trans l2
      exact k.nx σ _ G2 m2 ρ _ lf (o2.mono (Le.refl _ _) (o2.rel.write (c' := .ins c (putN f fs) (putA f x fs ws)) hc hm rfl (by simp) rfl ⟨a, dx, _, rfl, upd_same, z2, putA_rel (r1.mono l2) e3 e4⟩)) (r.mono lf) t2
    · exact t2.elim
  · exact t2.elim
/-! ### an instance is made -/
def dMakeC (S : FS) (c : Nat) (xc : Exc → M → Prop) (ta : DTA) (fin : Nat → M → (W → M → Prop) → Prop) (ρ : R) (μ : M) (Q : W → M → Prop) : Prop := ta ρ μ fun ws μ1 => callS S (.r μ1.length :: ws) (μ1 ++ [.ins c [] []]) (fun w μ2 => w = .d .non ∧ fin μ1.length μ2 Q) xc
/-- .. that changes no more -/
def finD (n : Nat) (μ2 : M) (Q : W → M → Prop) : Prop := match esc μ2 (.r n) with
  | some (d, μ3) => closedB n (μ3.take n) = true ∧ Q (.d d) (μ3.take n)
  | none => False
/-- .. that may change -/
def finM (n : Nat) (μ2 : M) (Q : W → M → Prop) : Prop := Q (.r n) μ2
abbrev dMakeD (S : FS) (c : Nat) (xc : Exc → M → Prop) (ta : DTA) : DTE := dMakeC S c xc ta finD
abbrev dMakeM (S : FS) (c : Nat) (xc : Exc → M → Prop) (ta : DTA) : DTE := dMakeC S c xc ta finM
theorem make_core {S : FS} {c : Nat} {fin : Nat → M → (W → M → Prop) → Prop} (hfin : ∀ {G H : Hp} {m : Wd} {n : Nat} {μ : M} {a : Addr} {as : List Addr} {Q : W → M → Prop} {K : VK} {G0 : Hp} {m0 : Wd}, Le G0 m0 G m → m0.length = n → WOk b G m μ H → m[n]? = some (a :: as) → fin n μ Q →
      (∀ v H' G' m' w μ', Le G0 m0 G' m' → WOk b G' m' μ' H' → WRel b.cA G' m' v w → Q w μ' → K v H') → Le b.G0 b.m0 G0 m0 → K (.ref a) H)
    {G H1 : Hp} {m1 : Wd} {μ1 : M} {vs : List V} {ws : List W} {Q : W → M → Prop} {K : VK} (o1 : WOk b G m1 μ1 H1) (r1 : WRels b.cA G m1 vs ws) (t : callS S (.r μ1.length :: ws) (μ1 ++ [.ins c [] []]) (fun w μ2 => w = .d .non ∧ fin μ1.length μ2 Q) b.xc)
    (k : ∀ v H' G' m' w μ', Le G m1 G' m' → WOk b G' m' μ' H' → WRel b.cA G' m' v w → Q w μ' → K v H') (a dx : Addr) (ha : H1 a = none) (hd : H1 dx = none) (hne : dx ≠ a) :
    spD b.cA S (.ref a :: (vs ++ [])) (upd (upd H1 dx (.own a)) a (.ins (b.cA c) dx [])) (fun v H2 => v = .non ∧ K (.ref a) H2) (EX b) := by
  rw [List.append_nil]
  have g1 : RelM b.cA b.U G m1 μ1 (upd H1 dx (.own a)) := o1.rel.grow ((Sub.refl H1).new hd)
  have ha' : upd H1 dx (.own a) a = none := by rw [upd_ne (Ne.symm hne)]; exact ha
  have g2 := g1.cellNew (c := .ins c [] []) ha' ⟨a, dx, [], rfl, upd_same, rfl, .nil⟩
  have l2 : Le G m1 G (m1 ++ [[a]]) := Le.cellNew
  refine call_core (b := b) (Q := fun w μ2 => w = .d .non ∧ fin μ1.length μ2 Q) ⟨o1.le.trans l2, g2⟩ (.cons (.r (as := []) (by rw [← o1.rel.len]; simp)) (r1.mono l2)) t fun v H' G' m' w μ' l o' q t' => ?_
  obtain ⟨rfl, t'⟩ := t'
  cases q with
  | d q =>
  cases q
  refine ⟨rfl, ?_⟩
  have hm : m'[μ1.length]? = some [a] := l.m _ _ (by rw [← o1.rel.len]; simp)
  exact hfin (l2.trans l) o1.rel.len o' hm t' k o1.le
theorem finD_ok {G H : Hp} {m : Wd} {n : Nat} {μ : M} {a : Addr} {as : List Addr} {Q : W → M → Prop} {K : VK} {G0 : Hp} {m0 : Wd} (l : Le G0 m0 G m) (hn : m0.length = n) (o : WOk b G m μ H) (hm : m[n]? = some (a :: as)) (t : finD n μ Q)
    (k : ∀ v H' G' m' w μ', Le G0 m0 G' m' → WOk b G' m' μ' H' → WRel b.cA G' m' v w → Q w μ' → K v H') (lb : Le b.G0 b.m0 G0 m0) : K (.ref a) H := by
  unfold finD at t
  split at t
  · rename_i d μ3 e
    obtain ⟨G3, l3, r3, p3⟩ := esc_ok o.rel (.r hm) e
    have lt : Le G0 m0 G3 (m.take n) := le_take (l.trans l3) hn
    exact k _ H G3 _ (.d d) _ lt ⟨lb.trans lt, rel_take r3 t.1⟩ (.d p3) t.2
  · exact t.elim
theorem finM_ok {G H : Hp} {m : Wd} {n : Nat} {μ : M} {a : Addr} {as : List Addr} {Q : W → M → Prop} {K : VK} {G0 : Hp} {m0 : Wd} (l : Le G0 m0 G m) (hn : m0.length = n) (o : WOk b G m μ H) (hm : m[n]? = some (a :: as)) (t : finM n μ Q)
    (k : ∀ v H' G' m' w μ', Le G0 m0 G' m' → WOk b G' m' μ' H' → WRel b.cA G' m' v w → Q w μ' → K v H') (lb : Le b.G0 b.m0 G0 m0) : K (.ref a) H := k _ H G m (.r n) μ l o (.r hm) t
variable {k : Nat} {fa : Addr} {fd : FuncData} {ps : List Str} {S : FS} {c : Nat}
theorem de_makeD (Mk : L2.Mk X.K (b.cA c) fa) (F : FnOk X.prog X.w X.K X.mg X.base (L2.CX X.prog X.w) k fa fd ps (spD b.cA S)) (hr : Room (k + 1) X.A) (hx : XOk X b) (hm : X.mg x = some (.ref (b.cA c))) (hb : Binds X.K fd ps []) (ha : DA X b (e :: es) ta) (hg : Gl X x)
    (hdb : (x == ("__debug__" : Str)) = false := by decide) (he : starEach (e :: es) X.env = (false, eval e X.env) :: starEach es X.env := by rfl) (hpl : (backTo pos (starEach es X.env)).any (·.1) = false := by rfl) : DE X b (.Call (.Name x p) (e :: es) [] pos) (dMakeD S c b.xc ta) := by
  obtain ⟨t', pa, qa⟩ := ha.ex
  refine ⟨_, pe_make Mk F hr hg hm hb .nil hx pa hdb he hpl, fun {G m ρ μ σ H Q K} o r t kk => ?_⟩
  refine qa o r t fun vs H1 G1 m1 ws μ1 l1 o1 r1 t1 a dx ha hd hne => ?_
  exact make_core finD_ok o1 r1 t1 (fun v H' G' m' w μ' l => kk v H' G' m' w μ' (l1.trans l)) a dx ha hd hne
theorem de_makeM (Mk : L2.Mk X.K (b.cA c) fa) (F : FnOk X.prog X.w X.K X.mg X.base (L2.CX X.prog X.w) k fa fd ps (spD b.cA S)) (hr : Room (k + 1) X.A) (hx : XOk X b) (hm : X.mg x = some (.ref (b.cA c))) (hb : Binds X.K fd ps []) (ha : DA X b (e :: es) ta) (hg : Gl X x)
    (hdb : (x == ("__debug__" : Str)) = false := by decide) (he : starEach (e :: es) X.env = (false, eval e X.env) :: starEach es X.env := by rfl) (hpl : (backTo pos (starEach es X.env)).any (·.1) = false := by rfl) : DE X b (.Call (.Name x p) (e :: es) [] pos) (dMakeM S c b.xc ta) := by
  obtain ⟨t', pa, qa⟩ := ha.ex
  refine ⟨_, pe_make Mk F hr hg hm hb .nil hx pa hdb he hpl, fun {G m ρ μ σ H Q K} o r t kk => ?_⟩
  refine qa o r t fun vs H1 G1 m1 ws μ1 l1 o1 r1 t1 a dx ha hd hne => ?_
  exact make_core finM_ok o1 r1 t1 (fun v H' G' m' w μ' l => kk v H' G' m' w μ' (l1.trans l)) a dx ha hd hne
/-! ### o.m(..) -/
/-- the class has a method m with that contract -/
structure MetOk (X : Cx) (b : Bs) (m : Str) (c : Nat) (S : FS) : Prop where
  cl : Cls X.K (b.cA c)
  ok : ∃ (f : Addr) (fd : FuncData) (ps : List Str) (k : Nat), Meth X.K (b.cA c) m f ∧ FnOk X.prog X.w X.K X.mg X.base (L2.CX X.prog X.w) k f fd ps (spD b.cA S) ∧ Room k X.A ∧ Binds X.K fd ps []
@[simp] def dMeth (tab : List (Nat × FS)) (m : Str) (xc : Exc → M → Prop) (to : DTE) (ta : DTA) (ρ : R) (μ : M) (Q : W → M → Prop) : Prop := to ρ μ fun w μ1 => match insOf μ1 w with
  | some (c, fs, _) => m ∉ fs ∧ ∃ S, tab.lookup c = some S ∧ ta ρ μ1 fun ws μ2 => callS S (w :: ws) μ2 Q xc
  | none => False
theorem look_none {m : Str} : ∀ {fs : List Str} {xs : List V}, m ∉ fs → (fs.zip xs).lookup m = none
  | [], _, _ => by simp
  | g :: fs, [], _ => by simp
  | g :: fs, x :: xs, h => by
    rw [List.zip_cons_cons, List.lookup_cons]
    have : (m == g) = false := beq_eq_false_iff_ne.mpr fun e => h (by rw [e]; exact List.mem_cons_self)
    rw [this]
    exact look_none fun z => h (List.mem_cons_of_mem _ z)
theorem look_mem {c : Nat} {S : FS} : ∀ {tab : List (Nat × FS)}, tab.lookup c = some S → (c, S) ∈ tab
  | [], h => by simp at h
  | (d, T) :: tab, h => by
    rw [List.lookup_cons] at h
    cases e : c == d with
    | true => rw [e] at h; cases h; rw [beq_iff_eq.mp e]; exact List.mem_cons_self
    | false => rw [e] at h; exact List.mem_cons_of_mem _ (look_mem h)
theorem de_meth {pl : Sem Bool} {m : Str} {tab : List (Nat × FS)} (hx : XOk X b) (hT : ∀ q ∈ tab, MetOk X b m q.1 q.2) (ho : DE X b o to) (ha : DA X b (e :: es) ta)
    (hst : starEach (e :: es) X.env = (false, eval e X.env) :: starEach es X.env := by rfl) (hpl : (backTo pos (starEach es X.env)).any (·.1) = false := by rfl)
    (ht : eval (.Call (.Attribute o m apos) (e :: es) [] pos) X.env = (do
      let ov ← eval o X.env
      standAt apos.atName
      let (f, first) ← holding [ov] (getMethod ov m pl)
      callWith pos f first (backTo pos (starEach (e :: es) X.env)) (backToKw pos (keywordEach [] X.env))) := by rfl) : DE X b (.Call (.Attribute o m apos) (e :: es) [] pos) (dMeth tab m b.xc to ta) := by
  obtain ⟨to', po, qo⟩ := ho.ex
  obtain ⟨ta', pa, qa⟩ := ha.ex
  refine ⟨fun σ H Q => to' σ H fun x H1 => ∃ (c : Nat) (S : FS) (a dx : Addr) (fs : List (Str × V)), MetOk X b m c S ∧ x = .ref a ∧ H1 a = some (.ins (b.cA c) dx fs) ∧ fs.lookup m = none ∧ ta' σ H1 fun vs H2 => spD b.cA S (x :: vs) H2 Q (EX b), ⟨fun pins s σ H Q I h => ?_⟩, fun {G w ρ μ σ H Q K} ok r t k => ?_⟩
  · refine PySem.W.methodCall_KW (pl := pl) (thn (po.run pins s σ H _ I h) ?_) ht
    rintro u s1 ⟨x, H1, I1, rx, c, S, a, dx, fs, M1, rfl, ea, l, q⟩
    obtain rfl : u = Value.ref a := rx
    obtain ⟨f, fd, ps, kk, hm, F, hr, hb⟩ := M1.ok
    refine getmeth_ok I1 ea M1.cl hm l ?_
    refine PySem.W.callWith_K (first := [.ref a]) (h₀ := X.base) I1.ok.mod.kin hm.kp (thn (pa.run pos pins s1 σ H1 _ I1 q) ?_) hst hpl
    rintro us s2 ⟨vs, H2, I2, r, q2⟩
    exact ⟨I2.kIn, run_fn (us := .ref a :: us) (vs := .ref a :: vs) F hr hb .nil hx I2 (.cons rfl r) (by rw [List.append_nil]; exact q2)⟩
  · refine qo ok r t fun v H1 G1 m1 z μ1 l1 o1 r1 t1 => ?_
    split at t1
    · rename_i c fs ws hc
      obtain ⟨hn, S, hS, t1⟩ := t1
      obtain ⟨a, dx, xs, rfl, e2, e3, e4⟩ := insOf_ok o1.rel r1 hc
      refine ⟨c, S, a, dx, _, hT _ (look_mem hS), rfl, e2, look_none hn, ?_⟩
      refine qa o1 (r.mono l1) t1 fun vs H2 G2 m2 ws μ2 l2 o2 r2 t2 => ?_
      exact call_core o2 (.cons (r1.mono l2) r2) t2 fun v H' G' m' w μ' l => k v H' G' m' w μ' (l1.trans (l2.trans l))
    · exact t1.elim
theorem de_meth0 {pl : Sem Bool} {m : Str} {tab : List (Nat × FS)} (hx : XOk X b) (hT : ∀ q ∈ tab, MetOk X b m q.1 q.2) (ho : DE X b o to)
    (ht : eval (.Call (.Attribute o m apos) [] [] pos) X.env = (do
      let ov ← eval o X.env
      standAt apos.atName
      let (f, first) ← holding [ov] (getMethod ov m pl)
      callWith pos f first (backTo pos (starEach [] X.env)) (backToKw pos (keywordEach [] X.env))) := by rfl) : DE X b (.Call (.Attribute o m apos) [] [] pos) (dMeth tab m b.xc to dNil) := by
  obtain ⟨to', po, qo⟩ := ho.ex
  refine ⟨fun σ H Q => to' σ H fun x H1 => ∃ (c : Nat) (S : FS) (a dx : Addr) (fs : List (Str × V)), MetOk X b m c S ∧ x = .ref a ∧ H1 a = some (.ins (b.cA c) dx fs) ∧ fs.lookup m = none ∧ spD b.cA S [x] H1 Q (EX b), ⟨fun pins s σ H Q I h => ?_⟩, fun {G w ρ μ σ H Q K} ok r t k => ?_⟩
  · refine PySem.W.methodCall_KW (pl := pl) (thn (po.run pins s σ H _ I h) ?_) ht
    rintro u s1 ⟨x, H1, I1, rx, c, S, a, dx, fs, M1, rfl, ea, l, q⟩
    obtain rfl : u = Value.ref a := rx
    obtain ⟨f, fd, ps, kk, hm, F, hr, hb⟩ := M1.ok
    refine getmeth_ok I1 ea M1.cl hm l ?_
    exact PySem.W.callWith_K0 (first := [.ref a]) I1.kIn hm.kp (run_fn (us := [.ref a]) (vs := [.ref a]) F hr hb .nil hx I1 (.cons rfl .nil) q)
  · refine qo ok r t fun v H1 G1 m1 z μ1 l1 o1 r1 t1 => ?_
    split at t1
    · rename_i c fs ws hc
      obtain ⟨hn, S, hS, t1⟩ := t1
      obtain ⟨a, dx, xs, rfl, e2, e3, e4⟩ := insOf_ok o1.rel r1 hc
      refine ⟨c, S, a, dx, _, hT _ (look_mem hS), rfl, e2, look_none hn, ?_⟩
      exact call_core o1 (.cons r1 .nil) t1 fun v H' G' m' w μ' l => k v H' G' m' w μ' (l1.trans l)
    · exact t1.elim
end
end DD
namespace DD
open PySem PySem.SeqAt
open AutoSeq1 (wpAny_loadPart')
open MeetsSeq MeetsSeq2 MeetsSeq3 SeqRoads2
section
variable {prog : Program} {w : World} {A : Around} {R : Result → Shared → Prop}
/-- the two lists at each turn; what == tells of the i-th two -/
def Seqs2 (prog : Program) (w : World) (A : Around) (R : Result → Shared → Prop) (l r : Addr) (N : Nat) (cs : Nat → Bool) (J : Shared → Prop) : Prop :=
  ∀ s, J s → ∃ (zs ys : Array Value) (n n2 : Nat), s.heap.get? l = some { cls := .type "list", data := .seq zs n } ∧ s.heap.get? r = some { cls := .type "list", data := .seq ys n2 } ∧ zs.size = N ∧ ys.size = N ∧
    ∀ i (h1 : i < zs.size) (h2 : i < ys.size), wpAny (model prog w) A.in1 (eqBool zs[i] ys[i]) (fun c z => c = cs i ∧ J z) (fun e z => R (.error e) z) s

theorem lpEq (l r : Addr) (N : Nat) (cs : Nat → Bool) (J : Shared → Prop) (hl : Seqs2 prog w A R l r N cs J) (fin : ∀ s (z : Bool), J s → z = ((List.range N).all cs) → R (.ok (.ret (.bool z))) s) (k : Nat) :
    ∀ i : Nat, N - i = k → i ≤ N → ((List.range i).all cs = true) → ∀ s, J s → wpAny (model prog w) A.in1 (Builtin.«list.__eq__.loop» ⟨[.ref l, .ref r, rawInt i, rawInt 2], []⟩) (GQ.FinOf prog w A R) (fun e z => R (.error e) z) s := by
  induction k with
  | zero =>
    intro i hk hi ha s h
    obtain ⟨zs, ys, n, n2, q1, q2, q3, q4, _⟩ := hl _ h
    have hi' : i = N := by omega
    subst hi'
    have hR : R (.ok (.ret (.bool (true)))) s := fin s _ h (by rw [ha])
    obtain ⟨hp, g, d, tk, os⟩ := s
    wp_walk using wpAny_loadPart' q1, wpAny_loadPart' q2
    have j1 : zs[((i : Nat) : Int).toNat]? = none := by simp [q3]
    have j2 : ys[((i : Nat) : Int).toNat]? = none := by simp [q4]
    rw [j1, j2]
    wp_walk using wpAny_loadPart' q1, wpAny_loadPart' q2
    show R (.ok (.ret (.bool (zs.size == ys.size)))) _
    rw [q3, q4]
    simpa using hR
  | succ k ih =>
    intro i hk hi ha s h
    obtain ⟨zs, ys, n, n2, q1, q2, q3, q4, turn⟩ := hl _ h
    have g1 : i < zs.size := by omega
    have g2 : i < ys.size := by omega
    have ht := turn i g1 g2
    obtain ⟨hp, g, d, tk, os⟩ := s
    wp_walk using wpAny_loadPart' q1, wpAny_loadPart' q2
    have j1 : zs[((i : Nat) : Int).toNat]? = some zs[i] := by simp [g1]
    have j2 : ys[((i : Nat) : Int).toNat]? = some ys[i] := by simp [g2]
    have hc : ((i : Int) + 1) = ((i + 1 : Nat) : Int) := by omega
    rw [j1, j2]
    refine wpAny_bind (wpAny_mono ht (fun c s2 h2 => ?_) fun _ _ x => x)
    obtain ⟨hr, h2⟩ := h2
    subst hr
    cases hz : cs i with
    | true =>
      have hrec := ih (i + 1) (by omega) (by omega) (by rw [List.range_succ, List.all_append, ha]; simp [hz]) s2 h2
      obtain ⟨hp2, g2, d2, tk2, os2⟩ := s2
      wp_walk
      rw [hc]
      exact ⟨plainId_quiet plain_eq_loop _, codeAny_builtin entry_eq_loop (by rw [Around.under_plainId plain_eq_loop _]; exact hrec)⟩
    | false =>
      have hR : R (.ok (.ret (.bool (false)))) s2 := fin s2 _ h2 (by
        have : (List.range N).all cs = false := by
          rw [List.all_eq_false]
          exact ⟨i, List.mem_range.mpr (by omega), by simp [hz]⟩
        rw [this])
      obtain ⟨zs2, ys2, m, m2, p1, p2, p3, p4, _⟩ := hl _ h2
      obtain ⟨hp2, g2, d2, tk2, os2⟩ := s2
      wp_walk using wpAny_loadPart' p1, wpAny_loadPart' p2
      have k1 : zs2[((i : Nat) : Int).toNat]? = some (zs2[i]'(by omega)) := by simp [show i < zs2.size by omega]
      have k2 : ys2[((i : Nat) : Int).toNat]? = some (ys2[i]'(by omega)) := by simp [show i < ys2.size by omega]
      rw [k1, k2]
      wp_walk
      simpa using hR
theorem liEq (l r : Addr) (N : Nat) (cs : Nat → Bool) (J : Shared → Prop) (hl : Seqs2 prog w A R l r N cs J) (fin : ∀ s (z : Bool), J s → z = ((List.range N).all cs) → R (.ok (.ret (.bool z))) s) {s : Shared} (h : J s) :
    wpAny (model prog w) A.in1 (Builtin.«list.__eq__» ⟨[.ref l, .ref r], []⟩) (GQ.FinOf prog w A R) (fun e z => R (.error e) z) s := by
  obtain ⟨zs, ys, n, n2, q1, q2, q3, q4, _⟩ := hl _ h
  have hrec := lpEq (A := A) (R := R) l r N cs J hl fin _ 0 rfl (Nat.zero_le _) rfl s h
  obtain ⟨hp, g, d, tk, os⟩ := s
  have f3 := AutoSeq1.sub_list_list
  have hne : ¬ (zs.size != ys.size) = true := by simp [q3, q4]
  wp_walk using wpAny_loadPart' q1, wpAny_loadPart' q2
  exact ⟨plainId_quiet plain_eq_loop _, codeAny_builtin entry_eq_loop (by rw [Around.under_plainId plain_eq_loop _]; exact hrec)⟩
theorem tuEq (l r : Addr) (zs ys : Array Value) (n n2 : Nat) (dd dd2 : Option Addr) (sl sl2 : Array (Option Value)) (cs : Nat → Bool) (J : Shared → Prop)
    (turn : ∀ i (h1 : i < zs.size) (h2 : i < ys.size) s, J s → wpAny (model prog w) A.in1 (eqBool zs[i] ys[i]) (fun c z => c = cs i ∧ J z) (fun e z => R (.error e) z) s)
    (fin : ∀ s (z : Bool), J s → z = ((List.range (min zs.size ys.size)).all cs && zs.size == ys.size) → R (.ok (.ret (.bool z))) s) {s : Shared} (q1 : s.heap.get? l = some { cls := .type "tuple", dict := dd, data := .seq zs n, slots := sl }) (q2 : s.heap.get? r = some { cls := .type "tuple", dict := dd2, data := .seq ys n2, slots := sl2 }) (h : J s) :
    wpAny (model prog w) A.in1 (Builtin.«tuple.__eq__» ⟨[.ref l, .ref r], []⟩) (GQ.FinOf prog w A R) (fun e z => R (.error e) z) s := by
  have f2 := AutoSeq1.sub_tuple_tuple
  have hZ : (zs.toList.zip ys.toList).length = min zs.size ys.size := by simp
  have h0 := h
  obtain ⟨hp, g, d, tk, os⟩ := s
  wp_walk using wpAny_loadPart' q1, wpAny_loadPart' q2, wpAny_forIn_list _ (fun rest b s' => b.1 = none ∧ ∃ i, rest = (zs.toList.zip ys.toList).drop i ∧ ((List.range i).all cs = true) ∧ i ≤ min zs.size ys.size ∧ J s') _
  case turn =>
    rintro ⟨y, x⟩ rest b s' ⟨hb', i, hz, ha, hi, hI⟩
    have hlt : i < (zs.toList.zip ys.toList).length := by
      rcases Nat.lt_or_ge i (zs.toList.zip ys.toList).length with h' | h'
      · exact h'
      · rw [List.drop_of_length_le h'] at hz; cases hz
    have hm : i < min zs.size ys.size := hZ ▸ hlt
    have h1 : i < zs.size := by omega
    have h2 : i < ys.size := by omega
    rw [List.drop_eq_getElem_cons hlt] at hz
    injection hz with hyx hrest
    have hy : y = zs[i] := by have := congrArg Prod.fst hyx; simpa using this
    have hx : x = ys[i] := by have := congrArg Prod.snd hyx; simpa using this
    subst hy hx
    refine wpAny_bind (wpAny_mono (turn i h1 h2 s' hI) (fun c s2 q2 => ?_) fun _ _ x => x)
    obtain ⟨hr, q2⟩ := q2
    subst hr
    cases hz : cs i with
    | true =>
      wp_walk
      exact ⟨rfl, i + 1, hrest, by rw [List.range_succ, List.all_append, ha]; simp [hz], hm, q2⟩
    | false =>
      have hR : R (.ok (.ret (.bool (false)))) s2 := fin s2 _ q2 (by
        have : (List.range (min zs.size ys.size)).all cs = false := by
          rw [List.all_eq_false]
          exact ⟨i, List.mem_range.mpr hm, by simp [hz]⟩
        rw [this]; rfl)
      wp_walk
      simpa using hR
  case fin =>
    rintro ⟨b1, b2⟩ s' ⟨hb', i, hz, ha, hi, hI⟩
    simp only at hb'
    subst hb'
    have hge : min zs.size ys.size ≤ i := by
      rcases Nat.lt_or_ge i (zs.toList.zip ys.toList).length with h' | h'
      · rw [List.drop_eq_getElem_cons h'] at hz; cases hz
      · exact hZ ▸ h'
    have e : i = min zs.size ys.size := by omega
    have hR : R (.ok (.ret (.bool (zs.size == ys.size)))) s' := fin s' _ hI (by rw [← e, ha]; rfl)
    wp_walk
    simpa [Builtin.Tuple.tupleCompareSizes, bne] using hR
  case h => exact ⟨rfl, 0, rfl, rfl, Nat.zero_le _, h0⟩


theorem lpNe (l r : Addr) (N : Nat) (cs : Nat → Bool) (J : Shared → Prop) (hl : Seqs2 prog w A R l r N cs J) (fin : ∀ s (z : Bool), J s → z = (!((List.range N).all cs)) → R (.ok (.ret (.bool z))) s) (k : Nat) :
    ∀ i : Nat, N - i = k → i ≤ N → ((List.range i).all cs = true) → ∀ s, J s → wpAny (model prog w) A.in1 (Builtin.«list.__eq__.loop» ⟨[.ref l, .ref r, rawInt i, rawInt 3], []⟩) (GQ.FinOf prog w A R) (fun e z => R (.error e) z) s := by
  induction k with
  | zero =>
    intro i hk hi ha s h
    obtain ⟨zs, ys, n, n2, q1, q2, q3, q4, _⟩ := hl _ h
    have hi' : i = N := by omega
    subst hi'
    have hR : R (.ok (.ret (.bool (!(true))))) s := fin s _ h (by rw [ha])
    obtain ⟨hp, g, d, tk, os⟩ := s
    wp_walk using wpAny_loadPart' q1, wpAny_loadPart' q2
    have j1 : zs[((i : Nat) : Int).toNat]? = none := by simp [q3]
    have j2 : ys[((i : Nat) : Int).toNat]? = none := by simp [q4]
    rw [j1, j2]
    wp_walk using wpAny_loadPart' q1, wpAny_loadPart' q2
    show R (.ok (.ret (.bool (zs.size != ys.size)))) _
    rw [q3, q4]
    simpa using hR
  | succ k ih =>
    intro i hk hi ha s h
    obtain ⟨zs, ys, n, n2, q1, q2, q3, q4, turn⟩ := hl _ h
    have g1 : i < zs.size := by omega
    have g2 : i < ys.size := by omega
    have ht := turn i g1 g2
    obtain ⟨hp, g, d, tk, os⟩ := s
    wp_walk using wpAny_loadPart' q1, wpAny_loadPart' q2
    have j1 : zs[((i : Nat) : Int).toNat]? = some zs[i] := by simp [g1]
    have j2 : ys[((i : Nat) : Int).toNat]? = some ys[i] := by simp [g2]
    have hc : ((i : Int) + 1) = ((i + 1 : Nat) : Int) := by omega
    rw [j1, j2]
    refine wpAny_bind (wpAny_mono ht (fun c s2 h2 => ?_) fun _ _ x => x)
    obtain ⟨hr, h2⟩ := h2
    subst hr
    cases hz : cs i with
    | true =>
      have hrec := ih (i + 1) (by omega) (by omega) (by rw [List.range_succ, List.all_append, ha]; simp [hz]) s2 h2
      obtain ⟨hp2, g2, d2, tk2, os2⟩ := s2
      wp_walk
      rw [hc]
      exact ⟨plainId_quiet plain_eq_loop _, codeAny_builtin entry_eq_loop (by rw [Around.under_plainId plain_eq_loop _]; exact hrec)⟩
    | false =>
      have hR : R (.ok (.ret (.bool (!(false))))) s2 := fin s2 _ h2 (by
        have : (List.range N).all cs = false := by
          rw [List.all_eq_false]
          exact ⟨i, List.mem_range.mpr (by omega), by simp [hz]⟩
        rw [this])
      obtain ⟨zs2, ys2, m, m2, p1, p2, p3, p4, _⟩ := hl _ h2
      obtain ⟨hp2, g2, d2, tk2, os2⟩ := s2
      wp_walk using wpAny_loadPart' p1, wpAny_loadPart' p2
      have k1 : zs2[((i : Nat) : Int).toNat]? = some (zs2[i]'(by omega)) := by simp [show i < zs2.size by omega]
      have k2 : ys2[((i : Nat) : Int).toNat]? = some (ys2[i]'(by omega)) := by simp [show i < ys2.size by omega]
      rw [k1, k2]
      wp_walk
      simpa using hR
theorem liNe (l r : Addr) (N : Nat) (cs : Nat → Bool) (J : Shared → Prop) (hl : Seqs2 prog w A R l r N cs J) (fin : ∀ s (z : Bool), J s → z = (!((List.range N).all cs)) → R (.ok (.ret (.bool z))) s) {s : Shared} (h : J s) :
    wpAny (model prog w) A.in1 (Builtin.«list.__ne__» ⟨[.ref l, .ref r], []⟩) (GQ.FinOf prog w A R) (fun e z => R (.error e) z) s := by
  obtain ⟨zs, ys, n, n2, q1, q2, q3, q4, _⟩ := hl _ h
  have hrec := lpNe (A := A) (R := R) l r N cs J hl fin _ 0 rfl (Nat.zero_le _) rfl s h
  obtain ⟨hp, g, d, tk, os⟩ := s
  have f3 := AutoSeq1.sub_list_list
  have hne : ¬ (zs.size != ys.size) = true := by simp [q3, q4]
  wp_walk using wpAny_loadPart' q1, wpAny_loadPart' q2
  exact ⟨plainId_quiet plain_eq_loop _, codeAny_builtin entry_eq_loop (by rw [Around.under_plainId plain_eq_loop _]; exact hrec)⟩
theorem tuNe (l r : Addr) (zs ys : Array Value) (n n2 : Nat) (dd dd2 : Option Addr) (sl sl2 : Array (Option Value)) (cs : Nat → Bool) (J : Shared → Prop)
    (turn : ∀ i (h1 : i < zs.size) (h2 : i < ys.size) s, J s → wpAny (model prog w) A.in1 (eqBool zs[i] ys[i]) (fun c z => c = cs i ∧ J z) (fun e z => R (.error e) z) s)
    (fin : ∀ s (z : Bool), J s → z = (!((List.range (min zs.size ys.size)).all cs && zs.size == ys.size)) → R (.ok (.ret (.bool z))) s) {s : Shared} (q1 : s.heap.get? l = some { cls := .type "tuple", dict := dd, data := .seq zs n, slots := sl }) (q2 : s.heap.get? r = some { cls := .type "tuple", dict := dd2, data := .seq ys n2, slots := sl2 }) (h : J s) :
    wpAny (model prog w) A.in1 (Builtin.«tuple.__ne__» ⟨[.ref l, .ref r], []⟩) (GQ.FinOf prog w A R) (fun e z => R (.error e) z) s := by
  have f2 := AutoSeq1.sub_tuple_tuple
  have hZ : (zs.toList.zip ys.toList).length = min zs.size ys.size := by simp
  have h0 := h
  obtain ⟨hp, g, d, tk, os⟩ := s
  wp_walk using wpAny_loadPart' q1, wpAny_loadPart' q2, wpAny_forIn_list _ (fun rest b s' => b.1 = none ∧ ∃ i, rest = (zs.toList.zip ys.toList).drop i ∧ ((List.range i).all cs = true) ∧ i ≤ min zs.size ys.size ∧ J s') _
  case turn =>
    rintro ⟨y, x⟩ rest b s' ⟨hb', i, hz, ha, hi, hI⟩
    have hlt : i < (zs.toList.zip ys.toList).length := by
      rcases Nat.lt_or_ge i (zs.toList.zip ys.toList).length with h' | h'
      · exact h'
      · rw [List.drop_of_length_le h'] at hz; cases hz
    have hm : i < min zs.size ys.size := hZ ▸ hlt
    have h1 : i < zs.size := by omega
    have h2 : i < ys.size := by omega
    rw [List.drop_eq_getElem_cons hlt] at hz
    injection hz with hyx hrest
    have hy : y = zs[i] := by have := congrArg Prod.fst hyx; simpa using this
    have hx : x = ys[i] := by have := congrArg Prod.snd hyx; simpa using this
    subst hy hx
    refine wpAny_bind (wpAny_mono (turn i h1 h2 s' hI) (fun c s2 q2 => ?_) fun _ _ x => x)
    obtain ⟨hr, q2⟩ := q2
    subst hr
    cases hz : cs i with
    | true =>
      wp_walk
      exact ⟨rfl, i + 1, hrest, by rw [List.range_succ, List.all_append, ha]; simp [hz], hm, q2⟩
    | false =>
      have hR : R (.ok (.ret (.bool (!(false))))) s2 := fin s2 _ q2 (by
        have : (List.range (min zs.size ys.size)).all cs = false := by
          rw [List.all_eq_false]
          exact ⟨i, List.mem_range.mpr hm, by simp [hz]⟩
        rw [this]; rfl)
      wp_walk
      simpa using hR
  case fin =>
    rintro ⟨b1, b2⟩ s' ⟨hb', i, hz, ha, hi, hI⟩
    simp only at hb'
    subst hb'
    have hge : min zs.size ys.size ≤ i := by
      rcases Nat.lt_or_ge i (zs.toList.zip ys.toList).length with h' | h'
      · rw [List.drop_eq_getElem_cons h'] at hz; cases hz
      · exact hZ ▸ h'
    have e : i = min zs.size ys.size := by omega
    have hR : R (.ok (.ret (.bool (!(zs.size == ys.size))))) s' := fin s' _ hI (by rw [← e, ha]; rfl)
    wp_walk
    simpa [Builtin.Tuple.tupleCompareSizes, bne] using hR
  case h => exact ⟨rfl, 0, rfl, rfl, Nat.zero_le _, h0⟩

end
end DD
namespace DD
open PySem PySem.Spec PyProof.Rows PySem.SeqAt
section
variable {M : Model} {prog : Program} {w : World} {A : Around} {E : Value → Shared → Prop} {s : Shared} {K : PySem.W.Frag} {x C f : Addr} {ox : Obj} {od : Option Obj} {a : Value}
theorem bound_ne {args : List Value} {Q : Option Value → Shared → Prop} (X : K.In s.heap) (I : PySem.W.InstAt s.heap x ox C od) (hs : PySem.W.findIn K (.ref C) "__ne__" = some (some (.builtin "object.__ne__")))
    (h : wpAny M A (call (.builtin "object.__ne__") (.ref x :: args)) (fun v => Q (some v)) E s) : wpAny M A (callSpecialIfBound? (.ref x) "__ne__" args) Q E s := by
  simp only [callSpecialIfBound?, bindSpecialIfBound?]
  refine wpAny_holding (wpAny_bind (wpAny_bind (wpAny_bind (I.type.here ((PySem.W.looks_findIn X hs).here ?_)))))
  refine wpAny_bind (wpAny_askSetting (wpAny_ite ?_))
  have fin : wpAny M A (call (.builtin "object.__ne__") ([.ref x] ++ args) >>= fun v => pure (some v)) Q E s := wpAny_bind (wpAny_mono h (fun _ _ q => wpAny_pure q) fun _ _ q => q)
  split
  · exact wpAny_bind (wpAny_of_eq (F.cmp_object.ne.bind _) (wpAny_pure (by exact fin)))
  · exact wpAny_tryCatch (wpAny_bind (wpAny_of_eq (F.cmp_object.ne.bind _) (wpAny_pure (by exact fin))))
theorem entry_ne {Q : Fin → Shared → Prop} (X : K.In s.heap) (I : PySem.W.InstAt s.heap x ox C od) (hs : PySem.W.findIn K (.ref C) "__eq__" = some (some (.ref f))) (hf : PySem.W.isFn K (.ref f) = true) (hu : A.units < cLine)
    (h : wpAny M A (call (.ref f) [.ref x, a]) (fun v z => ∃ c, v = .bool c ∧ Q (.done (.ret (.bool (!c)))) z) E s) : wpAny M A (Builtin.«object.__ne__» ⟨[.ref x, a], []⟩) Q E s := by
  unfold Builtin.«object.__ne__»
  refine wpAny_bind (wpAny_pure ?_)
  refine wpAny_bind (wpAny_cRoomFor hu ?_)
  refine wpAny_bind (m := callSpecialIfBound? (.ref x) (Str.ofString "__eq__") [a]) (PySem.W.ifBound_K X I hs hf (wpAny_mono h (fun r z hr => ?_) fun _ _ q => q))
  obtain ⟨c, rfl, hq⟩ := hr
  exact wpAny_bind (wpAny_truthy_bool (wpAny_pure hq))
theorem call_ne {Q : Value → Shared → Prop} (X : K.In s.heap) (I : PySem.W.InstAt s.heap x ox C od) (hm : PySem.W.mroIn K C (.type "object") = some true) (hs : PySem.W.findIn K (.ref C) "__eq__" = some (some (.ref f))) (hf : PySem.W.isFn K (.ref f) = true) (hu : A.in1.units < cLine)
    (h : wpAny (model prog w) A.in1 (call (.ref f) [.ref x, a]) (fun v z => ∃ c, v = .bool c ∧ Q (.bool (!c)) z) E s) : wpAny (model prog w) A (call (.builtin "object.__ne__") [.ref x, a]) Q E s :=
  wpAny_call (codeAny_call_builtin F.cmp_object.ne.plain F.cmpEntry_ne (PySem.W.check_slot F.cmpKind_ne F.cmpSplit_ne (I.type.andThen (PySem.W.looks_mroIn X hm)) (F.cmpArgs_ne _ _) (entry_ne X I hs hf hu h)))
/-- what the own == of a class is -/
structure EqCls (K : PySem.W.Frag) (C f : Addr) : Prop where
  eq : PySem.W.findIn K (.ref C) "__eq__" = some (some (.ref f))
  ne : PySem.W.findIn K (.ref C) "__ne__" = some (some (.builtin "object.__ne__"))
  fn : PySem.W.isFn K (.ref f) = true
  ob : PySem.W.mroIn K C (.type "object") = some true
  no : ∀ T ∈ (["NoneType", "bool", "int", "str", "list", "tuple"] : List String), PySem.W.subIn K (.ref C) (.type T) = some false
def cop (neg : Bool) : CmpOp := if neg then .NotEq else .Eq
def inr (neg : Bool) (A : Around) : Around := if neg then A.in1 else A
theorem try_own {neg : Bool} {Q : Value → Shared → Prop} (X : K.In s.heap) (I : PySem.W.InstAt s.heap x ox C od) (e : EqCls K C f) (hu : A.units + 1 < cLine)
    (h : wpAny (model prog w) (inr neg A) (call (.ref f) [.ref x, a]) (fun v z => ∃ c, v = .bool c ∧ Q (.bool (c != neg)) z) E s) :
    wpAny (model prog w) A (tryCompare (.ref x) (cmpInfo (cop neg)).2.1 a) (fun r z => ∃ v, r = some v ∧ Q v z) E s := by
  cases neg with
  | false =>
    show wpAny _ _ (tryCompare (.ref x) "__eq__" a) _ _ _
    unfold tryCompare
    refine wpAny_bind (PySem.W.ifBound_K X I e.eq e.fn (wpAny_mono h (fun v z hv => ?_) fun _ _ q => q))
    obtain ⟨c, rfl, hq⟩ := hv
    exact wpAny_pure ⟨_, rfl, by simpa using hq⟩
  | true =>
    show wpAny _ _ (tryCompare (.ref x) "__ne__" a) _ _ _
    unfold tryCompare
    refine wpAny_bind (bound_ne X I e.ne (call_ne X I e.ob e.eq e.fn hu (wpAny_mono h (fun v z hv => ?_) fun _ _ q => q)))
    obtain ⟨c, rfl, hq⟩ := hv
    exact ⟨c, rfl, wpAny_pure ⟨_, rfl, by simpa using hq⟩⟩
theorem cop_names (neg : Bool) : (cmpInfo (cop neg)).2.1 = (cmpInfo (cop neg)).2.2 := by cases neg <;> rfl
/-- the left one is an instance with its own == -/
theorem rc_own {neg : Bool} {tb : Value} {Q : Value → Shared → Prop} (X : K.In s.heap) (I : PySem.W.InstAt s.heap x ox C od) (e : EqCls K C f) (hu : A.units + 1 < cLine) (hb : PySem.W.Looks (model prog w) s.heap (typeOf a) tb) (hn : PySem.W.notFirst K C tb = true)
    (h : wpAny (model prog w) (inr neg A) (call (.ref f) [.ref x, a]) (fun v z => ∃ c, v = .bool c ∧ Q (.bool (c != neg)) z) E s) : wpAny (model prog w) A (richCompare (cop neg) (.ref x) a) Q E s := by
  have one := try_own X I e hu h
  unfold richCompare
  simp only [oneThing_ref]
  refine wpAny_holding (wpAny_bind (wpAny_cRoomFor (by omega) ?_))
  refine wpAny_bind (I.type.here (wpAny_bind (hb.here ?_)))
  split
  · rename_i q
    have e : PySem.W.subIn K tb (.ref C) = some false := by
      rcases Bool.or_eq_true_iff.mp hn with e | e
      · rw [beq_iff_eq.mp e] at q; simp at q
      · exact beq_iff_eq.mp e
    refine wpAny_bind ((PySem.W.looks_subIn X e).here ?_)
    simp only [Bool.false_eq_true, if_false]
    refine wpAny_bind (wpAny_mono one (fun r z hz => ?_) fun _ _ e => e)
    obtain ⟨v, rfl, hq⟩ := hz
    exact wpAny_pure hq
  · refine wpAny_bind (wpAny_pure ?_)
    simp only [Bool.false_eq_true, if_false]
    refine wpAny_bind (wpAny_mono one (fun r z hz => ?_) fun _ _ e => e)
    obtain ⟨v, rfl, hq⟩ := hz
    exact wpAny_pure hq
/-- the left one is a builtin's that declines -/
theorem rc_back {neg : Bool} {T : String} {Q : Value → Shared → Prop} (X : K.In s.heap) (I : PySem.W.InstAt s.heap x ox C od) (e : EqCls K C f) (hu : A.units + 1 < cLine) (hT : s.TypeIs a T) (hno : PySem.W.subIn K (.ref C) (.type T) = some false)
    (hd : wpAny (model prog w) A (tryCompare a (cmpInfo (cop neg)).2.1 (.ref x)) (fun r z => r = none ∧ z = s) E s)
    (h : wpAny (model prog w) (inr neg A) (call (.ref f) [.ref x, a]) (fun v z => ∃ c, v = .bool c ∧ Q (.bool (c != neg)) z) E s) : wpAny (model prog w) A (richCompare (cop neg) a (.ref x)) Q E s := by
  have one := try_own X I e hu h
  unfold richCompare
  simp only [hT.oneThing_none]
  refine wpAny_holding (wpAny_bind (wpAny_cRoomFor (by omega) ?_))
  refine wpAny_bind (wpAny_typeOf hT (wpAny_bind (I.type.here ?_)))
  rw [if_pos (by simp)]
  refine wpAny_bind ((PySem.W.looks_subIn X hno).here ?_)
  simp only [Bool.false_eq_true, if_false, Bool.not_false, if_true]
  refine wpAny_bind (m := tryCompare a _ (.ref x)) (wpAny_mono hd (fun r z hz => ?_) fun _ _ q => q)
  obtain ⟨rfl, rfl⟩ := hz
  rw [← cop_names]
  refine wpAny_bind (m := tryCompare (.ref x) _ a) (wpAny_mono one (fun r z hz => ?_) fun _ _ q => q)
  obtain ⟨v, rfl, hq⟩ := hz
  exact wpAny_pure hq
/-! ### the builtins decline an instance -/
theorem notSub {T : String} (X : K.In s.heap) (I : PySem.W.InstAt s.heap x ox C od) (hno : PySem.W.subIn K (.ref C) (.type T) = some false) : PySem.W.Looks M s.heap (isInstance (.ref x) (.type T)) false := I.type.andThen (PySem.W.looks_subIn X hno)
theorem tuple_eq_dec {l : Addr} {Q : Fin → Shared → Prop} (X : K.In s.heap) (I : PySem.W.InstAt s.heap x ox C od) (hno : PySem.W.subIn K (.ref C) (.type "tuple") = some false) (q : Q (.done (.ret .notImplemented)) s) :
    wpAny M A (Builtin.«tuple.__eq__» ⟨[.ref l, .ref x], []⟩) Q E s := by
  refine wpAny_bind (wpAny_pure ?_)
  refine wpAny_bind (m := isInstance (.ref x) (.type "tuple")) ((notSub X I hno).here ?_)
  exact wpAny_pure q
theorem tuple_ne_dec {l : Addr} {Q : Fin → Shared → Prop} (X : K.In s.heap) (I : PySem.W.InstAt s.heap x ox C od) (hno : PySem.W.subIn K (.ref C) (.type "tuple") = some false) (q : Q (.done (.ret .notImplemented)) s) :
    wpAny M A (Builtin.«tuple.__ne__» ⟨[.ref l, .ref x], []⟩) Q E s := by
  refine wpAny_bind (wpAny_pure ?_)
  refine wpAny_bind (m := isInstance (.ref x) (.type "tuple")) ((notSub X I hno).here ?_)
  exact wpAny_pure q
theorem list_eq_dec {l : Addr} {Q : Fin → Shared → Prop} (X : K.In s.heap) (I : PySem.W.InstAt s.heap x ox C od) (hno : PySem.W.subIn K (.ref C) (.type "list") = some false) (q : Q (.done (.ret .notImplemented)) s) :
    wpAny M A (Builtin.«list.__eq__» ⟨[.ref l, .ref x], []⟩) Q E s := by
  refine wpAny_bind (wpAny_pure ?_)
  refine wpAny_bind (m := isInstance (.ref x) (.type "list")) ((notSub X I hno).here ?_)
  exact wpAny_pure q
theorem list_ne_dec {l : Addr} {Q : Fin → Shared → Prop} (X : K.In s.heap) (I : PySem.W.InstAt s.heap x ox C od) (hno : PySem.W.subIn K (.ref C) (.type "list") = some false) (q : Q (.done (.ret .notImplemented)) s) :
    wpAny M A (Builtin.«list.__ne__» ⟨[.ref l, .ref x], []⟩) Q E s := by
  refine wpAny_bind (wpAny_pure ?_)
  refine wpAny_bind (m := isInstance (.ref x) (.type "list")) ((notSub X I hno).here ?_)
  exact wpAny_pure q
theorem int_eq_dec (b : Int) (u : Tok) (l dx : Addr) : Meets (Builtin.«int.__eq__» ⟨[.int b u, .ref l], []⟩) (fun _ R s => s.heap.get? l = some (PySem.W.instObj C dx) ∧ R (.ok (.ret .notImplemented)) s) :=
  .of_wp fun prog w A R s h => by obtain ⟨hp, g, d, tk, os⟩ := s; obtain ⟨hl, h⟩ := h; unfold PySem.W.instObj at hl; wp_walk using AutoSeq1.wpAny_loadPart' hl, wpAny_load hl; exact ⟨_, rfl, h⟩
theorem int_ne_dec (b : Int) (u : Tok) (l dx : Addr) : Meets (Builtin.«int.__ne__» ⟨[.int b u, .ref l], []⟩) (fun _ R s => s.heap.get? l = some (PySem.W.instObj C dx) ∧ R (.ok (.ret .notImplemented)) s) :=
  .of_wp fun prog w A R s h => by obtain ⟨hp, g, d, tk, os⟩ := s; obtain ⟨hl, h⟩ := h; unfold PySem.W.instObj at hl; wp_walk using AutoSeq1.wpAny_loadPart' hl, wpAny_load hl; exact ⟨_, rfl, h⟩
theorem bool_eq_dec (b : Bool) (l dx : Addr) : Meets (Builtin.«int.__eq__» ⟨[.bool b, .ref l], []⟩) (fun _ R s => s.heap.get? l = some (PySem.W.instObj C dx) ∧ R (.ok (.ret .notImplemented)) s) :=
  .of_wp fun prog w A R s h => by obtain ⟨hp, g, d, tk, os⟩ := s; obtain ⟨hl, h⟩ := h; unfold PySem.W.instObj at hl; wp_walk using AutoSeq1.wpAny_loadPart' hl, wpAny_load hl; exact ⟨_, rfl, h⟩
theorem bool_ne_dec (b : Bool) (l dx : Addr) : Meets (Builtin.«int.__ne__» ⟨[.bool b, .ref l], []⟩) (fun _ R s => s.heap.get? l = some (PySem.W.instObj C dx) ∧ R (.ok (.ret .notImplemented)) s) :=
  .of_wp fun prog w A R s h => by obtain ⟨hp, g, d, tk, os⟩ := s; obtain ⟨hl, h⟩ := h; unfold PySem.W.instObj at hl; wp_walk using AutoSeq1.wpAny_loadPart' hl, wpAny_load hl; exact ⟨_, rfl, h⟩
theorem str_eq_dec (b : Str) (u : Tok) (l dx : Addr) : Meets (Builtin.«str.__eq__» ⟨[.str b u, .ref l], []⟩) (fun _ R s => s.heap.get? l = some (PySem.W.instObj C dx) ∧ R (.ok (.ret .notImplemented)) s) :=
  .of_wp fun prog w A R s h => by obtain ⟨hp, g, d, tk, os⟩ := s; obtain ⟨hl, h⟩ := h; unfold PySem.W.instObj at hl; wp_walk using AutoSeq1.wpAny_loadPart' hl, wpAny_load hl; exact ⟨_, rfl, h⟩
theorem str_ne_dec (b : Str) (u : Tok) (l dx : Addr) : Meets (Builtin.«str.__ne__» ⟨[.str b u, .ref l], []⟩) (fun _ R s => s.heap.get? l = some (PySem.W.instObj C dx) ∧ R (.ok (.ret .notImplemented)) s) :=
  .of_wp fun prog w A R s h => by obtain ⟨hp, g, d, tk, os⟩ := s; obtain ⟨hl, h⟩ := h; unfold PySem.W.instObj at hl; wp_walk using AutoSeq1.wpAny_loadPart' hl, wpAny_load hl; exact ⟨_, rfl, h⟩
end
end DD
namespace DD
open PySem PySem.Spec PyProof.Rows PySem.SeqAt L2
section
variable (T : Nat → Option (List Str))
mutual
/-- data that == with the own __eq__ of T's classes is told of -/
def okE : Nat → D → Bool
  | _, .non => true
  | _, .bl _ => true
  | _, .int _ => true
  | _, .str _ => true
  | n + 1, .lst ds => okEs n ds
  | n + 1, .tup ds => okEs n ds
  | n + 3, .obj c fs ds => (T c == some fs) && (fs.length == ds.length) && okEs n ds
  | _, _ => false
def okEs : Nat → List D → Bool
  | _, [] => true
  | n, d :: ds => okE n d && okEs n ds
end
theorem okEs_all (n : Nat) : ∀ ds : List D, okEs T n ds = ds.all (okE T n)
  | [] => by simp [okEs]
  | d :: ds => by simp [okEs, okEs_all n ds]
end
/-- which two of the i-th are equal -/
def deqAt (xs ys : List D) (i : Nat) : Bool := match xs[i]?, ys[i]? with
  | some a, some b => deq a b
  | _, _ => true
theorem deqs_all : ∀ xs ys : List D, deqs xs ys = ((List.range (min xs.length ys.length)).all (deqAt xs ys) && xs.length == ys.length)
  | [], [] => by simp [deqs]
  | [], y :: ys => by simp [deqs]
  | x :: xs, [] => by simp [deqs]
  | x :: xs, y :: ys => by
    have h : min (x :: xs).length (y :: ys).length = min xs.length ys.length + 1 := by simp only [List.length_cons]; omega
    rw [deqs, deqs_all xs ys, h, List.range_succ_eq_map, List.all_cons, List.all_map]
    have e0 : deqAt (x :: xs) (y :: ys) 0 = deq x y := rfl
    have e1 : (deqAt (x :: xs) (y :: ys) ∘ Nat.succ) = deqAt xs ys := by funext i; simp [deqAt]
    have e2 : ((x :: xs).length == (y :: ys).length) = (xs.length == ys.length) := by
      by_cases h : xs.length = ys.length
      · simp [h]
      · simp [h]
    rw [e0, e1, e2, Bool.and_assoc]
section
variable {K : PySem.W.Frag} {cA : Nat → Addr} {T : Nat → Option (List Str)} {f : Addr} {H : Hp}
structure EqT (K : PySem.W.Frag) (cA : Nat → Addr) (T : Nat → Option (List Str)) (f : Addr) : Prop where
  cl : ∀ c fs, T c = some fs → EqCls K (cA c) f
  nf : ∀ c fs c' fs', T c = some fs → T c' = some fs' → PySem.W.notFirst K (cA c) (.ref (cA c')) = true
  inj : ∀ c fs c' fs', T c = some fs → T c' = some fs' → cA c = cA c' → c = c'
theorem zip_inj {α β : Type} : ∀ {as : List α} {xs ys : List β}, as.length = xs.length → as.length = ys.length → as.zip xs = as.zip ys → xs = ys
  | [], [], [], _, _, _ => rfl
  | a :: as, x :: xs, y :: ys, h1, h2, e => by
    simp only [List.zip_cons_cons, List.cons.injEq, Prod.mk.injEq] at e
    rw [e.1.2, zip_inj (by simpa using h1) (by simpa using h2) e.2]
mutual
theorem rep_same (E : EqT K cA T f) : ∀ (n : Nat) {v : V} {d e : D}, Rep cA H v d → Rep cA H v e → okE T n d = true → okE T n e = true → deq d e = true
  | n, _, _, e, .non, r', o, o' => by cases r'; simp [deq]
  | n, _, _, e, .bl b, r', o, o' => by cases r'; simp [deq]
  | n, _, _, e, .int i, r', o, o' => by cases r'; simp [deq]
  | n, _, _, e, .str s, r', o, o' => by cases r'; simp [deq]
  | n, _, _, _, .tup h r, r', o, o' => by
    generalize hv : V.ref _ = v at r'
    cases r' with
    | tup h' r2 =>
      cases hv
      rw [h] at h'
      cases h'
      match n, o, o' with
      | n + 1, o, o' => simp only [okE] at o o'; simp only [deq]; exact reps_same E n r r2 o o'
    | lst h' _ => cases hv; rw [h] at h'; cases h'
    | obj h' _ _ => cases hv; rw [h] at h'; cases h'
    | dic h' _ _ => cases hv; rw [h] at h'; cases h'
    | _ => cases hv
  | n, _, _, _, .lst h r, r', o, o' => by
    generalize hv : V.ref _ = v at r'
    cases r' with
    | lst h' r2 =>
      cases hv
      rw [h] at h'
      cases h'
      match n, o, o' with
      | n + 1, o, o' => simp only [okE] at o o'; simp only [deq]; exact reps_same E n r r2 o o'
    | tup h' _ => cases hv; rw [h] at h'; cases h'
    | obj h' _ _ => cases hv; rw [h] at h'; cases h'
    | dic h' _ _ => cases hv; rw [h] at h'; cases h'
    | _ => cases hv
  | n, _, _, _, .obj h l r, r', o, o' => by
    generalize hv : V.ref _ = v at r'
    cases r' with
    | obj h' l' r2 =>
      cases hv
      match n, o, o' with
      | n + 3, o, o' =>
        simp only [okE, Bool.and_eq_true, beq_iff_eq] at o o'
        rw [h] at h'
        simp only [Option.some.injEq, HO.ins.injEq] at h'
        obtain ⟨e1, _, e2⟩ := h'
        have ec := E.inj _ _ _ _ o.1.1 o'.1.1 e1
        subst ec
        have ef := o.1.1.symm.trans o'.1.1
        cases ef
        have ex := zip_inj l l' e2
        subst ex
        simp only [deq, beq_self_eq_true, Bool.true_and]
        exact reps_same E n r r2 o.2 o'.2
    | tup h' _ => cases hv; rw [h] at h'; cases h'
    | lst h' _ => cases hv; rw [h] at h'; cases h'
    | dic h' _ _ => cases hv; rw [h] at h'; cases h'
    | _ => cases hv
  | n, _, _, _, .dic h l r, r', o, o' => by
    match n, o with
    | 0, o => simp [okE] at o
    | 1, o => simp [okE] at o
    | 2, o => simp [okE] at o
    | n + 3, o => simp [okE] at o
theorem reps_same (E : EqT K cA T f) : ∀ (n : Nat) {vs : List V} {ds es : List D}, Reps cA H vs ds → Reps cA H vs es → okEs T n ds = true → okEs T n es = true → deqs ds es = true
  | n, _, _, _, .nil, .nil, _, _ => by simp [deqs]
  | n, _, _, _, .cons r rs, .cons r' rs', o, o' => by
    simp only [okEs, Bool.and_eq_true] at o o'
    simp only [deqs, Bool.and_eq_true]
    exact ⟨rep_same E n r r' o.1 o'.1, reps_same E n rs rs' o.2 o'.2⟩
end
end
/-! ### flat values -/
def fltD : D → Bool
  | .non => true
  | .bl _ => true
  | .int _ => true
  | .str _ => true
  | _ => false
section
variable {A : Around} {s : Shared} {cA : Nat → Addr} {H : Hp} {x y : V} {u v : Value} {dx dy : D}
def RcA (neg : Bool) (A : Around) (s : Shared) (u v : Value) (c : Bool) : Prop := ∀ (prog : Program) (w : World) (E : Value → Shared → Prop) (Q : Value → Shared → Prop), Q (.bool (c != neg)) s → wpAny (model prog w) A (richCompare (cop neg) u v) Q E s
theorem RcA.eq {c : Bool} (h : RcAt A s u v c) : RcA false A s u v c := fun p w E Q q => h p w E Q (by simpa using q)
theorem RcA.ne {c : Bool} (h : RcNeAt A s u v (!c)) : RcA true A s u v c := fun p w E Q q => h p w E Q (by simpa using q)
theorem rc_flat (neg : Bool) (rx : Rep cA H x dx) (ry : Rep cA H y dy) (ru : RelV x u) (rv : RelV y v) (fx : fltD dx = true) (fy : fltD dy = true) : RcA neg A s u v (deq dx dy) := by
  match dx, dy, rx, ry, fx, fy with
  | .non, .non, rx, ry, _, _ =>
    cases rx; cases ry; cases ru; cases rv
    cases neg with
    | false => exact .eq (by simpa only [deq] using RcAt.none_none)
    | true => exact .ne (by simpa only [deq, Bool.not_true, Bool.not_false] using RcNeAt.none_none)
  | .non, .bl b, rx, ry, _, _ =>
    cases rx; cases ry; cases ru; cases rv
    cases neg with
    | false => exact .eq (by simpa only [deq] using RcAt.none_bool b)
    | true => exact .ne (by simpa only [deq, Bool.not_true, Bool.not_false] using RcNeAt.none_bool b)
  | .non, .int b, rx, ry, _, _ =>
    cases rx; cases ry; cases ru; obtain ⟨tb, rfl⟩ := rv
    cases neg with
    | false => exact .eq (by simpa only [deq] using RcAt.none_int b tb)
    | true => exact .ne (by simpa only [deq, Bool.not_true, Bool.not_false] using RcNeAt.none_int b tb)
  | .non, .str b, rx, ry, _, _ =>
    cases rx; cases ry; cases ru; obtain ⟨tb, rfl⟩ := rv
    cases neg with
    | false => exact .eq (by simpa only [deq] using RcAt.none_str b tb)
    | true => exact .ne (by simpa only [deq, Bool.not_true, Bool.not_false] using RcNeAt.none_str b tb)
  | .bl a, .non, rx, ry, _, _ =>
    cases rx; cases ry; cases ru; cases rv
    cases neg with
    | false => exact .eq (by simpa only [deq] using RcAt.bool_none a)
    | true => exact .ne (by simpa only [deq, Bool.not_true, Bool.not_false] using RcNeAt.bool_none a)
  | .bl a, .bl b, rx, ry, _, _ =>
    cases rx; cases ry; cases ru; cases rv
    cases neg with
    | false => exact .eq (by simpa only [deq] using RcAt.bool_bool a b)
    | true => exact .ne (by simpa only [deq, Bool.not_true, Bool.not_false] using RcNeAt.bool_bool a b)
  | .bl a, .int b, rx, ry, _, _ =>
    cases rx; cases ry; cases ru; obtain ⟨tb, rfl⟩ := rv
    cases neg with
    | false => exact .eq (by simpa only [deq] using RcAt.bool_int a b tb)
    | true => exact .ne (by simpa only [deq, Bool.not_true, Bool.not_false] using RcNeAt.bool_int a b tb)
  | .bl a, .str b, rx, ry, _, _ =>
    cases rx; cases ry; cases ru; obtain ⟨tb, rfl⟩ := rv
    cases neg with
    | false => exact .eq (by simpa only [deq] using RcAt.bool_str a b tb)
    | true => exact .ne (by simpa only [deq, Bool.not_true, Bool.not_false] using RcNeAt.bool_str a b tb)
  | .int a, .non, rx, ry, _, _ =>
    cases rx; cases ry; obtain ⟨ta, rfl⟩ := ru; cases rv
    cases neg with
    | false => exact .eq (by simpa only [deq] using RcAt.int_none a ta)
    | true => exact .ne (by simpa only [deq, Bool.not_true, Bool.not_false] using RcNeAt.int_none a ta)
  | .int a, .bl b, rx, ry, _, _ =>
    cases rx; cases ry; obtain ⟨ta, rfl⟩ := ru; cases rv
    cases neg with
    | false => exact .eq (by simpa only [deq] using RcAt.int_bool a ta b)
    | true => exact .ne (by simpa only [deq, Bool.not_true, Bool.not_false] using RcNeAt.int_bool a ta b)
  | .int a, .int b, rx, ry, _, _ =>
    cases rx; cases ry; obtain ⟨ta, rfl⟩ := ru; obtain ⟨tb, rfl⟩ := rv
    cases neg with
    | false => exact .eq (by simpa only [deq] using RcAt.int_int a ta b tb)
    | true => exact .ne (by simpa only [deq, Bool.not_true, Bool.not_false] using RcNeAt.int_int a ta b tb)
  | .int a, .str b, rx, ry, _, _ =>
    cases rx; cases ry; obtain ⟨ta, rfl⟩ := ru; obtain ⟨tb, rfl⟩ := rv
    cases neg with
    | false => exact .eq (by simpa only [deq] using RcAt.int_str a ta b tb)
    | true => exact .ne (by simpa only [deq, Bool.not_true, Bool.not_false] using RcNeAt.int_str a ta b tb)
  | .str a, .non, rx, ry, _, _ =>
    cases rx; cases ry; obtain ⟨ta, rfl⟩ := ru; cases rv
    cases neg with
    | false => exact .eq (by simpa only [deq] using RcAt.str_none a ta)
    | true => exact .ne (by simpa only [deq, Bool.not_true, Bool.not_false] using RcNeAt.str_none a ta)
  | .str a, .bl b, rx, ry, _, _ =>
    cases rx; cases ry; obtain ⟨ta, rfl⟩ := ru; cases rv
    cases neg with
    | false => exact .eq (by simpa only [deq] using RcAt.str_bool a ta b)
    | true => exact .ne (by simpa only [deq, Bool.not_true, Bool.not_false] using RcNeAt.str_bool a ta b)
  | .str a, .int b, rx, ry, _, _ =>
    cases rx; cases ry; obtain ⟨ta, rfl⟩ := ru; obtain ⟨tb, rfl⟩ := rv
    cases neg with
    | false => exact .eq (by simpa only [deq] using RcAt.str_int a ta b tb)
    | true => exact .ne (by simpa only [deq, Bool.not_true, Bool.not_false] using RcNeAt.str_int a ta b tb)
  | .str a, .str b, rx, ry, _, _ =>
    cases rx; cases ry; obtain ⟨ta, rfl⟩ := ru; obtain ⟨tb, rfl⟩ := rv
    cases neg with
    | false => exact .eq (by simpa only [deq] using RcAt.str_str a ta b tb)
    | true => exact .ne (by simpa only [deq, Bool.not_true, Bool.not_false] using RcNeAt.str_str a ta b tb)
theorem rc_flat_list (neg : Bool) {l : Addr} {its : Array Value} (rx : Rep cA H x dx) (ru : RelV x u) (fx : fltD dx = true) (hl : s.heap.IsList l its) (hu : A.units < cLine) : RcA neg A s u (.ref l) false ∧ RcA neg A s (.ref l) u false := by
  match dx, rx, fx with
  | .non, rx, _ =>
    cases rx; cases ru
    cases neg with
    | false => exact ⟨.eq (RcAt.none_list hl hu), .eq (RcAt.list_none hl hu)⟩
    | true => exact ⟨.ne (RcNeAt.none_list hl hu), .ne (RcNeAt.list_none hl hu)⟩
  | .bl a, rx, _ =>
    cases rx; cases ru
    cases neg with
    | false => exact ⟨.eq (RcAt.bool_list a hl hu), .eq (RcAt.list_bool a hl hu)⟩
    | true => exact ⟨.ne (RcNeAt.bool_list a hl hu), .ne (RcNeAt.list_bool a hl hu)⟩
  | .int a, rx, _ =>
    cases rx; obtain ⟨ta, rfl⟩ := ru
    cases neg with
    | false => exact ⟨.eq (RcAt.int_list a ta hl hu), .eq (RcAt.list_int a ta hl hu)⟩
    | true => exact ⟨.ne (RcNeAt.int_list a ta hl hu), .ne (RcNeAt.list_int a ta hl hu)⟩
  | .str a, rx, _ =>
    cases rx; obtain ⟨ta, rfl⟩ := ru
    cases neg with
    | false => exact ⟨.eq (RcAt.str_list a ta hl hu), .eq (RcAt.list_str a ta hl hu)⟩
    | true => exact ⟨.ne (RcNeAt.str_list a ta hl hu), .ne (RcNeAt.list_str a ta hl hu)⟩
theorem rc_flat_tuple (neg : Bool) {l : Addr} {its : Array Value} (rx : Rep cA H x dx) (ru : RelV x u) (fx : fltD dx = true) (hl : s.heap.IsTuple l its) (hu : A.units < cLine) : RcA neg A s u (.ref l) false ∧ RcA neg A s (.ref l) u false := by
  match dx, rx, fx with
  | .non, rx, _ =>
    cases rx; cases ru
    cases neg with
    | false => exact ⟨.eq (RcAt.none_tuple hl hu), .eq (RcAt.tuple_none hl hu)⟩
    | true => exact ⟨.ne (RcNeAt.none_tuple hl hu), .ne (RcNeAt.tuple_none hl hu)⟩
  | .bl a, rx, _ =>
    cases rx; cases ru
    cases neg with
    | false => exact ⟨.eq (RcAt.bool_tuple a hl hu), .eq (RcAt.tuple_bool a hl hu)⟩
    | true => exact ⟨.ne (RcNeAt.bool_tuple a hl hu), .ne (RcNeAt.tuple_bool a hl hu)⟩
  | .int a, rx, _ =>
    cases rx; obtain ⟨ta, rfl⟩ := ru
    cases neg with
    | false => exact ⟨.eq (RcAt.int_tuple a ta hl hu), .eq (RcAt.tuple_int a ta hl hu)⟩
    | true => exact ⟨.ne (RcNeAt.int_tuple a ta hl hu), .ne (RcNeAt.tuple_int a ta hl hu)⟩
  | .str a, rx, _ =>
    cases rx; obtain ⟨ta, rfl⟩ := ru
    cases neg with
    | false => exact ⟨.eq (RcAt.str_tuple a ta hl hu), .eq (RcAt.tuple_str a ta hl hu)⟩
    | true => exact ⟨.ne (RcNeAt.str_tuple a ta hl hu), .ne (RcNeAt.tuple_str a ta hl hu)⟩
/-- a flat value, a list or a tuple declines an instance -/
theorem flat_dec {prog : Program} {w : World} {E : Value → Shared → Prop} (neg : Bool) {l C d : Addr} (rx : Rep cA H x dx) (ru : RelV x u) (fx : fltD dx = true) (hl : s.heap.get? l = some (PySem.W.instObj C d)) :
    ∃ Ty : String, s.TypeIs u Ty ∧ Ty ∈ (["NoneType", "bool", "int", "str", "list", "tuple"] : List String) ∧ wpAny (model prog w) A (tryCompare u (cmpInfo (cop neg)).2.1 (.ref l)) (fun r z => r = none ∧ z = s) E s := by
  match dx, rx, fx with
  | .non, rx, _ =>
    cases rx; cases ru
    refine ⟨"NoneType", rfl, by simp, ?_⟩
    cases neg with
    | false =>
      refine wpAny_tryCompare_declines rfl F.slot_NoneType_eq ?_
      exact call_gives F.slot_NoneType_eq rfl F.entry_NoneType_eq (F.args_NoneType_eq_2 _ _) (NoneType___eq___none_ref_0 l) ⟨rfl, rfl, rfl⟩
    | true =>
      refine wpAny_tryCompare_declines rfl F.slot_NoneType_ne ?_
      exact call_gives F.slot_NoneType_ne rfl F.entry_NoneType_ne (F.args_NoneType_ne_2 _ _) (NoneType___ne___none_ref_0 l) ⟨rfl, rfl, rfl⟩
  | .bl a, rx, _ =>
    cases rx; cases ru
    refine ⟨"bool", rfl, by simp, ?_⟩
    cases neg with
    | false =>
      refine wpAny_tryCompare_declines rfl F.slot_bool_eq ?_
      exact call_meets F.slot_bool_eq rfl F.entry_int_eq (F.args_int_eq_2 _ _) (bool_eq_dec a l d) ⟨hl, rfl, rfl, rfl⟩
    | true =>
      refine wpAny_tryCompare_declines rfl F.slot_bool_ne ?_
      exact call_meets F.slot_bool_ne rfl F.entry_int_ne (F.args_int_ne_2 _ _) (bool_ne_dec a l d) ⟨hl, rfl, rfl, rfl⟩
  | .int a, rx, _ =>
    cases rx; obtain ⟨ta, rfl⟩ := ru
    refine ⟨"int", (typeIs_int s a ta), by simp, ?_⟩
    cases neg with
    | false =>
      refine wpAny_tryCompare_declines (typeIs_int s a ta) F.slot_int_eq ?_
      exact call_meets F.slot_int_eq (typeIs_int s a ta) F.entry_int_eq (F.args_int_eq_2 _ _) (int_eq_dec a ta l d) ⟨hl, rfl, rfl, rfl⟩
    | true =>
      refine wpAny_tryCompare_declines (typeIs_int s a ta) F.slot_int_ne ?_
      exact call_meets F.slot_int_ne (typeIs_int s a ta) F.entry_int_ne (F.args_int_ne_2 _ _) (int_ne_dec a ta l d) ⟨hl, rfl, rfl, rfl⟩
  | .str a, rx, _ =>
    cases rx; obtain ⟨ta, rfl⟩ := ru
    refine ⟨"str", (typeIs_str s a ta), by simp, ?_⟩
    cases neg with
    | false =>
      refine wpAny_tryCompare_declines (typeIs_str s a ta) F.slot_str_eq ?_
      exact call_meets F.slot_str_eq (typeIs_str s a ta) F.entry_str_eq (F.args_str_eq_2 _ _) (str_eq_dec a ta l d) ⟨hl, rfl, rfl, rfl⟩
    | true =>
      refine wpAny_tryCompare_declines (typeIs_str s a ta) F.slot_str_ne ?_
      exact call_meets F.slot_str_ne (typeIs_str s a ta) F.entry_str_ne (F.args_str_ne_2 _ _) (str_ne_dec a ta l d) ⟨hl, rfl, rfl, rfl⟩
theorem list_dec {prog : Program} {w : World} {K : PySem.W.Frag} {E : Value → Shared → Prop} (neg : Bool) {l p C : Addr} {ox : Obj} {od : Option Obj} (X : K.In s.heap) (I : PySem.W.InstAt s.heap l ox C od) (hno : PySem.W.subIn K (.ref C) (.type "list") = some false) (hT : s.TypeIs (.ref p) "list") :
    wpAny (model prog w) A (tryCompare (.ref p) (cmpInfo (cop neg)).2.1 (.ref l)) (fun r z => r = none ∧ z = s) E s := by
  cases neg with
  | false => exact wpAny_tryCompare_declines hT F.slot_list_eq (GQ.call_here F.slot_list_eq hT F.entry_list_eq (F.args_list_eq_2 _ _) (list_eq_dec X I hno ⟨rfl, rfl, rfl⟩))
  | true => exact wpAny_tryCompare_declines hT F.slot_list_ne (GQ.call_here F.slot_list_ne hT F.entry_list_ne (F.args_list_ne_2 _ _) (list_ne_dec X I hno ⟨rfl, rfl, rfl⟩))
theorem tuple_dec {prog : Program} {w : World} {K : PySem.W.Frag} {E : Value → Shared → Prop} (neg : Bool) {l p C : Addr} {ox : Obj} {od : Option Obj} (X : K.In s.heap) (I : PySem.W.InstAt s.heap l ox C od) (hno : PySem.W.subIn K (.ref C) (.type "tuple") = some false) (hT : s.TypeIs (.ref p) "tuple") :
    wpAny (model prog w) A (tryCompare (.ref p) (cmpInfo (cop neg)).2.1 (.ref l)) (fun r z => r = none ∧ z = s) E s := by
  cases neg with
  | false => exact wpAny_tryCompare_declines hT F.slot_tuple_eq (GQ.call_here F.slot_tuple_eq hT F.entry_tuple_eq (F.args_tuple_eq_2 _ _) (tuple_eq_dec X I hno ⟨rfl, rfl, rfl⟩))
  | true => exact wpAny_tryCompare_declines hT F.slot_tuple_ne (GQ.call_here F.slot_tuple_ne hT F.entry_tuple_ne (F.args_tuple_ne_2 _ _) (tuple_ne_dec X I hno ⟨rfl, rfl, rfl⟩))
end
end DD
namespace DD
open PySem PySem.Spec PyProof.Rows PySem.SeqAt L2
/-! ### == and != of all data, with the own __eq__ of T's classes -/
abbrev XNo : XK := fun _ _ _ => False
theorem xno_pass {X : Cx} : Passes (L2.CX X.prog X.w) X XNo := by
  intro pins σ H s e s' I c
  obtain ⟨_, _, _, cls, d, _, _, _, _, _, _, _, z⟩ := c
  exact z.elim
def SEq (T : Nat → Option (List Str)) (n : Nat) : FS := fun ws μ P => ∃ (c : Nat) (fs : List Str) (ds : List D) (e : D), ws = [.d (.obj c fs ds), .d e] ∧ μ = [] ∧ okE T n (.obj c fs ds) = true ∧ okE T n e = true ∧ P (.ret (.d (.bl (deq (.obj c fs ds) e)))) μ
section
variable {X : Cx} {cA : Nat → Addr} {T : Nat → Option (List Str)} {f : Addr} {fd : FuncData} {ps : List Str}
def EqN (X : Cx) (cA : Nat → Addr) (T : Nat → Option (List Str)) (n : Nat) : Prop :=
  ∀ (A : Around) (pins : List (Addr × Obj)) (s : Shared) (σ : L2.St) (H : Hp) (x y : V) (u v : Value) (dx dy : D), L2.Sub X (n + 1) A → Inv X pins σ H s → RelV x u → RelV y v → Rep cA H x dx → Rep cA H y dy → okE T n dx = true → okE T n dy = true →
    wpAny (model X.prog X.w) A (eqBool u v) (fun r s' => r = deq dx dy ∧ LoopI X pins σ H s') X.xe s
def RcN (X : Cx) (cA : Nat → Addr) (T : Nat → Option (List Str)) (n : Nat) (neg : Bool) : Prop :=
  ∀ (A : Around) (pins : List (Addr × Obj)) (s : Shared) (σ : L2.St) (H : Hp) (x y : V) (u v : Value) (dx dy : D), L2.Sub X (n + 1) A → Inv X pins σ H s → RelV x u → RelV y v → Rep cA H x dx → Rep cA H y dy → okE T n dx = true → okE T n dy = true →
    wpAny (model X.prog X.w) A (richCompare (cop neg) u v) (fun r s' => r = .bool (deq dx dy != neg) ∧ LoopI X pins σ H s') X.xe s
abbrev EqF (X : Cx) (cA : Nat → Addr) (T : Nat → Option (List Str)) (f : Addr) (fd : FuncData) (ps : List Str) (n : Nat) : Prop := FnOk X.prog X.w X.K X.mg X.base (L2.CX X.prog X.w) n f fd ps (spD cA (SEq T n))
/-- the own == is called -/
theorem call_own {n : Nat} {A : Around} {pins : List (Addr × Obj)} {s : Shared} {σ : L2.St} {H : Hp} {x y : V} {u v : Value} {c : Nat} {fs : List Str} {ds : List D} {e : D} (F : EqF X cA T f fd ps n) (hb : Binds X.K fd ps []) (sb : L2.Sub X n A) (I : Inv X pins σ H s) (ru : RelV x u) (rv : RelV y v)
    (rx : Rep cA H x (.obj c fs ds)) (ry : Rep cA H y e) (o : okE T n (.obj c fs ds) = true) (o' : okE T n e = true) :
    wpAny (model X.prog X.w) A (call (.ref f) [u, v]) (fun r s' => ∃ z, r = .bool z ∧ z = deq (.obj c fs ds) e ∧ LoopI X pins σ H s') X.xe s := by
  have hs : spD cA (SEq T n) [x, y] H (fun v H' => v = .bl (deq (.obj c fs ds) e) ∧ Ext H H') XNo := by
    refine ⟨fun _ => none, H, [], [.d (.obj c fs ds), .d e], [], fun r _ => r = .ret (.d (.bl (deq (.obj c fs ds) e))), ?_, .cons (.d rx) (.cons (.d ry) .nil), ⟨c, fs, ds, e, rfl, rfl, o, o', rfl⟩, fun r μ' G' m' H' hp l rm => ?_⟩
    · exact ⟨fun _ _ h => (by cases h), Sub.refl H, fun _ _ h => (by cases h), rfl, fun i c as h => (by simp at h), fun i c as h => (by simp at h), fun i j c c' as as' a h => (by simp at h), fun i c as a h => (by simp at h)⟩
    · subst hp
      intro v q
      cases q with
      | d q =>
        cases q
        exact ⟨rfl, l.g.trans rm.gh⟩
  have e0 : Env0 X.prog X.w X.K X.mg X.base A X.stack s H := by
    have e := I.env0
    exact ⟨by rw [sb.fr]; exact e.frames, e.mod, e.bs, e.bsz, e.funs, e.frf, e.hok, e.bare⟩
  have hl := F.len _ _ _ _ hs
  refine wpAny_call (codeAny_mono (F.run A X.stack s H ⟨[u, v], []⟩ [u, v] [x, y] _ XNo sb.room e0 (by
    have := hb s [u, v] I.kIn (by simpa using hl)
    simpa using this) (.cons ru (.cons rv .nil)) hs) fun r s' hq => ?_)
  cases r with
  | error e => exact xno_pass pins σ H s e s' I hq
  | ok fl =>
    cases fl with
    | ret w =>
      obtain ⟨z, H', I', rz, ez, ex⟩ := I.after hq
      subst ez
      cases rz
      exact ⟨_, rfl, rfl, H', I', ex⟩
    | next => exact False.elim hq
    | brk => exact False.elim hq
    | cont => exact False.elim hq
theorem notFirst_ty {K : PySem.W.Frag} {C : Addr} {Ty : String} (h : Ty ∈ (["NoneType", "bool", "int", "str", "list", "tuple"] : List String)) : PySem.W.notFirst K C (.type Ty) = true := by
  have key : ∀ (t : String) (l : List Value), fastBuiltinMro t = some l → l.contains (.ref C) = false → PySem.W.notFirst K C (.type t) = true := fun t l e c => by
    have : PySem.W.subIn K (.type t) (.ref C) = some false := by
      show (fastBuiltinMro t).map (·.contains (.ref C)) = some false
      rw [e]
      exact congrArg some c
    show ((Value.type t == Value.ref C) || (PySem.W.subIn K (.type t) (.ref C) == some false)) = true
    rw [this]
    simp
  simp only [List.mem_cons, List.not_mem_nil, or_false] at h
  rcases h with rfl | rfl | rfl | rfl | rfl | rfl
  · exact key _ [.type "NoneType", .type "object"] (by decide +kernel) (by simp)
  · exact key _ [.type "bool", .type "int", .type "object"] (by decide +kernel) (by simp)
  · exact key _ [.type "int", .type "object"] (by decide +kernel) (by simp)
  · exact key _ [.type "str", .type "object"] (by decide +kernel) (by simp)
  · exact key _ [.type "list", .type "object"] (by decide +kernel) (by simp)
  · exact key _ [.type "tuple", .type "object"] (by decide +kernel) (by simp)
theorem typeOf_looks {M : Model} {s : Shared} {u : Value} {Ty : String} (h : s.TypeIs u Ty) : PySem.W.Looks M s.heap (typeOf u) (.type Ty) := by
  cases u with
  | ref a =>
    obtain ⟨o, ho, hc⟩ := h
    rw [← hc]
    exact (PySem.W.Looks.ld (part := none) ho).andThen .now
  | _ => exact PySem.W.Looks.of_pure h
/-- where the left one or the right one is an instance -/
theorem rc_ins_left {n : Nat} {neg : Bool} (E : EqT X.K cA T f) (F : EqF X cA T f fd ps (n + 3)) (hb : Binds X.K fd ps []) {A : Around} {pins : List (Addr × Obj)} {s : Shared} {σ : L2.St} {H : Hp} {x y : V} {u v : Value} {c : Nat} {fs : List Str} {ds : List D} {e : D} {tb : Value} (sb : L2.Sub X (n + 4) A) (I : Inv X pins σ H s) (ru : RelV x u) (rv : RelV y v)
    (rx : Rep cA H x (.obj c fs ds)) (ry : Rep cA H y e) (o : okE T (n + 3) (.obj c fs ds) = true) (o' : okE T (n + 3) e = true) (ht : PySem.W.Looks (model X.prog X.w) s.heap (typeOf v) tb) (hn : PySem.W.notFirst X.K (cA c) tb = true) :
    wpAny (model X.prog X.w) A (richCompare (cop neg) u v) (fun r s' => r = .bool (deq (.obj c fs ds) e != neg) ∧ LoopI X pins σ H s') X.xe s := by
  have ht0 : T c = some fs := by simp only [okE, Bool.and_eq_true, beq_iff_eq] at o; exact o.1.1
  generalize hd : D.obj c fs ds = dd at rx
  have rx' := rx
  cases rx with
  | @obj p dx c fs xs ds h l r =>
    cases hd
    cases ru
    obtain ⟨mA, O, _⟩ := ins_get I.hok h
    obtain ⟨od, J, _⟩ := O.look
    have k : ∀ A', L2.Sub X (n + 3) A' → wpAny (model X.prog X.w) A' (call (.ref f) [.ref p, v]) (fun r z => ∃ q, r = Value.bool q ∧ (fun (r : Value) s' => r = Value.bool (deq (.obj c fs ds) e != neg) ∧ LoopI X pins σ H s') (Value.bool (q != neg)) z) X.xe s := fun A' sb' =>
      wpAny_mono (call_own F hb sb' I (x := .ref p) rfl rv rx' ry o o') (fun r z ⟨q, e1, e2, L⟩ => ⟨q, e1, by rw [e2], L⟩) fun _ _ z => z
    refine rc_own I.kIn J (E.cl c fs ht0) (by have := sb.room.un; omega) ht hn ?_
    cases neg with
    | false => exact k A (sb.mono (by omega))
    | true => exact k A.in1 sb.in1
  | _ => cases hd
theorem rc_ins_right {n : Nat} {neg : Bool} (E : EqT X.K cA T f) (F : EqF X cA T f fd ps (n + 3)) (hb : Binds X.K fd ps []) {A : Around} {pins : List (Addr × Obj)} {s : Shared} {σ : L2.St} {H : Hp} {x y : V} {u v : Value} {c : Nat} {fs : List Str} {ds : List D} {e : D} {Ty : String} (sb : L2.Sub X (n + 4) A) (I : Inv X pins σ H s) (ru : RelV x u) (rv : RelV y v)
    (rx : Rep cA H x (.obj c fs ds)) (ry : Rep cA H y e) (o : okE T (n + 3) (.obj c fs ds) = true) (o' : okE T (n + 3) e = true) (ht : s.TypeIs v Ty) (hm : Ty ∈ (["NoneType", "bool", "int", "str", "list", "tuple"] : List String))
    (hdec : ∀ l d, u = .ref l → s.heap.get? l = some (PySem.W.instObj (cA c) d) → X.K.In s.heap → (∃ od, PySem.W.InstAt s.heap l (PySem.W.instObj (cA c) d) (cA c) od) → PySem.W.subIn X.K (.ref (cA c)) (.type Ty) = some false → wpAny (model X.prog X.w) A (tryCompare v (cmpInfo (cop neg)).2.1 (.ref l)) (fun r z => r = none ∧ z = s) X.xe s) :
    wpAny (model X.prog X.w) A (richCompare (cop neg) v u) (fun r s' => r = .bool (deq (.obj c fs ds) e != neg) ∧ LoopI X pins σ H s') X.xe s := by
  have ht0 : T c = some fs := by simp only [okE, Bool.and_eq_true, beq_iff_eq] at o; exact o.1.1
  generalize hd : D.obj c fs ds = dd at rx
  have rx' := rx
  cases rx with
  | @obj p dx c fs xs ds h l r =>
    cases hd
    cases ru
    obtain ⟨mA, O, _⟩ := ins_get I.hok h
    obtain ⟨od, J, _⟩ := O.look
    have k : ∀ A', L2.Sub X (n + 3) A' → wpAny (model X.prog X.w) A' (call (.ref f) [.ref p, v]) (fun r z => ∃ q, r = Value.bool q ∧ (fun (r : Value) s' => r = Value.bool (deq (.obj c fs ds) e != neg) ∧ LoopI X pins σ H s') (Value.bool (q != neg)) z) X.xe s := fun A' sb' =>
      wpAny_mono (call_own F hb sb' I (x := .ref p) rfl rv rx' ry o o') (fun r z ⟨q, e1, e2, L⟩ => ⟨q, e1, by rw [e2], L⟩) fun _ _ z => z
    have hno := (E.cl c fs ht0).no Ty hm
    refine rc_back I.kIn J (E.cl c fs ht0) (by have := sb.room.un; omega) ht hno (hdec p dx rfl O.obj I.kIn ⟨_, J⟩ hno) ?_
    cases neg with
    | false => exact k A (sb.mono (by omega))
    | true => exact k A.in1 sb.in1
  | _ => cases hd
end
end DD
namespace DD
open PySem PySem.Spec PyProof.Rows PySem.SeqAt L2
section
variable {X : Cx} {cA : Nat → Addr} {T : Nat → Option (List Str)} {f : Addr} {fd : FuncData} {ps : List Str} {n : Nat} {A : Around} {pins : List (Addr × Obj)} {s : Shared} {σ : L2.St} {H : Hp} {a b : Addr} {xs ys : List V} {ds es : List D}
theorem turn_at (hE : EqN X cA T n) (sb : L2.Sub X (n + 2) A) (rx : Reps cA H xs ds) (ry : Reps cA H ys es) (o : okEs T n ds = true) (o' : okEs T n es = true) {its its2 : List Value} (r : Vals xs its) (r2 : Vals ys its2) (i : Nat) (h1 : i < its.toArray.size) (h2 : i < its2.toArray.size) (z : Shared) (L : LoopI X pins σ H z) :
    wpAny (model X.prog X.w) A.in1 (eqBool its.toArray[i] its2.toArray[i]) (fun c z => c = deqAt ds es i ∧ LoopI X pins σ H z) X.xe z := by
  obtain ⟨H1, I1, e1⟩ := L
  have h1' : i < its.length := by simpa using h1
  have h2' : i < its2.length := by simpa using h2
  have g1 : its[i]? = some its.toArray[i] := by rw [List.getElem?_eq_getElem h1'] <;> simp
  have g2 : its2[i]? = some its2.toArray[i] := by rw [List.getElem?_eq_getElem h2'] <;> simp
  have k1 : xs[i]? = some (xs[i]'(by rw [r.length]; exact h1')) := List.getElem?_eq_getElem _
  have k2 : ys[i]? = some (ys[i]'(by rw [r2.length]; exact h2')) := List.getElem?_eq_getElem _
  obtain ⟨u, hu, ru⟩ := r.get k1
  obtain ⟨v, hv, rv⟩ := r2.get k2
  rw [g1] at hu
  rw [g2] at hv
  rw [Option.some.inj hu, Option.some.inj hv]
  obtain ⟨d, e2, q1⟩ := rx.get k1
  obtain ⟨e, e3, q2⟩ := ry.get k2
  rw [okEs_all] at o o'
  have od := List.all_eq_true.mp o d (List.mem_of_getElem? e2)
  have oe := List.all_eq_true.mp o' e (List.mem_of_getElem? e3)
  refine wpAny_mono (hE A.in1 pins z σ H1 _ _ u v d e sb.in1 I1 ru rv (q1.mono e1) (q2.mono e1) od oe) (fun c z q => ?_) fun _ _ q => q
  obtain ⟨hr, H2, I2, e4⟩ := q
  refine ⟨?_, H2, I2, e1.trans e4⟩
  rw [hr]
  unfold deqAt
  rw [e2, e3]
theorem rc_tup_eq (hE : EqN X cA T n) (sb : L2.Sub X (n + 2) A) (I : Inv X pins σ H s) (ha : H a = some (.tup xs)) (hb : H b = some (.tup ys)) (rx : Reps cA H xs ds) (ry : Reps cA H ys es) (o : okEs T n ds = true) (o' : okEs T n es = true) :
    wpAny (model X.prog X.w) A (richCompare (cop false) (.ref a) (.ref b)) (fun r s' => r = .bool (deqs ds es != false) ∧ LoopI X pins σ H s') X.xe s := by
  obtain ⟨its, r, e, _⟩ := I.tuple (SqT.of ha)
  obtain ⟨its2, r2, e2, _⟩ := I.tuple (SqT.of hb)
  obtain ⟨⟨c1, d1, t1, l1⟩, ho, hc, n1, hd⟩ := id e
  obtain ⟨⟨c2, d2, t2, l2⟩, ho2, hc2, n2, hd2⟩ := id e2
  simp only at hc hd hc2 hd2
  subst hc hd hc2 hd2
  have z1 : its.toArray.size = ds.length := by rw [List.size_toArray, ← r.length, rx.len]
  have z2 : its2.toArray.size = es.length := by rw [List.size_toArray, ← r2.length, ry.len]
  refine wpAny_richCompare_same_room (op := .Eq) ⟨_, ho, rfl⟩ ⟨_, ho2, rfl⟩ F.slot_tuple_eq (GQ.call_here F.slot_tuple_eq ⟨_, ho, rfl⟩ F.entry_tuple_eq (F.args_tuple_eq_2 _ _) ?_) sb.room.units0
  refine tuEq (R := wants (fun v z => v ≠ .notImplemented ∧ v = .bool (deqs ds es != false) ∧ LoopI X pins σ H z) X.xe) a b its.toArray its2.toArray n1 n2 d1 d2 l1 l2 (deqAt ds es) (LoopI X pins σ H) (fun i h1 h2 z L => turn_at hE sb rx ry o o' r r2 i h1 h2 z L) (fun z q L hq => ?_) ho ho2 ⟨H, I, Ext.rfl'⟩
  subst hq
  refine ⟨nofun, ?_, L⟩
  rw [deqs_all, z1, z2]
  simp
theorem rc_lst_eq (hE : EqN X cA T n) (sb : L2.Sub X (n + 2) A) (I : Inv X pins σ H s) (ha : H a = some (.lst xs)) (hb : H b = some (.lst ys)) (rx : Reps cA H xs ds) (ry : Reps cA H ys es) (o : okEs T n ds = true) (o' : okEs T n es = true) :
    wpAny (model X.prog X.w) A (richCompare (cop false) (.ref a) (.ref b)) (fun r s' => r = .bool (deqs ds es != false) ∧ LoopI X pins σ H s') X.xe s := by
  by_cases hz : ds.length = es.length
  · have two : Seqs2 X.prog X.w A (wants (fun v z => v ≠ .notImplemented ∧ v = .bool (deqs ds es != false) ∧ LoopI X pins σ H z) X.xe) a b ds.length (deqAt ds es) (LoopI X pins σ H) := fun z L => by
      obtain ⟨H1, I1, e1⟩ := id L
      obtain ⟨_, its, k, r, e⟩ := I1.hok a _ (e1 _ _ ha)
      obtain ⟨_, its2, k2, r2, e2⟩ := I1.hok b _ (e1 _ _ hb)
      exact ⟨its.toArray, its2.toArray, k, k2, e, e2, by rw [List.size_toArray, ← r.length, rx.len], by rw [List.size_toArray, ← r2.length, ry.len, hz], fun i h1 h2 => turn_at hE sb rx ry o o' r r2 i h1 h2 z L⟩
    obtain ⟨zs, zs2, k1, k2, h1, h2, _⟩ := two s ⟨H, I, Ext.rfl'⟩
    refine wpAny_richCompare_same_room (op := .Eq) ⟨_, h1, rfl⟩ ⟨_, h2, rfl⟩ F.slot_list_eq (GQ.call_here F.slot_list_eq ⟨_, h1, rfl⟩ F.entry_list_eq (F.args_list_eq_2 _ _) ?_) sb.room.units0
    refine liEq (R := wants (fun v z => v ≠ .notImplemented ∧ v = .bool (deqs ds es != false) ∧ LoopI X pins σ H z) X.xe) a b ds.length (deqAt ds es) (LoopI X pins σ H) two (fun z q L hq => ?_) ⟨H, I, Ext.rfl'⟩
    subst hq
    refine ⟨nofun, ?_, L⟩
    rw [deqs_all, ← hz]
    simp
  · obtain ⟨its, r, e, _⟩ := I.list (SqL.of ha)
    obtain ⟨its2, r2, e2, _⟩ := I.list (SqL.of hb)
    have hne : (its.toArray.size != its2.toArray.size) = true := by
      rw [List.size_toArray, List.size_toArray, ← r.length, ← r2.length, rx.len, ry.len]
      simpa using hz
    have hf : deqs ds es = false := by
      rw [deqs_all]
      simp [hz]
    rw [hf]
    exact RcAt.lists_lengths e.isList e2.isList hne sb.room.units0 X.prog X.w X.xe _ ⟨rfl, H, I, Ext.rfl'⟩
theorem rc_tup_ne (hE : EqN X cA T n) (sb : L2.Sub X (n + 2) A) (I : Inv X pins σ H s) (ha : H a = some (.tup xs)) (hb : H b = some (.tup ys)) (rx : Reps cA H xs ds) (ry : Reps cA H ys es) (o : okEs T n ds = true) (o' : okEs T n es = true) :
    wpAny (model X.prog X.w) A (richCompare (cop true) (.ref a) (.ref b)) (fun r s' => r = .bool (deqs ds es != true) ∧ LoopI X pins σ H s') X.xe s := by
  obtain ⟨its, r, e, _⟩ := I.tuple (SqT.of ha)
  obtain ⟨its2, r2, e2, _⟩ := I.tuple (SqT.of hb)
  obtain ⟨⟨c1, d1, t1, l1⟩, ho, hc, n1, hd⟩ := id e
  obtain ⟨⟨c2, d2, t2, l2⟩, ho2, hc2, n2, hd2⟩ := id e2
  simp only at hc hd hc2 hd2
  subst hc hd hc2 hd2
  have z1 : its.toArray.size = ds.length := by rw [List.size_toArray, ← r.length, rx.len]
  have z2 : its2.toArray.size = es.length := by rw [List.size_toArray, ← r2.length, ry.len]
  refine wpAny_richCompare_same_room (op := .NotEq) ⟨_, ho, rfl⟩ ⟨_, ho2, rfl⟩ F.slot_tuple_ne (GQ.call_here F.slot_tuple_ne ⟨_, ho, rfl⟩ F.entry_tuple_ne (F.args_tuple_ne_2 _ _) ?_) sb.room.units0
  refine tuNe (R := wants (fun v z => v ≠ .notImplemented ∧ v = .bool (deqs ds es != true) ∧ LoopI X pins σ H z) X.xe) a b its.toArray its2.toArray n1 n2 d1 d2 l1 l2 (deqAt ds es) (LoopI X pins σ H) (fun i h1 h2 z L => turn_at hE sb rx ry o o' r r2 i h1 h2 z L) (fun z q L hq => ?_) ho ho2 ⟨H, I, Ext.rfl'⟩
  subst hq
  refine ⟨nofun, ?_, L⟩
  rw [deqs_all, z1, z2]
  simp
theorem rc_lst_ne (hE : EqN X cA T n) (sb : L2.Sub X (n + 2) A) (I : Inv X pins σ H s) (ha : H a = some (.lst xs)) (hb : H b = some (.lst ys)) (rx : Reps cA H xs ds) (ry : Reps cA H ys es) (o : okEs T n ds = true) (o' : okEs T n es = true) :
    wpAny (model X.prog X.w) A (richCompare (cop true) (.ref a) (.ref b)) (fun r s' => r = .bool (deqs ds es != true) ∧ LoopI X pins σ H s') X.xe s := by
  by_cases hz : ds.length = es.length
  · have two : Seqs2 X.prog X.w A (wants (fun v z => v ≠ .notImplemented ∧ v = .bool (deqs ds es != true) ∧ LoopI X pins σ H z) X.xe) a b ds.length (deqAt ds es) (LoopI X pins σ H) := fun z L => by
      obtain ⟨H1, I1, e1⟩ := id L
      obtain ⟨_, its, k, r, e⟩ := I1.hok a _ (e1 _ _ ha)
      obtain ⟨_, its2, k2, r2, e2⟩ := I1.hok b _ (e1 _ _ hb)
      exact ⟨its.toArray, its2.toArray, k, k2, e, e2, by rw [List.size_toArray, ← r.length, rx.len], by rw [List.size_toArray, ← r2.length, ry.len, hz], fun i h1 h2 => turn_at hE sb rx ry o o' r r2 i h1 h2 z L⟩
    obtain ⟨zs, zs2, k1, k2, h1, h2, _⟩ := two s ⟨H, I, Ext.rfl'⟩
    refine wpAny_richCompare_same_room (op := .NotEq) ⟨_, h1, rfl⟩ ⟨_, h2, rfl⟩ F.slot_list_ne (GQ.call_here F.slot_list_ne ⟨_, h1, rfl⟩ F.entry_list_ne (F.args_list_ne_2 _ _) ?_) sb.room.units0
    refine liNe (R := wants (fun v z => v ≠ .notImplemented ∧ v = .bool (deqs ds es != true) ∧ LoopI X pins σ H z) X.xe) a b ds.length (deqAt ds es) (LoopI X pins σ H) two (fun z q L hq => ?_) ⟨H, I, Ext.rfl'⟩
    subst hq
    refine ⟨nofun, ?_, L⟩
    rw [deqs_all, ← hz]
    simp
  · obtain ⟨its, r, e, _⟩ := I.list (SqL.of ha)
    obtain ⟨its2, r2, e2, _⟩ := I.list (SqL.of hb)
    have hne : (its.toArray.size != its2.toArray.size) = true := by
      rw [List.size_toArray, List.size_toArray, ← r.length, ← r2.length, rx.len, ry.len]
      simpa using hz
    have hf : deqs ds es = false := by
      rw [deqs_all]
      simp [hz]
    rw [hf]
    exact RcNeAt.lists_lengths e.isList e2.isList hne sb.room.units0 X.prog X.w X.xe _ ⟨rfl, H, I, Ext.rfl'⟩
end
end DD
namespace DD
open PySem PySem.Spec PyProof.Rows PySem.SeqAt L2
def D.isObj : D → Bool
  | .obj _ _ _ => true
  | _ => false
theorem deq_noobj {d e : D} (h : d.isObj = true) (h' : e.isObj = false) : deq d e = false ∧ deq e d = false := by
  match d, h with
  | .obj c fs ds, _ => cases e <;> first | (simp [D.isObj] at h'; done) | exact ⟨by simp [deq], by simp [deq]⟩
section
variable {X : Cx} {cA : Nat → Addr} {T : Nat → Option (List Str)} {f : Addr} {fd : FuncData} {ps : List Str} {A : Around} {pins : List (Addr × Obj)} {s : Shared} {σ : L2.St} {H : Hp} {x y : V} {u v : Value} {dx dy : D}
/-- the type of what is no instance -/
theorem type_of (I : Inv X pins σ H s) (ru : RelV x u) (rx : Rep cA H x dx) (h : dx.isObj = false) (n : Nat) (o : okE T n dx = true) : ∃ Ty : String, s.TypeIs u Ty ∧ Ty ∈ (["NoneType", "bool", "int", "str", "list", "tuple"] : List String) := by
  cases rx with
  | non => cases ru; exact ⟨"NoneType", rfl, by simp⟩
  | bl b => cases ru; exact ⟨"bool", rfl, by simp⟩
  | int i => obtain ⟨t, rfl⟩ := ru; exact ⟨"int", typeIs_int s i t, by simp⟩
  | str i => obtain ⟨t, rfl⟩ := ru; exact ⟨"str", typeIs_str s i t, by simp⟩
  | tup hp r =>
    cases ru
    obtain ⟨its, r, e, _⟩ := I.tuple (SqT.of hp)
    obtain ⟨o, ho, hc, n, hd⟩ := id e
    exact ⟨"tuple", ⟨_, ho, hc⟩, by simp⟩
  | lst hp r =>
    cases ru
    obtain ⟨its, r, e, _⟩ := I.list (SqL.of hp)
    obtain ⟨o, ho, hc, n, hd⟩ := id e.isList
    exact ⟨"list", ⟨_, ho, hc⟩, by simp⟩
  | obj h' _ _ => cases h
  | dic _ _ _ =>
    match n, o with
    | 0, o => simp [okE] at o
    | 1, o => simp [okE] at o
    | 2, o => simp [okE] at o
    | n + 3, o => simp [okE] at o
/-- .. declines an instance -/
theorem dec_of {neg : Bool} (I : Inv X pins σ H s) (ru : RelV x u) (rx : Rep cA H x dx) (h : dx.isObj = false) (n : Nat) (o : okE T n dx = true) {C : Addr} (E : EqCls X.K C f) {l d : Addr} (hl : s.heap.get? l = some (PySem.W.instObj C d)) (J : ∃ od, PySem.W.InstAt s.heap l (PySem.W.instObj C d) C od) :
    ∃ Ty : String, s.TypeIs u Ty ∧ Ty ∈ (["NoneType", "bool", "int", "str", "list", "tuple"] : List String) ∧ wpAny (model X.prog X.w) A (tryCompare u (cmpInfo (cop neg)).2.1 (.ref l)) (fun r z => r = none ∧ z = s) X.xe s := by
  obtain ⟨od, J⟩ := J
  have fl : fltD dx = true → ∃ Ty : String, s.TypeIs u Ty ∧ Ty ∈ (["NoneType", "bool", "int", "str", "list", "tuple"] : List String) ∧ wpAny (model X.prog X.w) A (tryCompare u (cmpInfo (cop neg)).2.1 (.ref l)) (fun r z => r = none ∧ z = s) X.xe s := fun hf => flat_dec neg rx ru hf hl
  cases rx with
  | tup hp r =>
    cases ru
    obtain ⟨its, r, e, _⟩ := I.tuple (SqT.of hp)
    obtain ⟨o, ho, hc, n, hd⟩ := id e
    exact ⟨"tuple", ⟨_, ho, hc⟩, by simp, tuple_dec neg I.kIn J (E.no _ (by simp)) ⟨_, ho, hc⟩⟩
  | lst hp r =>
    cases ru
    obtain ⟨its, r, e, _⟩ := I.list (SqL.of hp)
    obtain ⟨o, ho, hc, n, hd⟩ := id e.isList
    exact ⟨"list", ⟨_, ho, hc⟩, by simp, list_dec neg I.kIn J (E.no _ (by simp)) ⟨_, ho, hc⟩⟩
  | obj h' _ _ => cases h
  | dic _ _ _ =>
    match n, o with
    | 0, o => simp [okE] at o
    | 1, o => simp [okE] at o
    | 2, o => simp [okE] at o
    | n + 3, o => simp [okE] at o
  | _ => exact fl rfl
/-- everything but instances -/
theorem rc_plain {n : Nat} (neg : Bool) (hE : ∀ m, m < n → EqN X cA T m) (sb : L2.Sub X (n + 1) A) (I : Inv X pins σ H s) (ru : RelV x u) (rv : RelV y v) (rx : Rep cA H x dx) (ry : Rep cA H y dy) (o : okE T n dx = true) (o' : okE T n dy = true) (h : dx.isObj = false) (h' : dy.isObj = false) :
    wpAny (model X.prog X.w) A (richCompare (cop neg) u v) (fun r s' => r = .bool (deq dx dy != neg) ∧ LoopI X pins σ H s') X.xe s := by
  have here : ∀ {c : Bool}, deq dx dy = c → RcA neg A s u v c → wpAny (model X.prog X.w) A (richCompare (cop neg) u v) (fun r s' => r = .bool (deq dx dy != neg) ∧ LoopI X pins σ H s') X.xe s := fun {c} e q => by
    rw [e]
    exact q X.prog X.w X.xe _ ⟨rfl, H, I, Ext.rfl'⟩
  have hu := sb.room.units0
  by_cases fx : fltD dx = true
  · by_cases fy : fltD dy = true
    · exact here rfl (rc_flat neg rx ry ru rv fx fy)
    · cases ry with
      | tup hy r =>
        cases rv
        obtain ⟨its, r, e, _⟩ := I.tuple (SqT.of hy)
        refine here ?_ (rc_flat_tuple neg rx ru fx e hu).1
        cases dx <;> first | (simp [fltD] at fx; done) | simp [deq]
      | lst hy r =>
        cases rv
        obtain ⟨its, r, e, _⟩ := I.list (SqL.of hy)
        refine here ?_ (rc_flat_list neg rx ru fx e.isList hu).1
        cases dx <;> first | (simp [fltD] at fx; done) | simp [deq]
      | obj _ _ _ => cases h'
      | dic _ _ _ =>
        match n, o' with
        | 0, o => simp [okE] at o
        | 1, o => simp [okE] at o
        | 2, o => simp [okE] at o
        | n + 3, o => simp [okE] at o
      | _ => exact absurd rfl fy
  · have seq2 : ∀ {c : Bool}, fltD dy = true → True := fun _ => trivial
    cases rx with
    | tup hx r =>
      cases ru
      obtain ⟨its, rr, e, _⟩ := I.tuple (SqT.of hx)
      by_cases fy : fltD dy = true
      · refine here ?_ (rc_flat_tuple neg ry rv fy e hu).2
        cases dy <;> first | (simp [fltD] at fy; done) | simp [deq]
      · cases ry with
        | tup hy r' =>
          cases rv
          match n, o, o' with
          | n + 1, o, o' =>
            simp only [okE] at o o'
            simp only [deq]
            cases neg with
            | false => exact rc_tup_eq (hE n (by omega)) sb I hx hy r r' o o'
            | true => exact rc_tup_ne (hE n (by omega)) sb I hx hy r r' o o'
        | lst hy r' =>
          cases rv
          obtain ⟨its2, rr2, e2, _⟩ := I.list (SqL.of hy)
          refine here (c := false) (by simp [deq]) ?_
          cases neg with
          | false => exact .eq (RcAt.tuple_list e e2.isList hu)
          | true => exact .ne (RcNeAt.tuple_list e e2.isList hu)
        | obj _ _ _ => cases h'
        | dic _ _ _ =>
          match n, o' with
          | 0, o => simp [okE] at o
          | 1, o => simp [okE] at o
          | 2, o => simp [okE] at o
          | n + 3, o => simp [okE] at o
        | _ => exact absurd rfl fy
    | lst hx r =>
      cases ru
      obtain ⟨its, rr, e, _⟩ := I.list (SqL.of hx)
      by_cases fy : fltD dy = true
      · refine here ?_ (rc_flat_list neg ry rv fy e.isList hu).2
        cases dy <;> first | (simp [fltD] at fy; done) | simp [deq]
      · cases ry with
        | lst hy r' =>
          cases rv
          match n, o, o' with
          | n + 1, o, o' =>
            simp only [okE] at o o'
            simp only [deq]
            cases neg with
            | false => exact rc_lst_eq (hE n (by omega)) sb I hx hy r r' o o'
            | true => exact rc_lst_ne (hE n (by omega)) sb I hx hy r r' o o'
        | tup hy r' =>
          cases rv
          obtain ⟨its2, rr2, e2, _⟩ := I.tuple (SqT.of hy)
          refine here (c := false) (by simp [deq]) ?_
          cases neg with
          | false => exact .eq (RcAt.list_tuple e.isList e2 hu)
          | true => exact .ne (RcNeAt.list_tuple e.isList e2 hu)
        | obj _ _ _ => cases h'
        | dic _ _ _ =>
          match n, o' with
          | 0, o => simp [okE] at o
          | 1, o => simp [okE] at o
          | 2, o => simp [okE] at o
          | n + 3, o => simp [okE] at o
        | _ => exact absurd rfl fy
    | obj _ _ _ => cases h
    | dic _ _ _ =>
      match n, o with
      | 0, o => simp [okE] at o
      | 1, o => simp [okE] at o
      | 2, o => simp [okE] at o
      | n + 3, o => simp [okE] at o
    | _ => exact absurd rfl fx
theorem rcN {n : Nat} (E : EqT X.K cA T f) (hE : ∀ m, m < n → EqN X cA T m) (hF : ∀ m, m + 3 ≤ n → EqF X cA T f fd ps (m + 3)) (hb : Binds X.K fd ps []) (neg : Bool) : RcN X cA T n neg := by
  intro A pins s σ H x y u v dx dy sb I ru rv rx ry o o'
  by_cases h : dx.isObj = true
  · match dx, h, rx, o with
    | .obj c fs ds, h, rx, o =>
      have o0 := o
      match n, o, o', hF, sb with
      | m + 3, o, o', hF, sb =>
        have ht0 : T c = some fs := by simp only [okE, Bool.and_eq_true, beq_iff_eq] at o; exact o.1.1
        have Fm := hF m (by omega)
        by_cases h' : dy.isObj = true
        · match dy, h', ry, o' with
          | .obj c' fs' ds', h', ry, o' =>
            have ht1 : T c' = some fs' := by simp only [okE, Bool.and_eq_true, beq_iff_eq] at o'; exact o'.1.1
            have ry' := ry
            generalize hd : D.obj c' fs' ds' = dd at ry'
            cases ry' with
            | @obj p dx c' fs' xs ds' hp l r =>
              cases hd
              cases rv
              obtain ⟨mA, O, _⟩ := ins_get I.hok hp
              obtain ⟨od, J, _⟩ := O.look
              exact rc_ins_left E Fm hb sb I ru (y := .ref p) rfl rx ry o o' J.type (E.nf _ _ _ _ ht0 ht1)
            | _ => cases hd
        · obtain ⟨Ty, hT, hm⟩ := type_of I rv ry (by simpa using h') _ o'
          exact rc_ins_left E Fm hb sb I ru rv rx ry o o' (typeOf_looks hT) (notFirst_ty hm)
  · by_cases h' : dy.isObj = true
    · match dy, h', ry, o' with
      | .obj c fs ds, h', ry, o' =>
        match n, o, o', hF, sb with
        | m + 3, o, o', hF, sb =>
          have ht1 : T c = some fs := by simp only [okE, Bool.and_eq_true, beq_iff_eq] at o'; exact o'.1.1
          have hx : dx.isObj = false := by simpa using h
          obtain ⟨Ty, hT, hm⟩ := type_of I ru rx hx _ o
          obtain ⟨q1, q2⟩ := deq_noobj (d := .obj c fs ds) (e := dx) rfl hx
          have key := rc_ins_right (neg := neg) E (hF m (by omega)) hb sb I rv ru ry rx o' o hT hm fun l d e hl _ J hno => by
            obtain ⟨T2, _, _, hh⟩ := dec_of (A := A) (neg := neg) I ru rx hx _ o (E.cl c fs ht1) hl J
            exact hh
          rw [q1] at key
          rw [q2]
          exact key
    · exact rc_plain neg hE sb I ru rv rx ry o o' (by simpa using h) (by simpa using h')
theorem eqN_of {n : Nat} (E : EqT X.K cA T f) (rc : RcN X cA T n false) : EqN X cA T n := by
  intro A pins s σ H x y u v dx dy sb I ru rv rx ry o o'
  have q := rc A pins s σ H x y u v dx dy sb I ru rv rx ry o o'
  unfold eqBool
  refine wpAny_holding ?_
  refine wpAny_ite_split (fun hab => ?_) (fun hab => ?_)
  · have e := eq_of_beq hab
    subst e
    by_cases hr : ∃ p, x = .ref p
    · obtain ⟨p, rfl⟩ := hr
      cases ru
      have hy : y = .ref p := by
        cases y with
        | ref q => cases rv; rfl
        | _ => first | (obtain ⟨t, e⟩ := rv; cases e; done) | (cases rv; done)
      subst hy
      exact wpAny_bind (wpAny_rule (wpAny_pure ⟨(rep_same E n rx ry o o').symm, H, I, Ext.rfl'⟩))
    · have : deq dx dy = true := by
        cases rx with
        | non => cases ru; cases ry with
          | non => simp [deq]
          | int i => obtain ⟨t, e⟩ := rv; cases e
          | str i => obtain ⟨t, e⟩ := rv; cases e
          | _ => cases rv
        | bl b => cases ru; cases ry with
          | bl b => cases rv; simp [deq]
          | int i => obtain ⟨t, e⟩ := rv; cases e
          | str i => obtain ⟨t, e⟩ := rv; cases e
          | _ => cases rv
        | int i => obtain ⟨t, rfl⟩ := ru; cases ry with
          | int i => obtain ⟨t, e⟩ := rv; cases e; simp [deq]
          | str i => obtain ⟨t, e⟩ := rv; cases e
          | _ => cases rv
        | str i => obtain ⟨t, rfl⟩ := ru; cases ry with
          | str i => obtain ⟨t, e⟩ := rv; cases e; simp [deq]
          | int i => obtain ⟨t, e⟩ := rv; cases e
          | _ => cases rv
        | _ => exact absurd ⟨_, rfl⟩ hr
      exact wpAny_bind (wpAny_rule (wpAny_pure ⟨this.symm, H, I, Ext.rfl'⟩))
  · have q' : wpAny (model X.prog X.w) A (richCompare .Eq u v) (fun r s' => r = .bool (deq dx dy) ∧ LoopI X pins σ H s') X.xe s := by simpa [cop] using q
    have fin : wpAny (model X.prog X.w) A (do truthOfDropped (← richCompare .Eq u v)) (fun r s' => r = deq dx dy ∧ LoopI X pins σ H s') X.xe s := by
      refine wpAny_bind (wpAny_mono q' (fun r z hz => ?_) fun _ _ z => z)
      obtain ⟨rfl, L⟩ := hz
      exact wpAny_truthy_bool ⟨rfl, L⟩
    cases rx with
    | non => cases ru; exact fin
    | bl b => cases ru; exact fin
    | int i => obtain ⟨t, rfl⟩ := ru; exact fin
    | str i => obtain ⟨t, rfl⟩ := ru; exact fin
    | _ => cases ru; exact fin
theorem eqN {n : Nat} (E : EqT X.K cA T f) (hb : Binds X.K fd ps []) (hF : ∀ m, m + 3 ≤ n → EqF X cA T f fd ps (m + 3)) : EqN X cA T n := by
  induction n using Nat.strongRecOn with
  | ind n ih => exact eqN_of E (rcN E (fun m hm => ih m hm fun j hj => hF j (by omega)) hF hb false)
theorem rcN' {n : Nat} (E : EqT X.K cA T f) (hb : Binds X.K fd ps []) (hF : ∀ m, m + 3 ≤ n → EqF X cA T f fd ps (m + 3)) (neg : Bool) : RcN X cA T n neg :=
  rcN E (fun m hm => eqN E hb fun j hj => hF j (by omega)) hF hb neg
end
end DD
namespace DD
open PySem PySem.Spec PyProof.Rows PySem.SeqAt L2
open AutoSeq1 (wpAny_loadPart')
open MeetsSeq MeetsSeq2 MeetsSeq3 SeqRoads2
section
variable {prog : Program} {w : World} {A : Around} {R : Result → Shared → Prop}
/-- the list at each turn; what == tells of the i-th item -/
def Seq1 (prog : Program) (w : World) (A : Around) (R : Result → Shared → Prop) (l : Addr) (u : Value) (N : Nat) (cs : Nat → Bool) (J : Shared → Prop) : Prop :=
  ∀ s, J s → ∃ (zs : Array Value) (n : Nat), s.heap.get? l = some { cls := .type "list", data := .seq zs n } ∧ zs.size = N ∧ ∀ i (h1 : i < zs.size), wpAny (model prog w) A.in1 (eqBool zs[i] u) (fun c z => c = cs i ∧ J z) (fun e z => R (.error e) z) s
theorem lpIn (l : Addr) (u : Value) (N : Nat) (cs : Nat → Bool) (J : Shared → Prop) (hl : Seq1 prog w A R l u N cs J) (fin : ∀ s (z : Bool), J s → z = (List.range N).any cs → R (.ok (.ret (.bool z))) s) (k : Nat) :
    ∀ i : Nat, N - i = k → i ≤ N → ((List.range i).any cs = false) → ∀ s, J s → wpAny (model prog w) A.in1 (Builtin.«list.__contains__.loop» ⟨[.ref l, u, rawInt i], []⟩) (GQ.FinOf prog w A R) (fun e z => R (.error e) z) s := by
  induction k with
  | zero =>
    intro i hk hi ha s h
    obtain ⟨zs, n, q1, q3, _⟩ := hl _ h
    have hi' : i = N := by omega
    subst hi'
    have hR : R (.ok (.ret (.bool false))) s := fin s _ h ha.symm
    obtain ⟨hp, g, d, tk, os⟩ := s
    wp_walk using wpAny_loadPart' q1
    have j1 : zs[((i : Nat) : Int).toNat]? = none := by simp [q3]
    rw [j1]
    wp_walk
    exact hR
  | succ k ih =>
    intro i hk hi ha s h
    obtain ⟨zs, n, q1, q3, turn⟩ := hl _ h
    have g1 : i < zs.size := by omega
    have ht := turn i g1
    obtain ⟨hp, g, d, tk, os⟩ := s
    wp_walk using wpAny_loadPart' q1
    have j1 : zs[((i : Nat) : Int).toNat]? = some zs[i] := by simp [g1]
    have hc : ((i : Int) + 1) = ((i + 1 : Nat) : Int) := by omega
    rw [j1]
    refine wpAny_bind (wpAny_mono ht (fun c s2 h2 => ?_) fun _ _ x => x)
    obtain ⟨hr, h2⟩ := h2
    subst hr
    cases hz : cs i with
    | false =>
      have hrec := ih (i + 1) (by omega) (by omega) (by rw [List.range_succ, List.any_append, ha]; simp [hz]) s2 h2
      obtain ⟨hp2, g2, d2, tk2, os2⟩ := s2
      wp_walk
      rw [hc]
      exact ⟨plainId_quiet plain_contains_loop _, codeAny_builtin entry_contains_loop (by rw [Around.under_plainId plain_contains_loop _]; exact hrec)⟩
    | true =>
      have hR : R (.ok (.ret (.bool true))) s2 := fin s2 _ h2 (by
        have : (List.range N).any cs = true := List.any_eq_true.mpr ⟨i, List.mem_range.mpr (by omega), hz⟩
        rw [this])
      obtain ⟨hp2, g2, d2, tk2, os2⟩ := s2
      wp_walk
      exact hR
theorem liIn (l : Addr) (u : Value) (N : Nat) (cs : Nat → Bool) (J : Shared → Prop) (hl : Seq1 prog w A R l u N cs J) (fin : ∀ s (z : Bool), J s → z = (List.range N).any cs → R (.ok (.ret (.bool z))) s) {s : Shared} (h : J s) :
    wpAny (model prog w) A.in1 (Builtin.«list.__contains__» ⟨[.ref l, u], []⟩) (GQ.FinOf prog w A R) (fun e z => R (.error e) z) s := by
  obtain ⟨zs, n, q1, q3, _⟩ := hl _ h
  have hrec := lpIn (A := A) (R := R) l u N cs J hl fin _ 0 rfl (Nat.zero_le _) rfl s h
  obtain ⟨hp, g, d, tk, os⟩ := s
  wp_walk using wpAny_loadPart' q1
  exact ⟨plainId_quiet plain_contains_loop _, codeAny_builtin entry_contains_loop (by rw [Around.under_plainId plain_contains_loop _]; exact hrec)⟩
theorem tuIn (l : Addr) (u : Value) (zs : Array Value) (n : Nat) (dd : Option Addr) (sl : Array (Option Value)) (cs : Nat → Bool) (J : Shared → Prop)
    (turn : ∀ i (h1 : i < zs.size) s, J s → wpAny (model prog w) A.in1 (eqBool zs[i] u) (fun c z => c = cs i ∧ J z) (fun e z => R (.error e) z) s)
    (fin : ∀ s (z : Bool), J s → z = (List.range zs.size).any cs → R (.ok (.ret (.bool z))) s) {s : Shared} (q1 : s.heap.get? l = some { cls := .type "tuple", dict := dd, data := .seq zs n, slots := sl }) (h : J s) :
    wpAny (model prog w) A.in1 (Builtin.«tuple.__contains__» ⟨[.ref l, u], []⟩) (GQ.FinOf prog w A R) (fun e z => R (.error e) z) s := by
  have h0 := h
  obtain ⟨hp, g, d, tk, os⟩ := s
  wp_walk using wpAny_loadPart' q1, wpAny_forIn_array _ (fun rest b s' => b.1 = none ∧ ∃ i, rest = zs.toList.drop i ∧ ((List.range i).any cs = false) ∧ i ≤ zs.size ∧ J s') _
  case turn =>
    rintro y rest b s' ⟨hb', i, hz, ha, hi, hI⟩
    have hm : i < zs.size := by
      rcases Nat.lt_or_ge i zs.size with h' | h'
      · exact h'
      · rw [List.drop_of_length_le (by simpa using h')] at hz; cases hz
    rw [List.drop_eq_getElem_cons (by simpa using hm)] at hz
    injection hz with hyx hrest
    have hy : y = zs[i] := by simpa using hyx
    subst hy
    refine wpAny_bind (wpAny_mono (turn i hm s' hI) (fun c s2 q2 => ?_) fun _ _ x => x)
    obtain ⟨hr, q2⟩ := q2
    subst hr
    cases hz : cs i with
    | false =>
      wp_walk
      exact ⟨rfl, i + 1, hrest, by rw [List.range_succ, List.any_append, ha]; simp [hz], hm, q2⟩
    | true =>
      have hR : R (.ok (.ret (.bool true))) s2 := fin s2 _ q2 (by
        have : (List.range zs.size).any cs = true := List.any_eq_true.mpr ⟨i, List.mem_range.mpr hm, hz⟩
        rw [this])
      wp_walk
      exact hR
  case fin =>
    rintro ⟨b1, b2⟩ s' ⟨hb', i, hz, ha, hi, hI⟩
    simp only at hb'
    subst hb'
    have hge : zs.size ≤ i := by
      rcases Nat.lt_or_ge i zs.size with h' | h'
      · rw [List.drop_eq_getElem_cons (by simpa using h')] at hz; cases hz
      · exact h'
    have e : i = zs.size := by omega
    have hR : R (.ok (.ret (.bool false))) s' := fin s' _ hI (by rw [← e]; exact ha.symm)
    wp_walk
    exact hR
  case h => exact ⟨rfl, 0, rfl, rfl, Nat.zero_le _, h0⟩
end
def inAt (ds : List D) (e : D) (i : Nat) : Bool := match ds[i]? with
  | some a => deq a e
  | none => false
theorem any_at (e : D) : ∀ ds : List D, (ds.any fun d => deq d e) = (List.range ds.length).any (inAt ds e)
  | [] => rfl
  | d :: ds => by
    rw [List.any_cons, any_at e ds, List.length_cons, List.range_succ_eq_map, List.any_cons, List.any_map]
    rfl
section
variable {X : Cx} {b : Bs} {cA : Nat → Addr} {T : Nat → Option (List Str)} {n : Nat}
theorem turn_in {A : Around} {pins : List (Addr × Obj)} {σ : L2.St} {H : Hp} {xs : List V} {ds : List D} {y : V} {v : Value} {e : D} (hE : EqN X cA T n) (sb : L2.Sub X (n + 2) A) (rx : Reps cA H xs ds) (ry : Rep cA H y e) (rv : RelV y v) (o : okEs T n ds = true) (o' : okE T n e = true) {its : List Value} (r : Vals xs its) (i : Nat) (h1 : i < its.toArray.size) (z : Shared) (L : LoopI X pins σ H z) :
    wpAny (model X.prog X.w) A.in1 (eqBool its.toArray[i] v) (fun c z => c = inAt ds e i ∧ LoopI X pins σ H z) X.xe z := by
  obtain ⟨H1, I1, e1⟩ := L
  have h1' : i < its.length := by simpa using h1
  have g1 : its[i]? = some its.toArray[i] := by rw [List.getElem?_eq_getElem h1'] <;> simp
  have k1 : xs[i]? = some (xs[i]'(by rw [r.length]; exact h1')) := List.getElem?_eq_getElem _
  obtain ⟨u, hu, ru⟩ := r.get k1
  rw [g1] at hu
  rw [Option.some.inj hu]
  obtain ⟨d, e2, q1⟩ := rx.get k1
  rw [okEs_all] at o
  have od := List.all_eq_true.mp o d (List.mem_of_getElem? e2)
  refine wpAny_mono (hE A.in1 pins z σ H1 _ _ u v d e sb.in1 I1 ru rv (q1.mono e1) (ry.mono e1) od o') (fun c z q => ?_) fun _ _ q => q
  obtain ⟨hr, H2, I2, e4⟩ := q
  refine ⟨?_, H2, I2, e1.trans e4⟩
  rw [hr]
  unfold inAt
  rw [e2]
/-- x in a list or a tuple -/
def rInE (cA : Nat → Addr) (T : Nat → Option (List Str)) (n : Nat) (neg : Bool) : R2 := fun x y H Q => ∃ (p : Addr) (xs : List V) (ds : List D) (e : D), y = .ref p ∧ (H p = some (.lst xs) ∨ H p = some (.tup xs)) ∧ Reps cA H xs ds ∧ Rep cA H x e ∧ okEs T n ds = true ∧ okE T n e = true ∧ ∀ H', Ext H H' → Q (.bl ((ds.any fun d => deq d e) != neg)) H'
def iop (neg : Bool) : CmpOp := if neg then .NotIn else .In
theorem in_of {c u : Value} {s : Shared} {A : Around} {Ty id : String} {B : Builtin} {neg : Bool} {Q : Value → Shared → Prop} {prog : Program} {w : World} {E : Value → Shared → Prop} (hT : s.TypeIs c Ty) (slot : Slot Ty "__contains__" id) (entry : entryFor table id = some B) (args : argsOk id ⟨[c, u], []⟩)
    (h : wpAny (model prog w) A.in1 (B ⟨[c, u], []⟩) (GQ.FinOf prog w A (wants (fun v z => ∃ q, v = .bool q ∧ Q (.bool (q != neg)) z) E)) (fun e z => wants (fun v z => ∃ q, v = .bool q ∧ Q (.bool (q != neg)) z) E (.error e) z) s) : wpAny (model prog w) A (compareOp (iop neg) u c) Q E s := by
  cases neg with
  | false =>
    show wpAny _ A (do return .bool (← contains c u)) Q E s
    refine wpAny_bind (wpAny_contains_slot hT slot (wpAny_mono (GQ.call_here slot hT entry args h) (fun v s' hv => ?_) fun _ _ e => e))
    obtain ⟨q, rfl, hq⟩ := hv
    exact wpAny_truthy_bool (wpAny_pure (by simpa using hq))
  | true =>
    show wpAny _ A (do return .bool (!(← contains c u))) Q E s
    refine wpAny_bind (wpAny_contains_slot hT slot (wpAny_mono (GQ.call_here slot hT entry args h) (fun v s' hv => ?_) fun _ _ e => e))
    obtain ⟨q, rfl, hq⟩ := hv
    exact wpAny_truthy_bool (wpAny_pure (by simpa using hq))
theorem op_inE (hE : EqN X cA T n) (hr : Room (n + 2) X.A) (neg : Bool) : OpR X (compareOp (iop neg)) (rInE cA T n neg) := by
  intro pins s σ H x y v u Q I rx ry h
  obtain ⟨p, xs, ds, e, rfl, hp, rs, re, o, o', q⟩ := h
  cases ry
  have sb : L2.Sub X (n + 2) X.A := ⟨hr, rfl⟩
  have fin : ∀ (z : Shared), LoopI X pins σ H z → EP X pins σ Q (.bool ((ds.any fun d => deq d e) != neg)) z := fun z ⟨H1, I1, e1⟩ => ⟨.bl _, H1, I1, rfl, q H1 e1⟩
  rcases hp with hp | hp
  · have one : Seq1 X.prog X.w X.A (wants (fun v z => ∃ q, v = .bool q ∧ EP X pins σ Q (.bool (q != neg)) z) X.xe) p v ds.length (inAt ds e) (LoopI X pins σ H) := fun z L => by
      obtain ⟨H1, I1, e1⟩ := id L
      obtain ⟨_, its, k, r, e2⟩ := I1.hok p _ (e1 _ _ hp)
      exact ⟨its.toArray, k, e2, by rw [List.size_toArray, ← r.length, rs.len], fun i h1 => turn_in hE sb rs re rx o o' r i h1 z L⟩
    obtain ⟨zs, k1, h1, _⟩ := one s ⟨H, I, Ext.rfl'⟩
    refine in_of (neg := neg) ⟨_, h1, rfl⟩ F.slot_list_contains F.entry_list_contains (F.args_list_contains_2 _ _) (liIn p v ds.length (inAt ds e) (LoopI X pins σ H) one (fun z c L hc => ?_) ⟨H, I, Ext.rfl'⟩)
    subst hc
    refine ⟨_, rfl, ?_⟩
    rw [← any_at]
    exact fin z L
  · obtain ⟨its, r, e2, _⟩ := I.tuple (SqT.of hp)
    obtain ⟨⟨c1, d1, t1, l1⟩, ho, hc, n1, hd⟩ := id e2
    simp only at hc hd
    subst hc hd
    have z1 : its.toArray.size = ds.length := by rw [List.size_toArray, ← r.length, rs.len]
    refine in_of (neg := neg) ⟨_, ho, rfl⟩ F.slot_tuple_contains F.entry_tuple_contains (F.args_tuple_contains_2 _ _) (tuIn p v its.toArray n1 d1 l1 (inAt ds e) (LoopI X pins σ H) (fun i h1 z L => turn_in hE sb rs re rx o o' r i h1 z L) (fun z c L hc => ?_) ho ⟨H, I, Ext.rfl'⟩)
    subst hc
    refine ⟨_, rfl, ?_⟩
    rw [z1, ← any_at]
    exact fin z L
def rEqE (cA : Nat → Addr) (T : Nat → Option (List Str)) (n : Nat) (neg : Bool) : R2 := fun x y H Q => ∃ dx dy : D, Rep cA H x dx ∧ Rep cA H y dy ∧ okE T n dx = true ∧ okE T n dy = true ∧ ∀ H', Ext H H' → Q (.bl (deq dx dy != neg)) H'
theorem op_eqE (neg : Bool) (hE : RcN X cA T n neg) (hr : Room (n + 1) X.A) : OpR X (compareOp (cop neg)) (rEqE cA T n neg) := by
  intro pins s σ H x y v u Q I rx ry hq
  obtain ⟨dx, dy, r1, r2, o, o', q⟩ := hq
  have here : wpAny (model X.prog X.w) X.A (richCompare (cop neg) v u) (EP X pins σ Q) X.xe s := by
    refine wpAny_mono (hE X.A pins s σ H x y v u dx dy ⟨hr, rfl⟩ I rx ry r1 r2 o o') (fun r z h => ?_) fun _ _ q => q
    obtain ⟨rfl, H', I', e⟩ := h
    exact ⟨.bl _, H', I', rfl, q H' e⟩
  cases neg with
  | false => exact here
  | true => exact here
theorem Now.rep {G H : Hp} {v : V} {d : D} (g : Sub G H) (h : Now cA G H v d) : Rep cA H v d := by
  cases d with
  | non => cases h; exact .non
  | bl b => cases h; exact .bl b
  | int i => cases h; exact .int i
  | str s => cases h; exact .str s
  | tup ds => obtain ⟨p, xs, rfl, e, r⟩ := h; exact .tup e (r.mono g)
  | lst ds => obtain ⟨p, xs, rfl, e, r⟩ := h; exact .lst e (r.mono g)
  | obj c fs ds => obtain ⟨p, dx, xs, rfl, e, l, r⟩ := h; exact .obj e l (r.mono g)
  | dic ks ds => obtain ⟨p, xs, rfl, e, l, r⟩ := h; exact .dic e l (r.mono g)
@[simp] def fEqE (T : Nat → Option (List Str)) (n : Nat) (neg : Bool) (x y : D) (q : D → Prop) : Prop := okE T n x = true ∧ okE T n y = true ∧ q (.bl (deq x y != neg))
theorem o2_eqE (neg : Bool) : Op2 b (rEqE b.cA T n neg) (fEqE T n neg) := by
  intro G m μ H v u x y q Kq w nx ny f k
  obtain ⟨o1, o2, f⟩ := f
  refine ⟨x, y, nx.rep w.rel.gh, ny.rep w.rel.gh, o1, o2, fun H' e => ?_⟩
  exact k _ H' G _ (Le.refl G m) (w.mono (Le.refl G m) (w.rel.grow e)) (.bl _) f
@[simp] def fInE (T : Nat → Option (List Str)) (n : Nat) (neg : Bool) : D → D → (D → Prop) → Prop
  | x, .lst ds, q => okE T n x = true ∧ okEs T n ds = true ∧ q (.bl ((ds.any fun d => deq d x) != neg))
  | x, .tup ds, q => okE T n x = true ∧ okEs T n ds = true ∧ q (.bl ((ds.any fun d => deq d x) != neg))
  | _, _, _ => False
theorem o2_inE (neg : Bool) : Op2 b (rInE b.cA T n neg) (fInE T n neg) := by
  intro G m μ H v u x y q Kq w nx ny f k
  cases y with
  | lst ds =>
    obtain ⟨o1, o2, f⟩ : okE T n x = true ∧ okEs T n ds = true ∧ q (.bl ((ds.any fun d => deq d x) != neg)) := by cases x <;> exact f
    obtain ⟨p, xs, rfl, h, r⟩ := ny
    exact ⟨p, xs, ds, x, rfl, .inl h, r.mono w.rel.gh, nx.rep w.rel.gh, o2, o1, fun H' e => k _ H' G _ (Le.refl G m) (w.mono (Le.refl G m) (w.rel.grow e)) (.bl _) f⟩
  | tup ds =>
    obtain ⟨o1, o2, f⟩ : okE T n x = true ∧ okEs T n ds = true ∧ q (.bl ((ds.any fun d => deq d x) != neg)) := by cases x <;> exact f
    obtain ⟨p, xs, rfl, h, r⟩ := ny
    exact ⟨p, xs, ds, x, rfl, .inr h, r.mono w.rel.gh, nx.rep w.rel.gh, o2, o1, fun H' e => k _ H' G _ (Le.refl G m) (w.mono (Le.refl G m) (w.rel.grow e)) (.bl _) f⟩
  | _ => cases x <;> exact f.elim
variable {pos : Pos} {e1 e2 : Expr} {ta tb : DTE}
theorem de_eqE (hE : RcN X b.cA T n false) (hr : Room (n + 1) X.A) (ha : DE X b e1 ta) (hb : DE X b e2 tb) : DE X b (.Compare e1 [.Eq] [e2] pos) (dOp (fEqE T n false) ta tb) := de_cmp (op_eqE false hE hr) (o2_eqE false) ha hb (nomark _)
theorem de_neE (hE : RcN X b.cA T n true) (hr : Room (n + 1) X.A) (ha : DE X b e1 ta) (hb : DE X b e2 tb) : DE X b (.Compare e1 [.NotEq] [e2] pos) (dOp (fEqE T n true) ta tb) := de_cmp (op_eqE true hE hr) (o2_eqE true) ha hb (nomark _)
theorem dt_eqE (hE : RcN X b.cA T n false) (hr : Room (n + 1) X.A) (ha : DE X b e1 ta) (hb : DE X b e2 tb) : DT X b (.Compare e1 [.Eq] [e2] pos) (dB (dOp (fEqE T n false) ta tb)) := dt_cmp (op_eqE false hE hr) (o2_eqE false) ha hb (nomark _)
theorem dt_neE (hE : RcN X b.cA T n true) (hr : Room (n + 1) X.A) (ha : DE X b e1 ta) (hb : DE X b e2 tb) : DT X b (.Compare e1 [.NotEq] [e2] pos) (dB (dOp (fEqE T n true) ta tb)) := dt_cmp (op_eqE true hE hr) (o2_eqE true) ha hb (nomark _)
end
end DD
namespace DD
open PySem L2
section
variable {X : Cx} {b : Bs} {pos p p2 : Pos} {T : Nat → Option (List Str)} {n : Nat} {e e1 e2 : Expr} {ta tb te : DTE}
theorem de_inE (hE : EqN X b.cA T n) (hr : Room (n + 2) X.A) (ha : DE X b e1 ta) (hb : DE X b e2 tb) (hm : behindInMarks .In e2 = false) : DE X b (.Compare e1 [.In] [e2] pos) (dOp (fInE T n false) ta tb) := de_cmp (op_inE hE hr false) (o2_inE false) ha hb hm
theorem de_notInE (hE : EqN X b.cA T n) (hr : Room (n + 2) X.A) (ha : DE X b e1 ta) (hb : DE X b e2 tb) (hm : behindInMarks .NotIn e2 = false) : DE X b (.Compare e1 [.NotIn] [e2] pos) (dOp (fInE T n true) ta tb) := de_cmp (op_inE hE hr true) (o2_inE true) ha hb hm
theorem dt_inE (hE : EqN X b.cA T n) (hr : Room (n + 2) X.A) (ha : DE X b e1 ta) (hb : DE X b e2 tb) (hm : behindInMarks .In e2 = false) : DT X b (.Compare e1 [.In] [e2] pos) (dB (dOp (fInE T n false) ta tb)) := dt_cmp (op_inE hE hr false) (o2_inE false) ha hb hm
theorem dt_notInE (hE : EqN X b.cA T n) (hr : Room (n + 2) X.A) (ha : DE X b e1 ta) (hb : DE X b e2 tb) (hm : behindInMarks .NotIn e2 = false) : DT X b (.Compare e1 [.NotIn] [e2] pos) (dB (dOp (fInE T n true) ta tb)) := dt_cmp (op_inE hE hr true) (o2_inE true) ha hb hm
end
/-! ### isinstance -/
structure KC (K : PySem.W.Frag) (C : Addr) : Prop where
  cl : Cls K C
  ha : PySem.W.findIn K (.ref C) "__class__" = some (some (.builtin "object.__class__"))
  hn : PySem.W.specialIn K (.builtin "object.__class__") "__get__" = some (some (.builtin "getset_descriptor.__get__"))
  tk : PySem.W.takesIn K (.builtin "object.__class__") = some true
  ob : PySem.W.mroIn K C (.type "object") = some true
inductive Ki where
  | bt (s : String) | own (c : Nat)
@[simp] def kiD : D → Ki
  | .non => .bt "NoneType"
  | .bl _ => .bt "bool"
  | .int _ => .bt "int"
  | .str _ => .bt "str"
  | .lst _ => .bt "list"
  | .tup _ => .bt "tuple"
  | .dic _ _ => .bt "dict"
  | .obj c _ _ => .own c
@[simp] def kiW (μ : M) : W → Option Ki
  | .d d => some (kiD d)
  | .r n => match μ[n]? with
    | some (.lst _) => some (.bt "list")
    | some (.lstW _) => some (.bt "list")
    | some (.ins c _ _) => some (.own c)
    | some (.dic _ _) => some (.bt "dict")
    | some (.frz d) => some (kiD d)
    | some (.scr _ _) => none
    | none => none
structure IsOk (K : PySem.W.Frag) (cA : Nat → Addr) (u : Value) (isB : String → Option Bool) (isO : Nat → Option Bool) : Prop where
  bt : ∀ s ∈ (["NoneType", "bool", "int", "str", "list", "tuple", "dict"] : List String), ∀ c, isB s = some c → PySem.W.kitOne K (.type s) u = some c
  own : ∀ k c, isO k = some c → KC K (cA k) ∧ PySem.W.kitOne K (.ref (cA k)) u = some c
@[simp] def isKi (isB : String → Option Bool) (isO : Nat → Option Bool) : Ki → Option Bool
  | .bt s => isB s
  | .own c => isO c
section
variable {K : PySem.W.Frag} {cA : Nat → Addr} {G U H : Hp} {m : Wd} {μ : M} {v : V} {w : W} {d : D} {u : Value} {isB : String → Option Bool} {isO : Nat → Option Bool}
theorem isD (ok : IsOk K cA u isB isO) (g : Sub G H) (r : Rep cA G v d) {c : Bool} (h : isKi isB isO (kiD d) = some c) : ∃ t, TyX K H v t ∧ PySem.W.kitOne K t u = some c := by
  cases r with
  | non => exact ⟨_, .base .non, ok.bt _ (by simp) _ h⟩
  | bl x => exact ⟨_, .base (.bl x), ok.bt _ (by simp) _ h⟩
  | int x => exact ⟨_, .base (.int x), ok.bt _ (by simp) _ h⟩
  | str x => exact ⟨_, .base (.str x), ok.bt _ (by simp) _ h⟩
  | lst e r => exact ⟨_, .base (.lst (g _ _ e)), ok.bt _ (by simp) _ h⟩
  | tup e r => exact ⟨_, .base (.tup (g _ _ e)), ok.bt _ (by simp) _ h⟩
  | dic e l r => exact ⟨_, .base (.dK (g _ _ e)), ok.bt _ (by simp) _ h⟩
  | obj e l r =>
    obtain ⟨k, q⟩ := ok.own _ _ h
    exact ⟨_, .base (.ins (g _ _ e) k.cl k.ha k.hn k.tk k.ob), q⟩
theorem isW (ok : IsOk K cA u isB isO) (r : RelM cA U G m μ H) (q : WRel cA G m v w) {k : Ki} (hk : kiW μ w = some k) {c : Bool} (h : isKi isB isO k = some c) : ∃ t, TyX K H v t ∧ PySem.W.kitOne K t u = some c := by
  cases q with
  | d q => simp only [kiW, Option.some.injEq] at hk; subst hk; exact isD ok r.gh q h
  | @r n p as e =>
    obtain ⟨c0, hc⟩ := lt_of_rel r e
    have z := r.cell n c0 _ hc e
    simp only [kiW, hc] at hk
    cases c0 with
    | lst ds => obtain ⟨p', xs, e1, e2, e3⟩ := z; cases e1; cases hk; exact ⟨_, .base (.lst e2), ok.bt _ (by simp) _ h⟩
    | lstW ds => obtain ⟨p', ps, e1, e2, _⟩ := z; cases e1; cases hk; exact ⟨_, .base (.lst e2), ok.bt _ (by simp) _ h⟩
    | dic ks ds => obtain ⟨p', xs, e1, e2, _⟩ := z; cases e1; cases hk; exact ⟨_, .base (.dK e2), ok.bt _ (by simp) _ h⟩
    | frz d => obtain ⟨p', e1, e2⟩ := z; cases e1; cases hk; exact isD ok r.gh e2 h
    | scr ns S => cases hk
    | ins c1 fs ws =>
      obtain ⟨p', dx, xs, e1, e2, _⟩ := z
      cases e1
      cases hk
      obtain ⟨k, q⟩ := ok.own _ _ h
      exact ⟨_, .base (.ins e2 k.cl k.ha k.hn k.tk k.ob), q⟩
end
@[simp] def dIsi (isB : String → Option Bool) (isO : Nat → Option Bool) (te : DTE) (ρ : R) (μ : M) (Q : W → M → Prop) : Prop := te ρ μ fun w μ1 => match kiW μ1 w with
  | some k => match isKi isB isO k with
    | some c => Q (.d (.bl c)) μ1
    | none => False
  | none => False
section
variable {X : Cx} {b : Bs} {pos p : Pos} {e c : Expr} {te : DTE} {isB : String → Option Bool} {isO : Nat → Option Bool} {cv : V} {u : Value}
theorem de_isi (ok : IsOk X.K b.cA u isB isO) (hc : PE X c (tC cv)) (hk : ClsV cv u) (hg : Gl X "isinstance") (hm : X.mg "isinstance" = none) (ha : DE X b e te)
    (h1 : starEach [e, c] X.env = (false, eval e X.env) :: starEach [c] X.env := by rfl) (h2 : starEach [c] X.env = (false, eval c X.env) :: starEach [] X.env := by rfl) (hpl : (backTo pos (starEach [c] X.env)).any (·.1) = false := by rfl) :
    DE X b (.Call (.Name "isinstance" p) [e, c] [] pos) (dIsi isB isO te) := by
  obtain ⟨te', pa, qa⟩ := ha.ex
  refine ⟨_, pe_callB call_isi hg hm rfl (pa_cons pa (pa_cons hc pa_nil h2) h1) (he := h1) (hpl := hpl), fun {G m ρ μ σ H Q K} o r t k => ?_⟩
  refine qa o r t fun v H1 G1 m1 w μ1 l1 o1 r1 t1 => ?_
  split at t1
  · rename_i ki hki
    split at t1
    · rename_i c0 hc0
      obtain ⟨t, ty, q⟩ := isW ok o1.rel r1 hki hc0
      exact ⟨v, cv, t, u, c0, rfl, hk, ty, q, k _ H1 G1 m1 _ μ1 l1 o1 (.d (.bl c0)) t1⟩
    · exact t1.elim
  · exact t1.elim
end
end DD
namespace DD
open PySem L2 RZ
/-- what is known to change no more -/
@[simp] def asD (μ : M) : W → Option D
  | .d d => some d
  | .r n => match μ[n]? with
    | some (.frz d) => some d
    | _ => none
theorem asD_ok {cA : Nat → Addr} {U G H : Hp} {m : Wd} {μ : M} {v : V} {w : W} {d : D} (r : RelM cA U G m μ H) (q : WRel cA G m v w) (h : asD μ w = some d) : Rep cA G v d := by
  cases q with
  | d q => simp [asD] at h; subst h; exact q
  | @r n p as e =>
    obtain ⟨c, hc⟩ := lt_of_rel r e
    have z := r.cell n c _ hc e
    simp only [asD, hc] at h
    cases c with
    | frz d' => cases h; obtain ⟨p', e1, e2⟩ := z; cases e1; exact e2
    | _ => cases h
def cutL {α : Type} (xs : List α) (lo hi : Option Int) : List α := (xs.drop (HT.sIx xs.length 0 lo)).take (HT.sIx xs.length xs.length hi - HT.sIx xs.length 0 lo)
theorem sIx_all {α : Type} {xs : List α} {lo hi : Option Int} (h : HT.sIx xs.length 0 lo = 0 ∧ HT.sIx xs.length xs.length hi = xs.length) : cutL xs lo hi = xs := by
  unfold cutL
  rw [h.1, h.2]
  simp
section
variable {X : Cx} {b : Bs} {pos p p2 tpos : Pos} {e e1 e2 : Expr} {te ta tb : DTE}
/-! ### slices -/
abbrev DTO := R → M → (Option Int → M → Prop) → Prop
structure DO (X : Cx) (b : Bs) (e : Option Expr) (t : DTO) : Prop where
  ex : ∃ te : TO, PO X e te ∧ ∀ {G : Hp} {m : Wd} {ρ : R} {μ : M} {σ : L2.St} {H : Hp} {Q : Option Int → M → Prop} {K : Option Int → Hp → Prop}, WOk b G m μ H → RelR b.cA G m σ ρ → t ρ μ Q →
    (∀ c H' G' m' μ', Le G m G' m' → WOk b G' m' μ' H' → Q c μ' → K c H') → te σ H K
@[simp] def dNoPart (_ρ : R) (μ : M) (Q : Option Int → M → Prop) : Prop := Q none μ
@[simp] def dPart (te : DTE) (ρ : R) (μ : M) (Q : Option Int → M → Prop) : Prop := te ρ μ fun w μ1 => match w with
  | .d (.int i) => Q (some i) μ1
  | _ => False
theorem do_none : DO X b none dNoPart := ⟨_, po_none, fun {G m ρ μ σ H Q K} o r t k => k none H G m μ (Le.refl G m) o t⟩
theorem do_some (h : DE X b e te) : DO X b (some e) (dPart te) := by
  obtain ⟨t', pa, qa⟩ := h.ex
  refine ⟨_, po_some pa, fun {G m ρ μ σ H Q K} o r t k => ?_⟩
  refine qa o r t fun v H1 G1 m1 w μ1 l1 o1 r1 t1 => ?_
  split at t1
  · rename_i i
    exact ⟨i, isInt r1, k _ H1 G1 m1 μ1 l1 o1 t1⟩
  · exact t1.elim
@[simp] def dSl (mu : Bool) (te : DTE) (tl th : DTO) (ρ : R) (μ : M) (Q : W → M → Prop) : Prop := te ρ μ fun w μ1 => tl ρ μ1 fun lo μ2 => th ρ μ2 fun hi μ3 => match asD μ3 w with
  | some (.tup ds) => Q (.d (.tup (cutL ds lo hi))) μ3
  | _ => match rs μ3 w with
    | some (.lst ds) => if mu then Q (.r μ3.length) (μ3 ++ [.lst (cutL ds lo hi)]) else Q (.d (.lst (cutL ds lo hi))) μ3
    | _ => False
theorem cut_reps {cA : Nat → Addr} {G : Hp} {xs : List V} {ds : List D} {lo hi : Option Int} (r : Reps cA G xs ds) : Reps cA G (cutV xs lo hi) (cutL ds lo hi) := by
  unfold cutV cutL
  rw [r.len]
  exact (r.drop _).take _
theorem de_sl (mu : Bool) {lo hi : Option Expr} {tl th : DTO} (ha : DE X b e te) (hl : DO X b lo tl) (hu : DO X b hi th) : DE X b (.Subscript e (.Slice lo hi none p2) pos) (dSl mu te tl th) := by
  obtain ⟨t', pa, qa⟩ := ha.ex
  obtain ⟨t1', p1, q1⟩ := hl.ex
  obtain ⟨t2', p2', q2⟩ := hu.ex
  refine ⟨_, pe_slice (sl_list.or sl_tupA) pa p1 p2', fun {G m ρ μ σ H Q K} o r t k => ?_⟩
  refine qa o r t fun v H1 G1 m1 w μ1 l1 o1 r1 t1 => ?_
  refine q1 o1 (r.mono l1) t1 fun lo H2 G2 m2 μ2 l2 o2 t2 => ?_
  refine q2 o2 ((r.mono l1).mono l2) t2 fun hi H3 G3 m3 μ3 l3 o3 t3 => ?_
  have lf := l1.trans (l2.trans l3)
  have rw3 := (r1.mono l2).mono l3
  split at t3
  · rename_i ds e
    have rp := asD_ok o3.rel rw3 e
    obtain ⟨a, xs, rfl, h1, h2⟩ := rp.now o3.rel.gh
    refine .inr ⟨a, xs, rfl, SqT.of h1, fun hw => ?_, fun hw q hq => ?_⟩
    · rw [h2.len] at hw
      rw [sIx_all hw] at t3
      exact k _ H3 G3 m3 _ μ3 lf o3 (.d rp) t3
    · have hg := (o3.rel.new hq).1
      have l4 : Le G3 m3 (upd G3 q (.tup (cutV xs lo hi))) m3 := Le.know hg
      exact k _ _ _ m3 _ μ3 (lf.trans l4) (o3.mono l4 (o3.rel.know hq)) (.d (.tup upd_same ((cut_reps h2).mono l4.g))) t3
  · split at t3
    · rename_i ds e
      obtain ⟨a, xs, rfl, h1, h2⟩ := rs_ok o3.rel rw3 e
      refine .inl ⟨a, xs, rfl, SqL.of h1, fun q hq => ?_⟩
      cases mu with
      | true => exact k _ _ _ _ _ _ (lf.trans Le.cellNew) (o3.mono Le.cellNew (o3.rel.cellNew (c := .lst (cutL ds lo hi)) hq ⟨q, _, rfl, upd_same, cut_reps h2⟩)) (.r (as := []) (by rw [← o3.rel.len]; simp)) t3
      | false =>
        have hg := (o3.rel.new hq).1
        have l4 : Le G3 m3 (upd G3 q (.lst (cutV xs lo hi))) m3 := Le.know hg
        exact k _ _ _ m3 _ μ3 (lf.trans l4) (o3.mono l4 (o3.rel.know hq)) (.d (.lst upd_same ((cut_reps h2).mono l4.g))) t3
    · exact t3.elim
/-! ### +, * with all -/
@[simp] def addA (μ : M) (x y : W) (Q : W → M → Prop) : Prop := match asD μ x, asD μ y with
  | some (.tup xs), some (.tup ys) => xs.length + ys.length ≤ sizeLine ∧ Q (.d (.tup (xs ++ ys))) μ
  | _, _ => match rs μ x, rs μ y with
    | some a, some c => fAdd a c fun z => Q (.d z) μ
    | _, _ => False
@[simp] def dAddA (ta tb : DTE) (ρ : R) (μ : M) (Q : W → M → Prop) : Prop := ta ρ μ fun x μ1 => tb ρ μ1 fun y μ2 => addA μ2 x y Q
theorem de_addA (ha : DE X b e1 ta) (hb : DE X b e2 tb) : DE X b (.BinOp e1 .Add e2 pos) (dAddA ta tb) := by
  obtain ⟨ta', pa, qa⟩ := ha.ex
  obtain ⟨tb', pb, qb⟩ := hb.ex
  refine ⟨_, pe_op ((op_add.or op_add_str).or (op_cat.or op_catA)) pa pb, fun {G m ρ μ σ H Q K} o r t k => ?_⟩
  refine qa o r t fun x H1 G1 m1 w1 μ1 l1 o1 r1 t1 => ?_
  refine qb o1 (r.mono l1) t1 fun y H2 G2 m2 w2 μ2 l2 o2 r2 t2 => ?_
  unfold addA at t2
  split at t2
  · rename_i xs ys e1 e2
    have p1 := asD_ok o2.rel (r1.mono l2) e1
    have p2 := asD_ok o2.rel r2 e2
    have p1' := p1
    have p2' := p2
    obtain ⟨a, vs, rfl, h1, h1'⟩ := p1.now o2.rel.gh
    obtain ⟨c, us, rfl, h2, h2'⟩ := p2.now o2.rel.gh
    have lf := l1.trans l2
    refine .inr (.inr ⟨a, c, vs, us, rfl, rfl, SqT.of h1, SqT.of h2, by rw [h1'.len, h2'.len]; exact t2.1, fun e => ?_, fun _ e => ?_, fun _ _ q hq => ?_⟩)
    · subst e
      cases h1'
      exact k _ H2 G2 m2 _ μ2 lf o2 (.d p2') t2.2
    · subst e
      cases h2'
      exact k _ H2 G2 m2 _ μ2 lf o2 (.d p1') (by simpa using t2.2)
    · have hg := (o2.rel.new hq).1
      have l4 : Le G2 m2 (upd G2 q (.tup (vs ++ us))) m2 := Le.know hg
      exact k _ _ _ m2 _ μ2 (lf.trans l4) (o2.mono l4 (o2.rel.know hq)) (.d (.tup upd_same ((h1'.app h2').mono l4.g))) t2.2
  · have key : Op2 b (fun x y H Q => ((∃ i j, x = .int i ∧ y = .int j ∧ Q (.int (i + j)) H) ∨ (∃ i j, x = .str i ∧ y = .str j ∧ i.length + j.length ≤ sizeLine ∧ Q (.str (i ++ j)) H)) ∨ (rCat x y H Q ∨ rCatA X.K x y H Q)) fAdd := by
      intro G m μ H v u x y q K w nx ny f k
      match x, y, nx, ny, f with
      | .int i, .int j, nx, ny, f => cases nx; cases ny; exact .inl (.inl ⟨i, j, rfl, rfl, give_old w (.int _) f k⟩)
      | .str s, .str t, nx, ny, f => cases nx; cases ny; exact .inl (.inr ⟨s, t, rfl, rfl, f.1, give_old w (.str _) f.2 k⟩)
      | .lst xs, .lst ys, nx, ny, f =>
        obtain ⟨p, vs, rfl, h1, r1⟩ := nx
        obtain ⟨p2, us, rfl, h2, r2⟩ := ny
        exact .inr (.inl ⟨p, p2, vs, us, rfl, rfl, h1, h2, by rw [r1.len, r2.len]; exact f.1, fun a ha => give_new w ha (fun G' s e => .lst e ((r1.app r2).mono s)) f.2 k⟩)
      | .tup xs, .tup ys, nx, ny, f =>
        obtain ⟨p, vs, rfl, h1, r1⟩ := nx
        obtain ⟨p2, us, rfl, h2, r2⟩ := ny
        refine .inr (.inr ⟨p, p2, vs, us, rfl, rfl, SqT.of h1, SqT.of h2, by rw [r1.len, r2.len]; exact f.1, fun e => ?_, fun _ e => ?_, fun _ _ a ha => give_new w ha (fun G' s e => .tup e ((r1.app r2).mono s)) f.2.2.2 k⟩)
        · subst e; cases r1; exact (f.2.1 rfl).elim
        · subst e; cases r2; exact (f.2.2.1 rfl).elim
    exact dop_core (ρ := ρ) (μ := μ) (μ1 := μ1) (H1 := H1) key l1 l2 o2 r1 r2 t2 k
@[simp] def fMulA : D → D → (D → Prop) → Prop
  | .int i, .int j, q => CMul i j ∧ q (.int (i * j))
  | .lst xs, .int k, q => -(2 ^ 63) ≤ k ∧ k < 2 ^ 63 ∧ xs.length * k.toNat ≤ sizeLine ∧ q (.lst (List.replicate k.toNat xs).flatten)
  | _, _, _ => False
theorem reps_rep {cA : Nat → Addr} {G : Hp} {xs : List V} {ds : List D} (r : Reps cA G xs ds) : ∀ n : Nat, Reps cA G (List.replicate n xs).flatten (List.replicate n ds).flatten
  | 0 => .nil
  | n + 1 => by
    rw [List.replicate_succ, List.replicate_succ, List.flatten_cons, List.flatten_cons]
    exact r.app (reps_rep r n)
theorem de_mulA (ha : DE X b e1 ta) (hb : DE X b e2 tb) : DE X b (.BinOp e1 .Mult e2 pos) (dOp fMulA ta tb) := by
  refine de_op (op_mul.or op_rep) ?_ ha hb
  intro G m μ H v u x y q K w nx ny f k
  match x, y, nx, ny, f with
  | .int i, .int j, nx, ny, f => cases nx; cases ny; exact .inl ⟨i, j, rfl, rfl, f.1, give_old w (.int _) f.2 k⟩
  | .lst xs, .int j, nx, ny, f =>
    obtain ⟨p, vs, rfl, h1, r1⟩ := nx
    cases ny
    exact .inr ⟨p, j, vs, rfl, rfl, h1, f.1, f.2.1, by rw [r1.len]; exact f.2.2.1, fun a ha => give_new w ha (fun G' s e => .lst e ((reps_rep r1 _).mono s)) f.2.2.2 k⟩
/-! ### enumerate, zip -/
def numb : Nat → List D → List W
  | _, [] => []
  | i, d :: ds => .d (.tup [.int i, d]) :: numb (i + 1) ds
theorem numb_get : ∀ {ds : List D} {k i : Nat} {d : D}, ds[i]? = some d → (numb k ds)[i]? = some (.d (.tup [.int ((k + i : Nat) : Int), d]))
  | [], _, _, _, h => by simp at h
  | e :: ds, k, 0, d, h => by simp at h; subst h; simp [numb]
  | e :: ds, k, i + 1, d, h => by
    simp only [List.getElem?_cons_succ] at h
    have := numb_get (k := k + 1) h
    simp only [numb, List.getElem?_cons_succ]
    rw [this]
    congr 5
    omega
theorem numb_len : ∀ {ds : List D} {k : Nat}, (numb k ds).length = ds.length
  | [], _ => rfl
  | _ :: ds, k => by simp [numb, numb_len (ds := ds)]
/-- a list of data that is walked -/
@[simp] def lstOk (μ : M) : W → Option (List D)
  | .d (.lst ds) => some ds
  | .d _ => none
  | .r n => match μ[n]? with
    | some (.lst ds) => some ds
    | some (.frz (.lst ds)) => some ds
    | _ => none
theorem lstOk_ok {cA : Nat → Addr} {U G H : Hp} {m : Wd} {μ : M} {v : V} {w : W} {ds : List D} (r : RelM cA U G m μ H) (q : WRel cA G m v w) (h : lstOk μ w = some ds) : ∃ p xs, v = .ref p ∧ H p = some (.lst xs) ∧ Reps cA G xs ds := by
  cases q with
  | d q =>
    cases q <;> simp only [lstOk] at h <;> first | cases h | skip
    exact ⟨_, _, rfl, r.gh _ _ (by assumption), by assumption⟩
  | @r n p as e =>
    obtain ⟨c, hc⟩ := lt_of_rel r e
    have z := r.cell n c _ hc e
    simp only [lstOk, hc] at h
    cases c with
    | lst ds' => cases h; obtain ⟨p', xs, e1, e2, e3⟩ := z; cases e1; exact ⟨p, xs, rfl, e2, e3⟩
    | frz d' =>
      cases d' <;> simp only at h <;> first | cases h | skip
      obtain ⟨p', e1, e2⟩ := z
      cases e1
      exact ⟨p, (now_lst (e2.now r.gh)).choose, rfl, (now_lst (e2.now r.gh)).choose_spec.1, (now_lst (e2.now r.gh)).choose_spec.2⟩
    | _ => cases h
@[simp] def iEnumD (te : DTE) (ρ : R) (μ : M) (Q : Src → M → Prop) : Prop := te ρ μ fun w μ1 => match lstOk μ1 w with
  | some ds => Q ⟨numb 0 ds, fun μ' => lstOk μ' w = some ds⟩ μ1
  | none => False
theorem di_enum {elts : List Expr} {kk : Nat} (hg : Gl X "enumerate") (hm : X.mg "enumerate" = none) (ha : DE X b e te) (hs : starEach [e] X.env = [(false, eval e X.env)] := by rfl) :
    DI X b (.Tuple elts kk tpos) (.Call (.Name "enumerate" p) [e] [] pos) (iEnumD te) := by
  obtain ⟨t', pa, qa⟩ := ha.ex
  refine ⟨_, pi_enum hg hm (pa_cons pa pa_nil hs) hs, fun {G m ρ μ σ H Q K} o r t k => ?_⟩
  refine qa o r t fun v H1 G1 m1 w μ1 l1 o1 r1 t1 => ?_
  split at t1
  · rename_i ds e
    obtain ⟨a, xs, rfl, h1, h2⟩ := lstOk_ok o1.rel r1 e
    refine ⟨a, xs, rfl, SqL.of h1, k _ H1 G1 m1 _ μ1 l1 o1 ?_ t1⟩
    have key : ∀ {G' m' μ' H'}, Le G1 m1 G' m' → WOk b G' m' μ' H' → lstOk μ' w = some ds → ∃ xs, H' a = some (.lst xs) ∧ Reps b.cA G' xs ds := fun {G' m' μ' H'} l o' e' => by
      obtain ⟨a', ys, f1, f2, f3⟩ := lstOk_ok o'.rel (r1.mono l) e'
      cases f1
      exact ⟨ys, f2, f3⟩
    refine ⟨fun {G' m' μ' H' i} l o k h => ?_, fun {G' m' μ' H' i x H2} l o k y h => ?_, fun {G' m' μ' H'} l o k => ?_⟩
    · obtain ⟨xs, e, r⟩ := key l o k
      have hl := r.len
      rw [numb_len] at h
      exact ⟨xs, xs[i]'(by rw [hl]; exact h), SqL.of e, List.getElem?_eq_getElem _⟩
    · obtain ⟨xs, e, r⟩ := key l o k
      obtain ⟨T, z, rfl, hT, rfl, y⟩ := y
      obtain ⟨d, h3, h4⟩ := r.get (y xs (SqL.of e))
      have hg := (o.rel.new hT).1
      have l2 : Le G' m' (upd G' T (.tup [.int (i : Nat), z])) m' := Le.know hg
      refine ⟨_, _, l2, o.mono l2 (o.rel.know hT), numb_get h3, .d (.tup upd_same (.cons ?_ (.cons (h4.mono l2.g) .nil)))⟩
      rw [Nat.zero_add]
      exact .int _
    · obtain ⟨xs, e, r⟩ := key l o k
      exact ⟨xs, SqL.of e, by rw [r.len, numb_len]; exact Nat.le_refl _⟩
  · exact t1.elim
def zipD (xs ys : List D) : List W := (xs.zip ys).map fun z => .d (.tup [z.1, z.2])
@[simp] def iZipD (ta tb : DTE) (ρ : R) (μ : M) (Q : Src → M → Prop) : Prop := ta ρ μ fun x μ1 => tb ρ μ1 fun y μ2 => match lstOk μ2 x, lstOk μ2 y with
  | some xs, some ys => Q ⟨zipD xs ys, fun μ' => lstOk μ' x = some xs ∧ lstOk μ' y = some ys⟩ μ2
  | _, _ => match asD μ2 x, asD μ2 y with
    | some (.tup xs), some (.tup ys) => Q ⟨zipD xs ys, fun _ => True⟩ μ2
    | _, _ => False
theorem zipD_len {xs ys : List D} : (zipD xs ys).length = min xs.length ys.length := by simp [zipD]
theorem zipD_get {xs ys : List D} {i : Nat} {x y : D} (h1 : xs[i]? = some x) (h2 : ys[i]? = some y) : (zipD xs ys)[i]? = some (.d (.tup [x, y])) := by
  unfold zipD
  rw [List.getElem?_map, (List.getElem?_zip_eq_some (z := (x, y))).mpr ⟨h1, h2⟩]
  rfl
theorem di_zip {elts : List Expr} {kk : Nat} (hg : Gl X "zip") (hm : X.mg "zip" = none) (ha : DE X b e1 ta) (hb : DE X b e2 tb) (hs : starEach [e1, e2] X.env = (false, eval e1 X.env) :: starEach [e2] X.env := by rfl) (hs2 : starEach [e2] X.env = (false, eval e2 X.env) :: starEach [] X.env := by rfl) (hpl : (backTo pos (starEach [e2] X.env)).any (·.1) = false := by rfl) :
    DI X b (.Tuple elts kk tpos) (.Call (.Name "zip" p) [e1, e2] [] pos) (iZipD ta tb) := by
  obtain ⟨ta', pa, qa⟩ := ha.ex
  obtain ⟨tb', pb, qb⟩ := hb.ex
  refine ⟨_, pi_zipA hg hm (pa_cons pa (pa_cons pb pa_nil hs2) hs) hs hpl, fun {G m ρ μ σ H Q K} o r t k => ?_⟩
  refine qa o r t fun v H1 G1 m1 w μ1 l1 o1 r1 t1 => ?_
  refine qb o1 (r.mono l1) t1 fun v2 H2 G2 m2 w2 μ2 l2 o2 r2 t2 => ?_
  have lf := l1.trans l2
  split at t2
  · rename_i xs ys ex ey
    obtain ⟨a, vs, rfl, h1, h2⟩ := lstOk_ok o2.rel (r1.mono l2) ex
    obtain ⟨c, us, rfl, h3, h4⟩ := lstOk_ok o2.rel r2 ey
    refine ⟨a, c, vs, us, rfl, .inl ⟨SqL.of h1, SqL.of h3, k _ H2 G2 m2 _ μ2 lf o2 ?_ t2⟩⟩
    have key : ∀ {G' m' μ' H'}, Le G2 m2 G' m' → WOk b G' m' μ' H' → (lstOk μ' w = some xs ∧ lstOk μ' w2 = some ys) → ∃ vs us, H' a = some (.lst vs) ∧ Reps b.cA G' vs xs ∧ H' c = some (.lst us) ∧ Reps b.cA G' us ys := fun {G' m' μ' H'} l o' e' => by
      obtain ⟨a', q1, f1, f2, f3⟩ := lstOk_ok o'.rel ((r1.mono l2).mono l) e'.1
      obtain ⟨c', q2, g1, g2, g3⟩ := lstOk_ok o'.rel (r2.mono l) e'.2
      cases f1
      cases g1
      exact ⟨q1, q2, f2, f3, g2, g3⟩
    refine ⟨fun {G' m' μ' H' i} l o k h => ?_, fun {G' m' μ' H' i x H2} l o k y h => ?_, fun {G' m' μ' H'} l o k => ?_⟩
    · obtain ⟨vs, us, e1, f1, e2, f2⟩ := key l o k
      have h : i < (zipD xs ys).length := h
      rw [zipD_len] at h
      exact ⟨vs, us, vs[i]'(by rw [f1.len]; omega), us[i]'(by rw [f2.len]; omega), SqL.of e1, SqL.of e2, List.getElem?_eq_getElem _, List.getElem?_eq_getElem _⟩
    · obtain ⟨vs, us, e1, f1, e2, f2⟩ := key l o k
      obtain ⟨T, z, z2, rfl, hT, rfl, y1, y2⟩ := y
      obtain ⟨d, h3, h4⟩ := f1.get (y1 vs (SqL.of e1))
      obtain ⟨d2, h5, h6⟩ := f2.get (y2 us (SqL.of e2))
      have hg := (o.rel.new hT).1
      have l2 : Le G' m' (upd G' T (.tup [z, z2])) m' := Le.know hg
      exact ⟨_, _, l2, o.mono l2 (o.rel.know hT), zipD_get h3 h5, .d (.tup upd_same (.cons (h4.mono l2.g) (.cons (h6.mono l2.g) .nil)))⟩
    · obtain ⟨vs, us, e1, f1, e2, f2⟩ := key l o k
      refine ⟨vs, us, SqL.of e1, SqL.of e2, ?_⟩
      show vs.length ≤ (zipD xs ys).length ∨ us.length ≤ (zipD xs ys).length
      rw [zipD_len, f1.len, f2.len]
      omega
  · split at t2
    · rename_i xs ys ex ey
      have p1 := asD_ok o2.rel (r1.mono l2) ex
      have p2 := asD_ok o2.rel r2 ey
      have p1' := p1
      have p2' := p2
      obtain ⟨a, vs, rfl, h1, h2⟩ := p1.now o2.rel.gh
      obtain ⟨c, us, rfl, h3, h4⟩ := p2.now o2.rel.gh
      refine ⟨a, c, vs, us, rfl, .inr ⟨SqT.of h1, SqT.of h3, k _ H2 G2 m2 _ μ2 lf o2 ?_ t2⟩⟩
      have key : ∀ {G' m' μ' H'}, Le G2 m2 G' m' → WOk b G' m' μ' H' → ∃ vs us, H' a = some (.tup vs) ∧ Reps b.cA G' vs xs ∧ H' c = some (.tup us) ∧ Reps b.cA G' us ys := fun {G' m' μ' H'} l o' => by
        obtain ⟨q1, f2, f3⟩ := now_tup ((p1'.mono l.g).now o'.rel.gh)
        obtain ⟨q2, g2, g3⟩ := now_tup ((p2'.mono l.g).now o'.rel.gh)
        exact ⟨q1, q2, f2, f3, g2, g3⟩
      refine ⟨fun {G' m' μ' H' i} l o k h => ?_, fun {G' m' μ' H' i x H2} l o k y h => ?_, fun {G' m' μ' H'} l o k => ?_⟩
      · obtain ⟨vs, us, e1, f1, e2, f2⟩ := key l o
        have h : i < (zipD xs ys).length := h
        rw [zipD_len] at h
        exact ⟨vs, us, vs[i]'(by rw [f1.len]; omega), us[i]'(by rw [f2.len]; omega), SqT.of e1, SqT.of e2, List.getElem?_eq_getElem _, List.getElem?_eq_getElem _⟩
      · obtain ⟨vs, us, e1, f1, e2, f2⟩ := key l o
        obtain ⟨T, z, z2, rfl, hT, rfl, y1, y2⟩ := y
        obtain ⟨d, h3, h4⟩ := f1.get (y1 vs (SqT.of e1))
        obtain ⟨d2, h5, h6⟩ := f2.get (y2 us (SqT.of e2))
        have hg := (o.rel.new hT).1
        have l2 : Le G' m' (upd G' T (.tup [z, z2])) m' := Le.know hg
        exact ⟨_, _, l2, o.mono l2 (o.rel.know hT), zipD_get h3 h5, .d (.tup upd_same (.cons (h4.mono l2.g) (.cons (h6.mono l2.g) .nil)))⟩
      · obtain ⟨vs, us, e1, f1, e2, f2⟩ := key l o
        refine ⟨vs, us, SqT.of e1, SqT.of e2, ?_⟩
        show vs.length ≤ (zipD xs ys).length ∨ us.length ≤ (zipD xs ys).length
        rw [zipD_len, f1.len, f2.len]
        omega
    · exact t2.elim
end
end DD
namespace DD
open PySem L2
/-! ### what is called, by name -/
section
variable {P : Program} {w : World} {K : PySem.W.Frag} {mg : Str → Option Value} {base : Heap} {cA : Nat → Addr}
/-- a def of the text keeps a contract -/
structure Cal (P : Program) (w : World) (K : PySem.W.Frag) (mg : Str → Option Value) (base : Heap) (cA : Nat → Addr) (x : Str) (k : Nat) (S : FS) : Prop where
  ex : ∃ (f : Addr) (fd : FuncData) (ps : List Str), FnOk P w K mg base (L2.CX P w) k f fd ps (spD cA S) ∧ mg x = some (.ref f) ∧ PySem.W.keepIn K (.ref f) = true ∧ Binds K fd ps []
/-- a class's __init__ keeps a contract -/
structure Mkc (P : Program) (w : World) (K : PySem.W.Frag) (mg : Str → Option Value) (base : Heap) (cA : Nat → Addr) (x : Str) (c k : Nat) (S : FS) : Prop where
  ex : ∃ (f : Addr) (fd : FuncData) (ps : List Str), L2.Mk K (cA c) f ∧ FnOk P w K mg base (L2.CX P w) k f fd ps (spD cA S) ∧ mg x = some (.ref (cA c)) ∧ Binds K fd ps []
/-- a class's method keeps a contract -/
structure Mec (P : Program) (w : World) (K : PySem.W.Frag) (mg : Str → Option Value) (base : Heap) (cA : Nat → Addr) (m : Str) (c k : Nat) (S : FS) : Prop where
  cl : Cls K (cA c)
  ex : ∃ (f : Addr) (fd : FuncData) (ps : List Str), Meth K (cA c) m f ∧ FnOk P w K mg base (L2.CX P w) k f fd ps (spD cA S) ∧ Binds K fd ps []
end
section
variable {X : Cx} {b : Bs} {pos p apos : Pos} {e o : Expr} {es : List Expr} {ta : DTA} {to te tb : DTE} {x m : Str} {S : FS} {j k c : Nat}
theorem de_cal (h : Cal X.prog X.w X.K X.mg X.base b.cA x k S) (hr : Room j X.A) (hj : k ≤ j) (hx : XOk X b) (ha : DA X b (e :: es) ta) (hg : Gl X x)
    (hdb : (x == ("__debug__" : Str)) = false := by decide) (he : starEach (e :: es) X.env = (false, eval e X.env) :: starEach es X.env := by rfl) (hpl : (backTo pos (starEach es X.env)).any (·.1) = false := by rfl) :
    DE X b (.Call (.Name x p) (e :: es) [] pos) (dCall S b.xc ta) := by
  obtain ⟨f, fd, ps, F, hm, hk, hb⟩ := h.ex
  exact de_call F (hr.mono hj) hx hm hk hb ha hg hdb he hpl
theorem de_cal0 (h : Cal X.prog X.w X.K X.mg X.base b.cA x k S) (hr : Room j X.A) (hj : k ≤ j) (hx : XOk X b) (hg : Gl X x) (hdb : (x == ("__debug__" : Str)) = false := by decide) : DE X b (.Call (.Name x p) [] [] pos) (dCall S b.xc dNil) := by
  obtain ⟨f, fd, ps, F, hm, hk, hb⟩ := h.ex
  exact de_call0 F (hr.mono hj) hx hm hk hb hg hdb
theorem de_mkD (h : Mkc X.prog X.w X.K X.mg X.base b.cA x c k S) (hr : Room j X.A) (hj : k + 1 ≤ j) (hx : XOk X b) (ha : DA X b (e :: es) ta) (hg : Gl X x)
    (hdb : (x == ("__debug__" : Str)) = false := by decide) (he : starEach (e :: es) X.env = (false, eval e X.env) :: starEach es X.env := by rfl) (hpl : (backTo pos (starEach es X.env)).any (·.1) = false := by rfl) : DE X b (.Call (.Name x p) (e :: es) [] pos) (dMakeD S c b.xc ta) := by
  obtain ⟨f, fd, ps, M, F, hm, hb⟩ := h.ex
  exact de_makeD M F (hr.mono hj) hx hm hb ha hg hdb he hpl
theorem de_mkM (h : Mkc X.prog X.w X.K X.mg X.base b.cA x c k S) (hr : Room j X.A) (hj : k + 1 ≤ j) (hx : XOk X b) (ha : DA X b (e :: es) ta) (hg : Gl X x)
    (hdb : (x == ("__debug__" : Str)) = false := by decide) (he : starEach (e :: es) X.env = (false, eval e X.env) :: starEach es X.env := by rfl) (hpl : (backTo pos (starEach es X.env)).any (·.1) = false := by rfl) : DE X b (.Call (.Name x p) (e :: es) [] pos) (dMakeM S c b.xc ta) := by
  obtain ⟨f, fd, ps, M, F, hm, hb⟩ := h.ex
  exact de_makeM M F (hr.mono hj) hx hm hb ha hg hdb he hpl
/-- the methods of one name, by class -/
def MecT (X : Cx) (b : Bs) (m : Str) (j : Nat) (tab : List (Nat × FS)) : Prop := ∀ q ∈ tab, ∃ k, k ≤ j ∧ Mec X.prog X.w X.K X.mg X.base b.cA m q.1 k q.2
theorem mect_nil : MecT X b m j [] := fun _ h => by cases h
theorem mect_cons {tab : List (Nat × FS)} (h : Mec X.prog X.w X.K X.mg X.base b.cA m c k S) (hj : k ≤ j) (ht : MecT X b m j tab) : MecT X b m j ((c, S) :: tab) := fun q hq => by
  rcases List.mem_cons.mp hq with rfl | hq
  · exact ⟨k, hj, h⟩
  · exact ht q hq
theorem MecT.ok {tab : List (Nat × FS)} (h : MecT X b m j tab) (hr : Room j X.A) : ∀ q ∈ tab, MetOk X b m q.1 q.2 := fun q hq => by
  obtain ⟨k, hk, M⟩ := h q hq
  obtain ⟨f, fd, ps, h1, h2, h3⟩ := M.ex
  exact ⟨M.cl, f, fd, ps, k, h1, h2, hr.mono hk, h3⟩
/-- a global that is an int -/
theorem de_gi {i : Int} (h : ∃ t, X.mg x = some (.int i t)) (hg : Gl X x) (hd : (x == ("__debug__" : Str)) = false := by decide) : DE X b (.Name x pos) (dC (.int i)) := by
  obtain ⟨t, h⟩ := h
  exact de_c (v := .int i) (pe_glob hg h ⟨t, rfl⟩ hd) fun _ => .int i
/-! ### lists of what may be mutable itself -/
/-- a list that may change, its items as they are -/
@[simp] def dLstW (ta : DTA) (ρ : R) (μ : M) (Q : W → M → Prop) : Prop := ta ρ μ fun ws μ1 => ws.length ≤ sizeLine ∧ Q (.r μ1.length) (μ1 ++ [.lstW ws])
theorem de_lstW (ha : DA X b es ta) : DE X b (.List es pos) (dLstW ta) := by
  obtain ⟨ta', pa, qa⟩ := ha.ex
  refine ⟨_, pe_lst pa, fun {G m ρ μ σ H Q K} o r t k => ?_⟩
  refine qa o r t fun vs H1 G1 m1 ws μ1 l1 o1 r1 t1 => ?_
  refine ⟨by rw [r1.len]; exact t1.1, fun p hp => ?_⟩
  have l3 : Le G1 m1 G1 (m1 ++ [[p]]) := Le.cellNew
  exact k _ _ _ _ _ _ (l1.trans l3) (o1.mono l3 (o1.rel.cellNew (c := .lstW ws) hp ⟨p, vs, rfl, upd_same, r1.mono l3⟩)) (.r (as := []) (by rw [← o1.rel.len]; simp)) t1.2
/-- what stands at i, whatever it is -/
@[simp] def ixA (μ : M) (x y : W) (Q : W → M → Prop) : Prop := match x, y with
  | .r n, .d (.int i) => match μ[n]? with
    | some (.lstW ws) => match atI ws i with
      | some w => Q w μ
      | none => False
    | _ => match rs μ x, rs μ y with
      | some a, some c => fIx a c fun z => Q (.d z) μ
      | _, _ => False
  | _, _ => match rs μ x, rs μ y with
    | some a, some c => fIx a c fun z => Q (.d z) μ
    | _, _ => False
@[simp] def dIxA (ta tb : DTE) (ρ : R) (μ : M) (Q : W → M → Prop) : Prop := ta ρ μ fun x μ1 => tb ρ μ1 fun y μ2 => ixA μ2 x y Q
theorem wrels_atI {cA : Nat → Addr} {G : Hp} {m : Wd} {vs : List V} {ws : List W} {i : Int} {w : W} (r : WRels cA G m vs ws) (h : atI ws i = some w) : ∃ v, atI vs i = some v ∧ WRel cA G m v w := by
  unfold atI at h ⊢
  rw [r.len]
  cases e : ixN ws.length i with
  | none => rw [e] at h; cases h
  | some j =>
    rw [e] at h
    obtain ⟨v, h1, h2⟩ := r.get' (i := j) h
    exact ⟨v, h1, h2⟩
theorem de_ixA {e1 e2 : Expr} (ha : DE X b e1 te) (hb : DE X b e2 tb) (hs : PlainIx e2 := by exact fun _ _ => rfl) : DE X b (.Subscript e1 e2 pos) (dIxA te tb) := by
  obtain ⟨ta', pa, qa⟩ := ha.ex
  obtain ⟨tb', pb, qb⟩ := hb.ex
  refine ⟨_, pe_ix ix_seq pa pb hs, fun {G m ρ μ σ H Q K} o r t k => ?_⟩
  refine qa o r t fun x H1 G1 m1 w1 μ1 l1 o1 r1 t1 => ?_
  refine qb o1 (r.mono l1) t1 fun y H2 G2 m2 w2 μ2 l2 o2 r2 t2 => ?_
  have go : (match rs μ2 w1, rs μ2 w2 with
      | some a, some c => fIx a c fun z => Q (.d z) μ2
      | _, _ => False) → rIx X.K x y H2 K := fun t2 => dop_core (ρ := ρ) (μ := μ) (μ1 := μ1) (H1 := H1) o2_ix l1 l2 o2 r1 r2 t2 k
  unfold ixA at t2
  split at t2
  · rename_i n i
    split at t2
    · rename_i ws hc
      split at t2
      · rename_i w e
        cases r1 with
        | @r _ q as em =>
        obtain ⟨q', xs, e1, e2, e3⟩ := o2.rel.cell n _ _ hc (l2.m _ _ em)
        cases e1
        obtain ⟨v, h1, h2⟩ := wrels_atI e3 e
        exact .inl ⟨q, xs, i, v, rfl, isInt r2, SqL.of e2, h1, k _ H2 G2 m2 w μ2 (l1.trans l2) o2 h2 t2⟩
      · exact t2.elim
    · exact go t2
  · exact go t2
/-- len of a list of such -/
@[simp] def lenW (μ : M) : W → Option Nat
  | .d (.lst ds) => some ds.length
  | .d (.tup ds) => some ds.length
  | .d _ => none
  | .r n => match μ[n]? with
    | some (.lst ds) => some ds.length
    | some (.lstW ws) => some ws.length
    | some (.frz (.lst ds)) => some ds.length
    | some (.frz (.tup ds)) => some ds.length
    | _ => none
theorem lenW_ok {cA : Nat → Addr} {K : PySem.W.Frag} {U G H : Hp} {mm : Wd} {μ : M} {v : V} {w : W} {n : Nat} (r : RelM cA U G mm μ H) (q : WRel cA G mm v w) (h : lenW μ w = some n) : LenV K v H n := by
  cases q with
  | @d _ d q =>
    cases d with
    | lst ds =>
      simp only [lenW, Option.some.injEq] at h
      obtain ⟨p, xs, rfl, e, rr⟩ := q.now r.gh
      exact .inl ⟨xs, SqL.of e, by rw [← h, rr.len]⟩
    | tup ds =>
      simp only [lenW, Option.some.injEq] at h
      obtain ⟨p, xs, rfl, e, rr⟩ := q.now r.gh
      exact .inr ⟨xs, SqT.of e, by rw [← h, rr.len]⟩
    | _ => cases h
  | @r i p as e =>
    obtain ⟨c, hc⟩ := lt_of_rel r e
    have z := r.cell i c _ hc e
    simp only [lenW, hc] at h
    cases c with
    | lst ds => cases h; obtain ⟨p', xs, e1, e2, e3⟩ := z; cases e1; exact .inl ⟨xs, SqL.of e2, by rw [e3.len]⟩
    | lstW ds => cases h; obtain ⟨p', xs, e1, e2, e3⟩ := z; cases e1; exact .inl ⟨xs, SqL.of e2, by rw [e3.len]⟩
    | frz d =>
      obtain ⟨p', e1, e2⟩ := z
      cases e1
      cases d with
      | lst ds =>
        simp only [Option.some.injEq] at h
        obtain ⟨p2, xs, e3, e4, rr⟩ := e2.now r.gh
        cases e3
        exact .inl ⟨xs, SqL.of e4, by rw [← h, rr.len]⟩
      | tup ds =>
        simp only [Option.some.injEq] at h
        obtain ⟨p2, xs, e3, e4, rr⟩ := e2.now r.gh
        cases e3
        exact .inr ⟨xs, SqT.of e4, by rw [← h, rr.len]⟩
      | _ => cases h
    | _ => cases h
@[simp] def dLen (te : DTE) (ρ : R) (μ : M) (Q : W → M → Prop) : Prop := te ρ μ fun w μ1 => match lenW μ1 w with
  | some n => Q (.d (.int n)) μ1
  | none => False
theorem de_lenA (hm : X.mg "len" = none) (ha : DE X b e te) (hg : Gl X "len") (he : starEach [e] X.env = (false, eval e X.env) :: starEach [] X.env := by rfl) (hpl : (backTo pos (starEach [] X.env)).any (·.1) = false := by rfl) : DE X b (.Call (.Name "len" p) [e] [] pos) (dLen te) := by
  obtain ⟨t', pa, qa⟩ := ha.ex
  refine ⟨_, pe_callB call_len hg hm PySem.boot_len (pa_cons pa pa_nil he) (he := he) (hpl := hpl), fun {G m ρ μ σ H Q K} o r t k => ?_⟩
  refine qa o r t fun v H1 G1 m1 w μ1 l1 o1 r1 t1 => ?_
  split at t1
  · rename_i n e
    exact ⟨v, n, rfl, lenW_ok o1.rel r1 e, k _ H1 G1 m1 _ μ1 l1 o1 (.d (.int _)) t1⟩
  · exact t1.elim
@[simp] def isLs (μ : M) (n : Nat) : Bool := match μ[n]? with
  | some (.lst _) => true
  | some (.lstW _) => true
  | _ => false
theorem isLs_at {G H : Hp} {m : Wd} {μ : M} {n : Nat} {v : V} (o : WOk b G m μ H) (r : WRel b.cA G m v (.r n)) (h : isLs μ n = true) : ∃ p us, v = .ref p ∧ H p = some (.lst us) ∧ m[n]? = some [p] := by
  cases r with
  | @r _ p as e =>
  unfold isLs at h
  split at h
  · rename_i ds hc
    obtain ⟨p', xs, e1, e2, e3⟩ := o.rel.cell n _ _ hc e
    cases e1
    exact ⟨p, xs, rfl, e2, e⟩
  · rename_i ds hc
    obtain ⟨p', xs, e1, e2, e3⟩ := o.rel.cell n _ _ hc e
    cases e1
    exact ⟨p, xs, rfl, e2, e⟩
  · cases h
/-- l.append(e), whatever l holds -/
@[simp] def dAppA (to te : DTE) (ρ : R) (μ : M) (Q : W → M → Prop) : Prop := to ρ μ fun w μ1 => match w with
  | .r n => isLs μ1 n = true ∧ te ρ μ1 fun x μ2 => match μ2[n]? with
    | some (.lstW ws) => ws.length < sizeLine ∧ Q (.d .non) (μ2.set n (.lstW (ws ++ [x])))
    | some (.lst _) => match esc μ2 x with
      | some (d, μ3) => match μ3[n]? with
        | some (.lst ds) => ds.length < sizeLine ∧ Q (.d .non) (μ3.set n (.lst (ds ++ [d])))
        | _ => False
      | none => False
    | _ => False
  | _ => False
theorem WRels.app {cA : Nat → Addr} {G : Hp} {m : Wd} : ∀ {vs us : List V} {ds es : List W}, WRels cA G m vs ds → WRels cA G m us es → WRels cA G m (vs ++ us) (ds ++ es)
  | _, _, _, _, .nil, h => h
  | _, _, _, _, .cons r rs, h => .cons r (rs.app h)
theorem WRels.take {cA : Nat → Addr} {G : Hp} {m : Wd} : ∀ {vs : List V} {ds : List W} (n : Nat), WRels cA G m vs ds → WRels cA G m (vs.take n) (ds.take n)
  | _, _, 0, _ => .nil
  | _, _, _ + 1, .nil => .nil
  | _, _, n + 1, .cons r rs => .cons r (rs.take n)
theorem WRels.drop {cA : Nat → Addr} {G : Hp} {m : Wd} : ∀ {vs : List V} {ds : List W} (n : Nat), WRels cA G m vs ds → WRels cA G m (vs.drop n) (ds.drop n)
  | _, _, 0, h => h
  | _, _, _ + 1, .nil => .nil
  | _, _, n + 1, .cons _ rs => rs.drop n
theorem de_appA (ho : DE X b o to) (ha : DE X b e te) (hp : ∀ {to : TE} {ta : TA}, PE X o to → PA X [e] ta → PE X (.Call (.Attribute o "append" apos) [e] [] pos) (tBM X.K "list" rAppend to ta))
    (hs : starEach [e] X.env = (false, eval e X.env) :: starEach [] X.env := by rfl) : DE X b (.Call (.Attribute o "append" apos) [e] [] pos) (dAppA to te) := by
  obtain ⟨to', po, qo⟩ := ho.ex
  obtain ⟨te', pe, qe⟩ := ha.ex
  refine ⟨_, hp po (pa_cons pe pa_nil hs), fun {G m ρ μ σ H Q K} ok rr t k => ?_⟩
  refine qo ok rr t fun v H1 G1 m1 w μ1 l1 o1 r1 t1 => ?_
  split at t1
  · rename_i n
    obtain ⟨q0, t1⟩ := t1
    obtain ⟨a, us0, rfl, h1, h2⟩ := isLs_at o1 r1 q0
    refine ⟨.inl ⟨rfl, us0, SqL.of h1⟩, ?_⟩
    refine qe o1 (rr.mono l1) t1 fun y H2 G2 m2 x μ2 l2 o2 r2 t2 => ?_
    have hm := l2.m _ _ h2
    split at t2
    · rename_i ws hc
      obtain ⟨p', us, e1, e2, e3⟩ := o2.rel.cell n _ _ hc hm
      cases e1
      refine ⟨a, us, y, rfl, rfl, e2, by rw [e3.len]; exact t2.1, ?_⟩
      exact k _ _ G2 m2 (.d .non) _ (l1.trans l2) (o2.mono (Le.refl _ _) (o2.rel.write (c' := .lstW (ws ++ [x])) hc hm rfl (by simp) rfl ⟨a, _, rfl, upd_same, e3.app (.cons r2 .nil)⟩)) (.d .non) t2.2
    · split at t2
      · rename_i d μ3 e0
        obtain ⟨G3, l3, r3, rp⟩ := esc_ok o2.rel r2 e0
        split at t2
        · rename_i ds hc
          obtain ⟨p', us, e1, e2, e3⟩ := r3.cell n _ _ hc hm
          cases e1
          refine ⟨a, us, y, rfl, rfl, e2, by rw [e3.len]; exact t2.1, ?_⟩
          exact k _ _ G3 m2 (.d .non) _ (l1.trans (l2.trans l3)) (o2.mono l3 (r3.write (c' := .lst (ds ++ [d])) hc hm rfl (by simp) rfl ⟨a, _, rfl, upd_same, e3.app (.cons rp .nil)⟩)) (.d .non) t2.2
        · exact t2.elim
      · exact t2.elim
    · exact t2.elim
  · exact t1.elim
/-- l.insert(i, e), whatever l holds -/
def dInsA (to ti te : DTE) (ρ : R) (μ : M) (Q : W → M → Prop) : Prop := to ρ μ fun w μ1 => match w with
  | .r n => isLs μ1 n = true ∧ ti ρ μ1 fun z μa => match z with
    | .d (.int i) => (0 ≤ i ∧ i < 2 ^ 63) ∧ te ρ μa fun x μ2 => match μ2[n]? with
      | some (.lstW ws) => ws.length < sizeLine ∧ Q (.d .non) (μ2.set n (.lstW (ws.take i.toNat ++ [x] ++ ws.drop i.toNat)))
      | some (.lst _) => match esc μ2 x with
        | some (d, μ3) => match μ3[n]? with
          | some (.lst ds) => ds.length < sizeLine ∧ Q (.d .non) (μ3.set n (.lst (ds.take i.toNat ++ [d] ++ ds.drop i.toNat)))
          | _ => False
        | none => False
      | _ => False
    | _ => False
  | _ => False
abbrev rIns : V → List V → Hp → VK → Prop := fun x vs H Q => ∃ (l : Addr) (xs : List V) (i : Int) (y : V), x = .ref l ∧ vs = [.int i, y] ∧ H l = some (.lst xs) ∧ xs.length < sizeLine ∧ 0 ≤ i ∧ i < 2 ^ 63 ∧ Q .non (upd H l (.lst (xs.take i.toNat ++ [y] ++ xs.drop i.toNat)))
theorem de_insA {i : Expr} {ti : DTE} (ho : DE X b o to) (hi : DE X b i ti) (ha : DE X b e te) (hp : ∀ {to : TE} {ta : TA}, PE X o to → PA X [i, e] ta → PE X (.Call (.Attribute o "insert" apos) [i, e] [] pos) (tBM X.K "list" rIns to ta))
    (hs : starEach [i, e] X.env = (false, eval i X.env) :: starEach [e] X.env := by rfl) (hs2 : starEach [e] X.env = (false, eval e X.env) :: starEach [] X.env := by rfl) : DE X b (.Call (.Attribute o "insert" apos) [i, e] [] pos) (dInsA to ti te) := by
  obtain ⟨to', po, qo⟩ := ho.ex
  obtain ⟨ti', pi, qi⟩ := hi.ex
  obtain ⟨te', pe, qe⟩ := ha.ex
  refine ⟨_, hp po (pa_cons pi (pa_cons pe pa_nil hs2) hs), fun {G m ρ μ σ H Q K} ok rr t k => ?_⟩
  refine qo ok rr t fun v H1 G1 m1 w μ1 l1 o1 r1 t1 => ?_
  split at t1
  · rename_i n
    obtain ⟨q0, t1⟩ := t1
    obtain ⟨a, us0, rfl, h1, h2⟩ := isLs_at o1 r1 q0
    refine ⟨.inl ⟨rfl, us0, SqL.of h1⟩, ?_⟩
    refine qi o1 (rr.mono l1) t1 fun z Ha Ga ma wz μa la oa ra ta => ?_
    split at ta
    · rename_i i
      obtain ⟨⟨i0, i1⟩, ta⟩ := ta
      have ez := isInt ra
      subst ez
      refine qe oa ((rr.mono l1).mono la) ta fun y H2 G2 m2 x μ2 l2 o2 r2 t2 => ?_
      have hm := l2.m _ _ (la.m _ _ h2)
      split at t2
      · rename_i ws hc
        obtain ⟨p', us, e1, e2, e3⟩ := o2.rel.cell n _ _ hc hm
        cases e1
        refine ⟨a, us, i, y, rfl, rfl, e2, by rw [e3.len]; exact t2.1, i0, i1, ?_⟩
        exact k _ _ G2 m2 (.d .non) _ (l1.trans (la.trans l2)) (o2.mono (Le.refl _ _) (o2.rel.write (c' := .lstW (ws.take i.toNat ++ [x] ++ ws.drop i.toNat)) hc hm rfl (by simp) rfl ⟨a, _, rfl, upd_same, ((e3.take _).app (.cons r2 .nil)).app (e3.drop _)⟩)) (.d .non) t2.2
      · split at t2
        · rename_i d μ3 e0
          obtain ⟨G3, l3, r3, rp⟩ := esc_ok o2.rel r2 e0
          split at t2
          · rename_i ds hc
            obtain ⟨p', us, e1, e2, e3⟩ := r3.cell n _ _ hc hm
            cases e1
            refine ⟨a, us, i, y, rfl, rfl, e2, by rw [e3.len]; exact t2.1, i0, i1, ?_⟩
            exact k _ _ G3 m2 (.d .non) _ (l1.trans (la.trans (l2.trans l3))) (o2.mono l3 (r3.write (c' := .lst (ds.take i.toNat ++ [d] ++ ds.drop i.toNat)) hc hm rfl (by simp) rfl ⟨a, _, rfl, upd_same, ((e3.take _).app (.cons rp .nil)).app (e3.drop _)⟩)) (.d .non) t2.2
          · exact t2.elim
        · exact t2.elim
      · exact t2.elim
    · exact ta.elim
  · exact t1.elim
end
end DD
namespace DD
open PySem L2
/-! ### the law's script -/
section
variable {X : Cx} {b : Bs} {pos p : Pos} {e e1 e2 : Expr} {te ta tb : DTE}
def rCatS (K : PySem.W.Frag) : R2 := fun x y H Q => ∃ (l c : Addr) (xs zs : List V), x = .ref l ∧ y = .ref c ∧ SqL K H l xs ∧ H c = some (.lst zs) ∧ xs.length + zs.length ≤ sizeLine ∧ ∀ q, H q = none → Q (.ref q) (upd H q (.lst (xs ++ zs)))
theorem op_catS : OpR X (binaryOp .Add) (rCatS X.K) := by
  intro pins s σ H x y v u Q I rx ry h
  obtain ⟨l, c, xs, zs, rfl, rfl, hH, hB, hz, q⟩ := h
  cases rx
  cases ry
  obtain ⟨its, r, pl, z⟩ := I.list hH
  obtain ⟨its2, r2, pl2, z2⟩ := I.list (SqL.of hB)
  have l1 := r.length
  have l2 := r2.length
  obtain ⟨⟨cls, dd, data, sl⟩, ho, hc, n, hd⟩ := id pl.isList
  obtain ⟨⟨cls2, dd2, data2, sl2⟩, ho2, hc2, n2, hd2⟩ := id pl2.isList
  simp only at hc hd hc2 hd2
  subst hc hd hc2 hd2
  refine PySem.concat_meets ⟨_, ho, rfl⟩ ⟨_, ho2, rfl⟩ PySem.noFill_list_add PySem.seq_list_add PySem.F.slot_list_add PySem.F.entry_list_add (PySem.F.args_list_add_2 _ _) (PyProof.Rows.list_addW l c its.toArray its2.toArray n n2 dd dd2 sl sl2 (by rw [List.size_toArray, List.size_toArray]; omega)) ⟨ho, ho2, ?_⟩
  have ea : its.toArray ++ its2.toArray = (its ++ its2).toArray := by simp
  rw [ea]
  exact ⟨.ref _, _, I.lnew (t' := s.toks) (r.append r2) (by rw [List.length_append]; omega), rfl, q _ I.fresh⟩
/-- the script as an object of the written part -/
def scrK (K : PySem.W.Frag) (ns : List Int) (a : Addr) : Prop := ∃ (o : Obj) (its : Array Value) (n : Nat), K.lookup a = some o ∧ o.cls = .type "list" ∧ o.dict = none ∧ o.data = .seq its n ∧ its.size ≤ sizeLine ∧ Vals (ns.map V.int) its.toList
theorem reps_ints {cA : Nat → Addr} {G : Hp} : ∀ ns : List Int, Reps cA G (ns.map V.int) (ns.map D.int)
  | [] => .nil
  | n :: ns => .cons (.int n) (reps_ints ns)
/-- script + [..] -/
@[simp] def dScrAdd (K : PySem.W.Frag) (ta tb : DTE) (ρ : R) (μ : M) (Q : W → M → Prop) : Prop := ta ρ μ fun x μ1 => tb ρ μ1 fun y μ2 => match x with
  | .r n => match μ2[n]? with
    | some (.scr ns S) => match rs μ2 y with
      | some (.lst ds) => S = scrK K ns ∧ ns.length + ds.length ≤ sizeLine ∧ Q (.d (.lst (ns.map D.int ++ ds))) μ2
      | _ => False
    | _ => False
  | _ => False
theorem de_scrAdd (ha : DE X b e1 ta) (hb : DE X b e2 tb) : DE X b (.BinOp e1 .Add e2 pos) (dScrAdd X.K ta tb) := by
  obtain ⟨ta', pa, qa⟩ := ha.ex
  obtain ⟨tb', pb, qb⟩ := hb.ex
  refine ⟨_, pe_op op_catS pa pb, fun {G m ρ μ σ H Q K} o r t k => ?_⟩
  refine qa o r t fun x H1 G1 m1 w1 μ1 l1 o1 r1 t1 => ?_
  refine qb o1 (r.mono l1) t1 fun y H2 G2 m2 w2 μ2 l2 o2 r2 t2 => ?_
  split at t2
  · rename_i n
    split at t2
    · rename_i ns S hc
      split at t2
      · rename_i ds e
        obtain ⟨rfl, t2⟩ := t2
        cases r1 with
        | @r _ q as em =>
        obtain ⟨q', f1, f2⟩ := o2.rel.cell n _ _ hc (l2.m _ _ em)
        cases f1
        have sq : SqL X.K H2 q (ns.map V.int) := f2.elim (fun ⟨o, e⟩ => .inl (.inr ⟨o, o2.rel.gh _ _ e⟩)) fun e => .inr e
        obtain ⟨c, zs, rfl, h1, h2⟩ := rs_ok o2.rel r2 e
        refine ⟨q, c, _, zs, rfl, rfl, sq, h1, by rw [List.length_map, h2.len]; exact t2.1, fun p hp => ?_⟩
        have hg := (o2.rel.new hp).1
        have l4 : Le G2 m2 (upd G2 p (.lst (ns.map V.int ++ zs))) m2 := Le.know hg
        exact k _ _ _ m2 _ μ2 ((l1.trans l2).trans l4) (o2.mono l4 (o2.rel.know hp)) (.d (.lst upd_same (((reps_ints ns).app h2).mono l4.g))) t2.2
      · exact t2.elim
    · exact t2.elim
  · exact t2.elim
end
end DD
namespace DD
open PySem L2
/-! ### strings by literals -/
@[simp] theorem ofStr_inj {a b : String} : (Str.ofString a = Str.ofString b) ↔ a = b := by
  constructor
  · intro h
    rw [Str.ofString_eq_toList, Str.ofString_eq_toList] at h
    have h1 : a.toList.map Char.toNat = b.toList.map Char.toNat := by simpa using h
    have inj : Function.Injective Char.toNat := fun x y e => Char.ext (UInt32.toNat_inj.mp e)
    exact String.toList_inj.mp ((List.map_inj_right (fun x y e => inj e)).mp h1)
  · rintro rfl; rfl
@[simp] theorem ofStr_beq {a b : String} : (Str.ofString a == Str.ofString b) = decide (a = b) := by
  by_cases h : a = b
  · subst h; simp
  · have : ¬ Str.ofString a = Str.ofString b := fun e => h (ofStr_inj.mp e)
    simp [h, this]
theorem strOk_lit (a : String) : PyData.strOk (Str.ofString a) = true := by
  rw [Str.ofString_eq_toList]
  simp only [PyData.strOk, List.all_toArray, List.all_eq_true, decide_eq_true_eq]
  intro n hn
  obtain ⟨c, _, rfl⟩ := List.mem_map.mp hn
  have := c.valid
  rcases this with h | ⟨_, h⟩
  · have : c.toNat < 0xd800 := h
    omega
  · have : c.toNat < 0x110000 := h
    omega
@[simp] theorem okD_lit (a : String) (n : Nat) : okD n (.str (Str.ofString a)) = true := by
  cases n <;> exact strOk_lit a
/-! ### calls -/
section
variable {S : FS} {ws : List W} {μ : M} {Q : W → M → Prop} {xc : Exc → M → Prop}
theorem ren_id : ∀ {ws : List W} {js : List Nat}, ws.flatMap refsW = [] → ws.map (ren js) = ws
  | [], _, _ => rfl
  | .d d :: ws, js, h => by
    simp only [List.flatMap_cons, refsW, List.nil_append] at h
    rw [List.map_cons, ren_id h]
    rfl
  | .r n :: ws, js, h => by simp [refsW] at h
/-- only data is handed over -/
theorem call0 (hw : ws.flatMap refsW = []) (h : S ws [] fun r μ2 => match r with
      | .ret w => Q (th [] μ.length w) (μ ++ μ2.map (renC (th [] μ.length)))
      | .exc e => xc e (μ ++ μ2.map (renC (th [] μ.length)))) : callS S ws μ Q xc := by
  unfold callS
  rw [hw]
  have e : reach μ 60 [] [] = [] := rfl
  rw [e, ren_id hw]
  refine ⟨by unfold okJs; rw [hw]; rfl, ?_⟩
  have e2 : cellsOf μ [] = [] := rfl
  rw [e2]
  have e3 : ∀ μ2 : M, merge μ [] μ2 = μ ++ μ2.map (renC (th [] μ.length)) := fun μ2 => by simp [merge, setAll]
  have e4 : (fun (r : Res) (μ2 : M) => ([] : List Nat).length ≤ μ2.length ∧ match r with
      | .ret w => Q (th [] μ.length w) (merge μ [] μ2)
      | .exc e => xc e (merge μ [] μ2)) = fun r μ2 => match r with
      | .ret w => Q (th [] μ.length w) (μ ++ μ2.map (renC (th [] μ.length)))
      | .exc e => xc e (μ ++ μ2.map (renC (th [] μ.length))) := by
    funext r μ2
    cases r <;> simp [e3]
  exact e4 ▸ h
/-- one cell is handed over, of data -/
theorem call1 {n : Nat} {c : Cell} (hn : μ[n]? = some c) (hc : refsC c = []) (hw : ∀ k ∈ ws.flatMap refsW, k = n) (hne : ws.flatMap refsW ≠ []) (h : S (ws.map (ren [n])) [renC (ren [n]) c] fun r μ2 => 1 ≤ μ2.length ∧ match r with
      | .ret w => Q (th [n] μ.length w) (merge μ [n] μ2)
      | .exc e => xc e (merge μ [n] μ2)) : callS S ws μ Q xc := by
  have hlt : n < μ.length := (List.getElem?_eq_some_iff.mp hn).1
  have step : ∀ (f : Nat) (l : List Nat), (∀ k ∈ l, k = n) → reach μ f l [n] = [n] := fun f => by
    induction f with
    | zero => intro l _; rfl
    | succ f ih =>
      intro l hl
      match l, hl with
      | [], _ => rfl
      | k :: t, hl =>
        have : k = n := hl k (List.mem_cons_self ..)
        subst this
        show (if [k].contains k then reach μ f t [k] else _) = _
        rw [if_pos (by simp)]
        exact ih t fun j hj => hl j (List.mem_cons_of_mem _ hj)
  have e : reach μ 60 (ws.flatMap refsW) [] = [n] := by
    generalize hl : ws.flatMap refsW = l at hw hne
    match l, hw, hne with
    | k :: t, hw, _ =>
      have : k = n := hw k (List.mem_cons_self ..)
      subst this
      show (if ([] : List Nat).contains k then _ else reach μ 59 ((match μ[k]? with
        | some c => refsC c
        | none => []) ++ t) ([] ++ [k])) = _
      rw [if_neg (by simp), hn]
      simp only [hc, List.nil_append]
      exact step 59 t fun j hj => hw j (List.mem_cons_of_mem _ hj)
  unfold callS
  rw [e]
  refine ⟨?_, ?_⟩
  · unfold okJs
    simp only [Bool.and_eq_true, List.all_eq_true, decide_eq_true_eq, List.contains_iff_mem]
    refine ⟨⟨⟨by simp, fun j hj => ?_⟩, fun k hk => by simp [hw k hk]⟩, fun j hj => ?_⟩
    · rw [List.mem_singleton.mp hj]; exact hlt
    · rw [List.mem_singleton.mp hj, hn]
      simp [hc]
  · have e2 : cellsOf μ [n] = [renC (ren [n]) c] := by simp [cellsOf, hn]
    rw [e2]
    exact h
theorem merge1 {n : Nat} {c : Cell} : merge μ [n] [c] = μ.set n (renC (th [n] μ.length) c) := by simp [merge, setAll]
theorem merge1l {n : Nat} {ds : List D} : merge μ [n] [.lst ds] = μ.set n (.lst ds) := merge1
end
end DD
namespace DD
open PySem L2
/-! ### calls by a form of their own -/
abbrev CF1 := List W → M → (W → M → Prop) → (Exc → M → Prop) → Prop
@[simp] def dApp (c : CF1) (xc : Exc → M → Prop) (ta : DTA) (ρ : R) (μ : M) (Q : W → M → Prop) : Prop := ta ρ μ fun ws μ1 => c ws μ1 Q xc
abbrev CF0 := W → M → (W → M → Prop) → (Exc → M → Prop) → Prop
@[simp] def dAppM (c : CF0) (xc : Exc → M → Prop) (to : DTE) (ρ : R) (μ : M) (Q : W → M → Prop) : Prop := to ρ μ fun w μ1 => c w μ1 Q xc
section
variable {X : Cx} {b : Bs} {e : Expr} {ta : DTA} {to t t' : DTE} {S : FS} {c : Nat}
theorem DE.weak (h : DE X b e t) (hle : ∀ ρ μ Q, t' ρ μ Q → t ρ μ Q) : DE X b e t' := by
  obtain ⟨te, p, q⟩ := h.ex
  exact ⟨te, p, fun {G m ρ μ σ H Q K} o r t k => q o r (hle _ _ _ t) k⟩
/-- any reading bears more at its end, once closed under that -/
theorem DA.up {es : List Expr} (h : DA X b es ta) : DA X b es (fun ρ μ Q => ∃ Q', (∀ ws μ, Q' ws μ → Q ws μ) ∧ ta ρ μ Q') := by
  obtain ⟨te, p, q⟩ := h.ex
  exact ⟨te, p, fun {G m ρ μ σ H Q K} o r t k => by
    obtain ⟨Q', hq, t⟩ := t
    exact q o r t fun vs H' G' m' ws μ' l o' r' z => k vs H' G' m' ws μ' l o' r' (hq _ _ z)⟩
theorem DE.up (h : DE X b e t) : DE X b e (fun ρ μ Q => ∃ Q', (∀ w μ, Q' w μ → Q w μ) ∧ t ρ μ Q') := by
  obtain ⟨te, p, q⟩ := h.ex
  exact ⟨te, p, fun {G m ρ μ σ H Q K} o r t k => by
    obtain ⟨Q', hq, t⟩ := t
    exact q o r t fun v H' G' m' w μ' l o' r' z => k v H' G' m' w μ' l o' r' (hq _ _ z)⟩
variable {pos p apos : Pos} {o : Expr} {es : List Expr} {x m : Str} {j k : Nat} {f : CF1} {f0 : CF0}
/-- a call by the form f of its contract -/
theorem de_calF (hle : ∀ {ws : List W} {μ : M} {Q : W → M → Prop} {xc : Exc → M → Prop}, f ws μ Q xc → callS S ws μ Q xc) (h : Cal X.prog X.w X.K X.mg X.base b.cA x k S) (hr : Room j X.A) (hj : k ≤ j) (hx : XOk X b) (ha : DA X b (e :: es) ta) (hg : Gl X x)
    (hdb : (x == ("__debug__" : Str)) = false := by decide) (he : starEach (e :: es) X.env = (false, eval e X.env) :: starEach es X.env := by rfl) (hpl : (backTo pos (starEach es X.env)).any (·.1) = false := by rfl) :
    DE X b (.Call (.Name x p) (e :: es) [] pos) (dApp f b.xc ta) :=
  (de_cal h hr hj hx ha.up hg hdb he hpl).weak fun ρ μ Q t => ⟨_, fun ws μ z => hle z, t⟩
def fMk (S : FS) (c : Nat) (fin : Nat → M → (W → M → Prop) → Prop) (ws : List W) (μ : M) (Q : W → M → Prop) (xc : Exc → M → Prop) : Prop := callS S (.r μ.length :: ws) (μ ++ [.ins c [] []]) (fun w μ2 => w = .d .non ∧ fin μ.length μ2 Q) xc
theorem de_mkDF (hle : ∀ {ws : List W} {μ : M} {Q : W → M → Prop} {xc : Exc → M → Prop}, f ws μ Q xc → fMk S c finD ws μ Q xc) (h : Mkc X.prog X.w X.K X.mg X.base b.cA x c k S) (hr : Room j X.A) (hj : k + 1 ≤ j) (hx : XOk X b) (ha : DA X b (e :: es) ta) (hg : Gl X x)
    (hdb : (x == ("__debug__" : Str)) = false := by decide) (he : starEach (e :: es) X.env = (false, eval e X.env) :: starEach es X.env := by rfl) (hpl : (backTo pos (starEach es X.env)).any (·.1) = false := by rfl) :
    DE X b (.Call (.Name x p) (e :: es) [] pos) (dApp f b.xc ta) :=
  (de_mkD h hr hj hx ha.up hg hdb he hpl).weak fun ρ μ Q t => ⟨_, fun ws μ z => hle z, t⟩
theorem de_mkMF (hle : ∀ {ws : List W} {μ : M} {Q : W → M → Prop} {xc : Exc → M → Prop}, f ws μ Q xc → fMk S c finM ws μ Q xc) (h : Mkc X.prog X.w X.K X.mg X.base b.cA x c k S) (hr : Room j X.A) (hj : k + 1 ≤ j) (hx : XOk X b) (ha : DA X b (e :: es) ta) (hg : Gl X x)
    (hdb : (x == ("__debug__" : Str)) = false := by decide) (he : starEach (e :: es) X.env = (false, eval e X.env) :: starEach es X.env := by rfl) (hpl : (backTo pos (starEach es X.env)).any (·.1) = false := by rfl) :
    DE X b (.Call (.Name x p) (e :: es) [] pos) (dApp f b.xc ta) :=
  (de_mkM h hr hj hx ha.up hg hdb he hpl).weak fun ρ μ Q t => ⟨_, fun ws μ z => hle z, t⟩
def fMe (tab : List (Nat × FS)) (m : Str) (w : W) (μ : M) (Q : W → M → Prop) (xc : Exc → M → Prop) : Prop := match insOf μ w with
  | some (c, fs, _) => m ∉ fs ∧ ∃ S, tab.lookup c = some S ∧ callS S [w] μ Q xc
  | none => False
theorem de_meF {pl : Sem Bool} {tab : List (Nat × FS)} (hle : ∀ {w : W} {μ : M} {Q : W → M → Prop} {xc : Exc → M → Prop}, f0 w μ Q xc → fMe tab m w μ Q xc) (hx : XOk X b) (hT : ∀ q ∈ tab, MetOk X b m q.1 q.2) (ho : DE X b o to)
    (ht : eval (.Call (.Attribute o m apos) [] [] pos) X.env = (do
      let ov ← eval o X.env
      standAt apos.atName
      let (f, first) ← holding [ov] (getMethod ov m pl)
      callWith pos f first (backTo pos (starEach [] X.env)) (backToKw pos (keywordEach [] X.env))) := by rfl) : DE X b (.Call (.Attribute o m apos) [] [] pos) (dAppM f0 b.xc to) :=
  (de_meth0 (pl := pl) hx hT ho.up ht).weak fun ρ μ Q t => ⟨_, fun w μ z => hle z, t⟩
end
/-! ### forms of contracts -/
section
variable {S : FS} {ws : List W} {μ : M} {Q : W → M → Prop} {xc : Exc → M → Prop} {c : Nat}
theorem unD_map : ∀ {ws : List W} {ds : List D}, unD ws = some ds → ws = ds.map W.d
  | [], ds, h => by simp [unD] at h; subst h; rfl
  | .d d :: ws, ds, h => by
    simp only [unD, Option.map_eq_some_iff] at h
    obtain ⟨es, h1, rfl⟩ := h
    rw [unD_map h1]
    rfl
  | .r n :: ws, ds, h => by simp [unD] at h
theorem refs_map : ∀ ds : List D, (ds.map W.d).flatMap refsW = []
  | [] => rfl
  | d :: ds => by simp [refsW]
theorem unD_ofmap : ∀ ds : List D, unD (ds.map W.d) = some ds
  | [] => rfl
  | d :: ds => by simp [unD, unD_ofmap ds]
theorem ren_map {js : List Nat} (ds : List D) : (ds.map W.d).map (ren js) = ds.map W.d := ren_id (refs_map ds)
theorem th_map {js : List Nat} {n : Nat} (ds : List D) : (ds.map W.d).map (th js n) = ds.map W.d := by
  induction ds with
  | nil => rfl
  | cons d ds ih => simp only [List.map_cons, ih]; rfl
/-- __init__ stores its arguments in the fields fs -/
def S_mk (c : Nat) (fs : List Str) : FS := fun ws μ P => ∃ ds : List D, ws = .r 0 :: ds.map W.d ∧ ds.length = fs.length ∧ μ = [.ins c [] []] ∧ P (.ret (.d .non)) [.ins c fs (ds.map W.d)]
/-- an object of class c is made of these fields -/
def fObj (c : Nat) (fs : List Str) (ws : List W) (μ : M) (Q : W → M → Prop) (_xc : Exc → M → Prop) : Prop := match unD ws with
  | some ds => ds.length = fs.length ∧ closedB μ.length μ = true ∧ Q (.d (.obj c fs ds)) μ
  | none => False
theorem finD_ins {fs : List Str} {ds : List D} (hc : closedB μ.length μ = true) (h : Q (.d (.obj c fs ds)) μ) : finD μ.length (μ ++ [.ins c fs (ds.map W.d)]) Q := by
  have e : esc (μ ++ [.ins c fs (ds.map W.d)]) (.r μ.length) = some (.obj c fs ds, μ ++ [.frz (.obj c fs ds)]) := by
    simp [esc, esc0, unD_ofmap]
  unfold finD
  rw [e]
  simpa [hc] using h
theorem le_mk {fs : List Str} (h : fObj c fs ws μ Q xc) : fMk (S_mk c fs) c finD ws μ Q xc := by
  unfold fObj at h
  split at h
  · rename_i ds e
    have := unD_map e
    subst this
    obtain ⟨hl, hc, hq⟩ := h
    refine call1 (n := μ.length) (c := .ins c [] []) (by simp) rfl (by simp [refsW]) (by simp [refsW]) ⟨ds, ?_, hl, rfl, ⟨by simp, ?_⟩⟩
    · rw [List.map_cons, ren_map]
      simp [ren]
    · show (W.d .non) = .d .non ∧ finD μ.length (merge (μ ++ [.ins c [] []]) [μ.length] [.ins c fs (ds.map W.d)]) Q
      rw [merge1]
      refine ⟨rfl, ?_⟩
      have e2 : (μ ++ [Cell.ins c [] []]).set μ.length (renC (th [μ.length] (μ ++ [Cell.ins c [] []]).length) (.ins c fs (ds.map W.d))) = μ ++ [.ins c fs (ds.map W.d)] := by
        simp only [renC, th_map]
        simp
      rw [e2]
      exact finD_ins hc hq
  · exact h.elim
/-- two cells are handed over, of data -/
theorem call2 {n k : Nat} {c d : Cell} (hn : μ[n]? = some c) (hk : μ[k]? = some d) (hnk : n ≠ k) (hc : refsC c = []) (hd : refsC d = []) (hw : ws.flatMap refsW = [n, k]) (h : S (ws.map (ren [n, k])) [renC (ren [n, k]) c, renC (ren [n, k]) d] fun r μ2 => 2 ≤ μ2.length ∧ match r with
      | .ret w => Q (th [n, k] μ.length w) (merge μ [n, k] μ2)
      | .exc e => xc e (merge μ [n, k] μ2)) : callS S ws μ Q xc := by
  have l1 : n < μ.length := (List.getElem?_eq_some_iff.mp hn).1
  have l2 : k < μ.length := (List.getElem?_eq_some_iff.mp hk).1
  have e : reach μ 60 [n, k] [] = [n, k] := by
    show (if ([] : List Nat).contains n then _ else reach μ 59 ((match μ[n]? with
        | some c => refsC c
        | none => []) ++ [k]) ([] ++ [n])) = _
    rw [if_neg (by simp), hn]
    simp only [hc, List.nil_append]
    show (if [n].contains k then _ else reach μ 58 ((match μ[k]? with
        | some c => refsC c
        | none => []) ++ []) ([n] ++ [k])) = _
    rw [if_neg (by simpa using fun h => hnk h.symm), hk]
    simp only [hd, List.nil_append]
    rfl
  unfold callS
  rw [hw, e]
  refine ⟨?_, ?_⟩
  · unfold okJs
    rw [hw]
    simp only [Bool.and_eq_true, List.all_eq_true, decide_eq_true_eq, List.contains_iff_mem]
    refine ⟨⟨⟨by simpa using hnk, fun j hj => ?_⟩, fun k hk => hk⟩, fun j hj => ?_⟩
    · rcases List.mem_cons.mp hj with rfl | hj
      · exact l1
      · rw [List.mem_singleton.mp hj]; exact l2
    · rcases List.mem_cons.mp hj with rfl | hj
      · rw [hn]; simp [hc]
      · rw [List.mem_singleton.mp hj, hk]; simp [hd]
  · have e2 : cellsOf μ [n, k] = [renC (ren [n, k]) c, renC (ren [n, k]) d] := by simp [cellsOf, hn, hk]
    rw [e2]
    exact h
theorem merge2 {n k : Nat} {c d : Cell} : merge μ [n, k] [c, d] = (μ.set n (renC (th [n, k] μ.length) c)).set k (renC (th [n, k] μ.length) d) := by simp [merge, setAll]
end
/-! ### comprehensions and loops by what they keep -/
section
variable {mu : Bool} {ti : DTI} {g : DTG} {tt : DTT} {te : DTE} {vs : List Nat} {ρ : R} {μ : M} {Q : W → M → Prop}
/-- behind the walked thing -/
def lcB (mu : Bool) (s : Src) (g : DTG) (tt : DTT) (te : DTE) (vs : List Nat) (ρ : R) (μ1 : M) (Q : W → M → Prop) : Prop := ∃ P : Nat → List D → M → Prop, P 0 [] μ1 ∧
  (∀ i acc μ', i ≤ s.items.length → P i acc μ' → s.ok (μ' ++ [.lst acc])) ∧
  (∀ i w acc μ', s.items[i]? = some w → P i acc μ' → acc.length < sizeLine ∧ g w (wipeR ρ vs) (μ' ++ [.lst acc]) fun ρ2 μ2 => tt ρ2 μ2 fun c μ3 =>
    if c = true then te ρ2 μ3 fun w μ4 => match esc μ4 w with
      | some (d', μ5) => closeL μ'.length acc μ5 ∧ P (i + 1) (acc ++ [d']) μ5.dropLast
      | none => False
    else closeL μ'.length acc μ3 ∧ P (i + 1) acc μ3.dropLast) ∧
  ∀ acc μ', P s.items.length acc μ' → if mu then Q (.r μ'.length) (μ' ++ [.lst acc]) else Q (.d (.lst acc)) μ'
theorem dLc_eq : dLc mu ti g tt te vs ρ μ Q = ti ρ μ fun s μ1 => lcB mu s g tt te vs ρ μ1 Q := rfl
theorem closeL_app {n : Nat} {acc : List D} {c : Cell} : closeL n acc (μ ++ [c]) ↔ (μ.length = n ∧ c = .lst acc ∧ closedB n μ = true) := by
  unfold closeL
  simp
/-- behind the element -/
abbrev lcE (te : DTE) (K : D → M → Prop) (N : M → Prop) (ρ2 : R) (c : Bool) (μ3 : M) : Prop := if c = true then te ρ2 μ3 fun w μ4 => match esc μ4 w with
    | some (d', μ5) => K d' μ5
    | none => False
  else N μ3
theorem take_fm {α β : Type} (f : α → Option β) {l : List α} {i : Nat} {a : α} (h : l[i]? = some a) : (l.take (i + 1)).filterMap f = (l.take i).filterMap f ++ (f a).toList := by
  rw [List.take_succ, h, List.filterMap_append]
  cases e : f a <;> simp [e]
/-- each item gives an element or none, nothing else happens -/
theorem lc_fm {s : Src} (f : W → Option D) (hok : ∀ acc, s.ok (μ ++ [.lst acc])) (hc : closedB μ.length μ = true) (hz : s.items.length ≤ sizeLine)
    (hstep : ∀ w ∈ s.items, ∀ acc (K : D → M → Prop) (N : M → Prop), (match f w with
        | some d => K d (μ ++ [.lst acc])
        | none => N (μ ++ [.lst acc])) → g w (wipeR ρ vs) (μ ++ [.lst acc]) fun ρ2 μ2 => tt ρ2 μ2 fun c μ3 => lcE te K N ρ2 c μ3)
    (hQ : if mu then Q (.r μ.length) (μ ++ [.lst (s.items.filterMap f)]) else Q (.d (.lst (s.items.filterMap f))) μ) : lcB mu s g tt te vs ρ μ Q := by
  refine ⟨fun i acc μ' => μ' = μ ∧ acc = (s.items.take i).filterMap f, ⟨rfl, by simp⟩, fun i acc μ' _ h => by rw [h.1]; exact hok acc, fun i w acc μ' e h => ?_, fun acc μ' h => ?_⟩
  · obtain ⟨rfl, rfl⟩ := h
    have hi := (List.getElem?_eq_some_iff.mp e).1
    refine ⟨?_, hstep w (List.mem_of_getElem? e) _ (fun d' μ5 => closeL μ'.length ((s.items.take i).filterMap f) μ5 ∧ μ5.dropLast = μ' ∧ (s.items.take i).filterMap f ++ [d'] = (s.items.take (i + 1)).filterMap f) (fun μ3 => closeL μ'.length ((s.items.take i).filterMap f) μ3 ∧ μ3.dropLast = μ' ∧ (s.items.take i).filterMap f = (s.items.take (i + 1)).filterMap f) ?_⟩
    · have h1 := List.length_filterMap_le f (s.items.take i)
      rw [List.length_take] at h1
      omega
    · rw [take_fm f e]
      cases e2 : f w with
      | some d => exact ⟨closeL_app.mpr ⟨rfl, rfl, hc⟩, by simp, by simp⟩
      | none => exact ⟨closeL_app.mpr ⟨rfl, rfl, hc⟩, by simp, by simp⟩
  · obtain ⟨rfl, rfl⟩ := h
    rw [List.take_length]
    exact hQ
/-- the source of the law's numbers -/
def src (a b c : Int) : List D := [.int a, .int b, .int c]
/-- each item gives an element that is good, the source goes on -/
theorem lc_src {s : Src} {rest : M} {a b c : Int} (good : Nat → D → Prop) (hc : closedB (rest.length + 1) rest = true) (hz : s.items.length ≤ sizeLine) (hok : ∀ a b c acc, s.ok (.lst (src a b c) :: rest ++ [.lst acc]))
    (hstep : ∀ i w, s.items[i]? = some w → ∀ a b c acc (K : D → M → Prop) (N : M → Prop), (∀ d a' b' c', good i d → K d (.lst (src a' b' c') :: rest ++ [.lst acc])) →
      g w (wipeR ρ vs) (.lst (src a b c) :: rest ++ [.lst acc]) fun ρ2 μ2 => tt ρ2 μ2 fun c μ3 => lcE te K N ρ2 c μ3)
    (hQ : ∀ ds a b c, ds.length = s.items.length → (∀ i d, ds[i]? = some d → good i d) → if mu then Q (.r (rest.length + 1)) (.lst (src a b c) :: rest ++ [.lst ds]) else Q (.d (.lst ds)) (.lst (src a b c) :: rest)) :
    lcB mu s g tt te vs ρ (.lst (src a b c) :: rest) Q := by
  refine ⟨fun i acc μ' => (∃ a b c, μ' = .lst (src a b c) :: rest) ∧ acc.length = i ∧ ∀ j d, acc[j]? = some d → good j d, ⟨⟨a, b, c, rfl⟩, rfl, fun j d h => by simp at h⟩, fun i acc μ' _ h => ?_, fun i w acc μ' e h => ?_, fun acc μ' h => ?_⟩
  · obtain ⟨⟨a, b, c, rfl⟩, _⟩ := h
    exact hok a b c acc
  · obtain ⟨⟨a, b, c, rfl⟩, rfl, hg⟩ := h
    have hi := (List.getElem?_eq_some_iff.mp e).1
    refine ⟨by omega, ?_⟩
    refine hstep _ w e a b c acc (fun d' μ5 => closeL (Cell.lst (src a b c) :: rest).length acc μ5 ∧ (∃ a b c, μ5.dropLast = .lst (src a b c) :: rest) ∧ (acc ++ [d']).length = acc.length + 1 ∧ ∀ j d, (acc ++ [d'])[j]? = some d → good j d)
      (fun μ3 => closeL (Cell.lst (src a b c) :: rest).length acc μ3 ∧ (∃ a b c, μ3.dropLast = .lst (src a b c) :: rest) ∧ acc.length = acc.length + 1 ∧ ∀ j d, acc[j]? = some d → good j d) fun d a' b' c' hd => ?_
    refine ⟨closeL_app.mpr ⟨by simp, rfl, by simpa [closedB, closedC] using hc⟩, ⟨a', b', c', by rw [List.dropLast_concat]⟩, by simp, fun j x hj => ?_⟩
    by_cases hlt : j < acc.length
    · rw [List.getElem?_append_left hlt] at hj
      exact hg j x hj
    · have : j = acc.length := by
        have := (List.getElem?_eq_some_iff.mp hj).1
        simp at this
        omega
      subst this
      simp at hj
      subst hj
      exact hd
  · obtain ⟨⟨a, b, c, rfl⟩, hl, hg⟩ := h
    have := hQ acc a b c hl hg
    exact this
end
/-! ### what the simplifier leaves alone -/
section
variable {mu : Bool} {ti : DTI} {g : DTG} {tt c : DTT} {te : DTE} {t : DTS} {vs : List Nat} {ρ : R} {μ : M} {Q : W → M → Prop} {s : Src} {D : DEnds}
theorem dLc_congr : dLc mu ti g tt te vs ρ μ Q = dLc mu ti g tt te vs ρ μ Q := rfl
theorem lcB_congr : lcB mu s g tt te vs ρ μ Q = lcB mu s g tt te vs ρ μ Q := rfl
theorem dFor_congr : dFor ti g t D ρ μ = dFor ti g t D ρ μ := rfl
theorem dWhile_congr : dWhile c t D ρ μ = dWhile c t D ρ μ := rfl
/-- behind the walked thing of a for -/
def forB (s : Src) (g : DTG) (t : DTS) (D : DEnds) (ρ : R) (μ1 : M) : Prop := ∃ P : Nat → R → M → Prop, P 0 ρ μ1 ∧
  (∀ i ρ' μ', i ≤ s.items.length → P i ρ' μ' → s.ok μ') ∧
  (∀ i w ρ' μ', s.items[i]? = some w → P i ρ' μ' → g w ρ' μ' fun ρ2 μ2 => t { D with nx := P (i + 1), ct := P (i + 1), bk := D.nx } ρ2 μ2) ∧
  (∀ ρ' μ', P s.items.length ρ' μ' → D.nx ρ' μ')
theorem dFor_eq : dFor ti g t D ρ μ = ti ρ μ fun s μ1 => forB s g t D ρ μ1 := rfl
theorem forB_congr : forB s g t D ρ μ = forB s g t D ρ μ := rfl
def isIn (ds : List DD.D) (d : DD.D) : Prop := d ∈ ds
end
end DD
namespace DD
open PySem L2
/-! ### sorted -/
section
variable {prog : Program} {w : World} {A : Around} {E : Value → Shared → Prop} {s : Shared}
open PySem.Spec PyProof.Rows SrtO in
theorem collect_tup {l : Addr} {vs : List Value} {Q : List Value → Shared → Prop} (hl : s.heap.IsTuple l vs.toArray)
    (h : Q vs { s with heap := (s.heap.push (seqObj "list" #[] 0)).update s.heap.objs.size (Obj.mapSeq (· ++ vs.toArray)) }) (hsz : vs.length ≤ sizeLine) :
    wpAny (model prog w) A (collect (.ref l)) Q E s := by
  obtain ⟨o, ho, hc, n, hd⟩ := id hl
  unfold collect
  refine wpAny_bind (wpAny_runValue (codeAny_builtin PyProof.Rows.entry_proto_collect' ?_))
  show wpAny _ _ (do again (.builtin "list.__iadd__" ⟨[← newList [], .ref l], []⟩)) _ _ s
  refine wpAny_bind (wpAny_newList (wpAny_pure ⟨Code.quiet_builtin _ (by decide +kernel), codeAny_builtin PyProof.Rows.entry_list_iadd' ?_⟩))
  show wpAny _ _ (Builtin.List.listExtendWith (.ref s.heap.objs.size) (.ref l) (.ref s.heap.objs.size)) _ _ { s with heap := s.heap.push (seqObj "list" #[] 0) }
  unfold Builtin.List.listExtendWith
  have ho' : (s.heap.push (seqObj "list" #[] 0)).get? l = some o := Heap.get?_push_of_some _ ho
  refine wpAny_bind (wpAny_typeOf (T := "tuple") ⟨o, ho', hc⟩ ?_)
  have ht : (Value.type "tuple" == Value.type "tuple") = true := by rfl
  rw [if_pos (by rw [ht]; simp)]
  refine wpAny_bind (listItems_at ho' hd ?_)
  refine wpAny_bind (listItems_at (xs := #[]) (n := 0) (Heap.get?_push_size _ rfl) rfl ?_)
  rw [if_neg (by simp)]
  refine wpAny_bind (listUpdate_at (xs := #[]) (n := 0) (Heap.get?_push_size _ rfl) rfl ?_ (Nat.zero_le _) (by show (#[] ++ vs.toArray).size ≤ sizeLine + 1; simp only [Array.size_append, List.size_toArray, List.length_nil]; omega))
  refine wpAny_pure ?_
  show wpAny (model prog w) A (do
      let o ← load s.heap.objs.size
      match o.data with
      | .seq xs _ => pure xs.toList
      | _ => unsupported "internal:collect") Q E { s with heap := (s.heap.push (seqObj "list" #[] 0)).update s.heap.objs.size (Obj.mapSeq (· ++ vs.toArray)) }
  refine wpAny_bind (wpAny_load (get?_update_seq (Heap.get?_push_size _ rfl) _) ?_)
  show wpAny _ _ (pure ((#[] : Array Value) ++ vs.toArray).toList) Q E _
  rw [show ((#[] : Array Value) ++ vs.toArray).toList = vs by simp]
  exact wpAny_pure h
/-- sorted(l) of a list or a tuple -/
def LT (s : Shared) (l : Addr) (vs : List Value) : Prop := s.heap.IsList l vs.toArray ∨ s.heap.IsTuple l vs.toArray
open PySem.Spec PyProof.Rows SrtO in
theorem sorted_ordLT {l : Addr} {vs : List Value} {ltv : Value → Value → Bool} {Q : Value → Shared → Prop} (O : Swo ltv) (hl : LT s l vs) (hz : vs.length ≤ sizeLine)
    (hS : 2 ≤ vs.length → ∀ (h₁ : Heap) (a : Addr), h₁.get? a = some (seqObj "list" vs.toArray 0) → (∀ b o, s.heap.get? b = some o → b ≠ a ∧ h₁.get? b = some o) → SortableO prog w A.in1.in1 { s with heap := h₁ } a vs ltv)
    (h : ∀ out : List Value, Srtd ltv out → Stb ltv out vs → Q (.ref (s.heap.objs.size + 1)) { s with heap := sortedAll s.heap vs out.toArray }) :
    wpAny (model prog w) A (call (.builtin "sorted") [.ref l]) Q E s := by
  rcases hl with hl | hl
  · exact sorted_ord O hl hz hS h
  refine Calls.call_function_entry kind_sorted plain_sorted entry_sorted (args_sorted1 _) ?_
  unfold Builtin.«sorted»
  refine wpAny_bind (m := checkCount "sorted" 1 1 _) (wpAny_pure ?_)
  refine wpAny_bind (collect_tup hl ?_ hz)
  refine wpAny_bind (wpAny_newList ?_ hz)
  have hsz : ((s.heap.push (seqObj "list" #[] 0)).update s.heap.objs.size (Obj.mapSeq (· ++ vs.toArray))).objs.size = s.heap.objs.size + 1 := by
    rw [Heap.size_update, size_push']
  have hoL : (((s.heap.push (seqObj "list" #[] 0)).update s.heap.objs.size (Obj.mapSeq (· ++ vs.toArray))).push (seqObj "list" vs.toArray 0)).get? (s.heap.objs.size + 1) = some (seqObj "list" vs.toArray 0) := by
    rw [← hsz]; exact Heap.get?_push_size _ rfl
  have keep : ∀ b o, s.heap.get? b = some o → b ≠ s.heap.objs.size + 1 ∧ (((s.heap.push (seqObj "list" #[] 0)).update s.heap.objs.size (Obj.mapSeq (· ++ vs.toArray))).push (seqObj "list" vs.toArray 0)).get? b = some o := fun b o q => by
    have hlt : b < s.heap.objs.size := Heap.lt_size q
    refine ⟨Nat.ne_of_lt (Nat.lt_succ_of_lt hlt), Heap.get?_push_of_some _ ?_⟩
    rw [Heap.get?_update_ne _ _ _ _ (Nat.ne_of_lt hlt)]
    exact Heap.get?_push_of_some _ q
  show wpAny _ _ _ _ _ { s with heap := ((s.heap.push (seqObj "list" #[] 0)).update s.heap.objs.size (Obj.mapSeq (· ++ vs.toArray))).push (seqObj "list" vs.toArray 0) }
  rw [hsz]
  refine wpAny_bind (wpAny_holding (wpAny_call_entry slot_list_sort ⟨_, hoL, rfl⟩ entry_list_sort (list_sort_ord O hoL hz (fun h2 => hS h2 _ _ hoL keep) fun out hs hb => ⟨_, rfl, ?_⟩) (args_list_sort _)))
  exact wpAny_pure ⟨_, rfl, h out hs hb⟩
end
/-- tuples of ints, by their first difference, then by their length -/
def lexI : List Int → List Int → Bool
  | [], [] => false
  | [], _ :: _ => true
  | _ :: _, [] => false
  | a :: as, b :: bs => if a = b then lexI as bs else decide (a < b)
theorem lexI_irr : ∀ a : List Int, lexI a a = false
  | [] => rfl
  | a :: as => by simp [lexI, lexI_irr as]
theorem lexI_asym : ∀ a b : List Int, lexI a b = true → lexI b a = false
  | [], [], h => by simp [lexI] at h
  | [], _ :: _, _ => rfl
  | _ :: _, [], h => by simp [lexI] at h
  | a :: as, b :: bs, h => by
    simp only [lexI] at h ⊢
    by_cases e : a = b
    · subst e; simp only [if_pos] at h ⊢; exact lexI_asym as bs h
    · rw [if_neg e] at h
      rw [if_neg (fun z => e z.symm)]
      have := of_decide_eq_true h
      exact decide_eq_false (by omega)
theorem lexI_tr : ∀ a b c : List Int, lexI b a = false → lexI c b = false → lexI c a = false
  | a, b, [], h1, h2 => by
    cases b with
    | nil => exact h1
    | cons b bs => simp [lexI] at h2
  | [], b, c :: cs, _, _ => rfl
  | a :: as, [], c :: cs, h1, h2 => by simp [lexI] at h1
  | a :: as, b :: bs, c :: cs, h1, h2 => by
    simp only [lexI] at h1 h2 ⊢
    by_cases e : b = a
    · by_cases e2 : c = b
      · subst e e2
        simp only [if_pos] at h1 h2 ⊢
        exact lexI_tr as bs cs h1 h2
      · subst e
        rw [if_neg e2] at h2 ⊢
        exact h2
    · rw [if_neg e] at h1
      have q1 := of_decide_eq_false h1
      by_cases e2 : c = b
      · subst e2
        rw [if_neg e]
        exact h1
      · rw [if_neg e2] at h2
        have q2 := of_decide_eq_false h2
        rw [if_neg (by omega)]
        exact decide_eq_false (by omega)
theorem lexI_total : ∀ a b : List Int, lexI a b = false → lexI b a = false → a = b
  | [], [], _, _ => rfl
  | [], _ :: _, h, _ => by simp [lexI] at h
  | _ :: _, [], _, h => by simp [lexI] at h
  | a :: as, b :: bs, h1, h2 => by
    simp only [lexI] at h1 h2
    by_cases e : a = b
    · subst e
      simp only [if_pos] at h1 h2
      rw [lexI_total as bs h1 h2]
    · rw [if_neg e] at h1
      rw [if_neg (fun z => e z.symm)] at h2
      have := of_decide_eq_false h1
      have := of_decide_eq_false h2
      omega
section
variable {prog : Program} {w : World} {A : Around} {E : Value → Shared → Prop} {s : Shared} {Q : Bool → Shared → Prop}
open PySem.Spec PyProof.Rows SrtO TS in
theorem lex_intsV {b fin : Bool} {xs ys : List Value} {ns ms : List Int} (i : Nat) (hx : IntsAre xs ns) (hy : IntsAre ys ms) (hf : fin = decide (ns.length < ms.length))
    (h : Q (lexI ns ms) s) : PySem.W.KatLex prog w A b fin Q (xs.zip ys) i s := by
  induction hx generalizing ys ms i with
  | nil =>
    cases hy with
    | nil =>
      subst hf
      exact PySem.W.kat_nil h
    | cons q u hy =>
      subst hf
      exact PySem.W.kat_nil h
  | @cons p t xs ns hx ih =>
    cases hy with
    | nil =>
      subst hf
      exact PySem.W.kat_nil h
    | @cons q u ys ms hy =>
      have hf' : fin = decide (ns.length < ms.length) := by rw [hf]; simp
      show PySem.W.KatLex prog w A b fin Q ((Value.int p t, Value.int q u) :: xs.zip ys) i s
      refine PySem.W.kat_cons (wpAny_eqBool_int ?_)
      by_cases e : p = q
      · subst e
        rw [beq_self_eq_true]
        refine PySem.W.kat_yes ?_
        rw [show lexI (p :: ns) (p :: ms) = lexI ns ms by simp [lexI]] at h
        first
          | exact ih (i + 1) hy hf' h
          | exact ih _ _ (i + 1) hy hf' h
      · rw [show (p == q) = false from beq_eq_false_iff_ne.mpr e]
        refine PySem.W.kat_no (oneLt_ints _ ?_)
        rw [show lexI (p :: ns) (q :: ms) = decide (p < q) by simp [lexI, e]] at h
        exact h
open PySem.Spec PyProof.Rows SrtO TS in
theorem firstsV {h : Heap} : ∀ vs : List Value, (∀ v ∈ vs, ∃ ns, TupInts h v ns ∧ ns ≠ []) → ∃ fs, PySem.W.KatTups h vs fs ∧ fs.length = vs.length ∧ ∀ f, f ∈ fs → ∃ n t, f = Value.int n t
  | [], _ => ⟨[], PySem.W.KatTups.nil, rfl, fun f hf => by simp at hf⟩
  | v :: vs, x => by
    obtain ⟨fs, k, hl, hi⟩ := firstsV vs fun u hu => x u (List.mem_cons_of_mem _ hu)
    obtain ⟨ns, ⟨a, xs, rfl, ⟨o, ho, hc, n, hdt⟩, i⟩, hn⟩ := x v (List.mem_cons_self ..)
    obtain ⟨y, ys, e⟩ : ∃ y ys, xs.toList = y :: ys := by
      cases q : xs.toList with
      | nil =>
        rw [q] at i
        have l := i.length
        rw [List.length_nil] at l
        exact absurd (List.eq_nil_of_length_eq_zero (by omega)) hn
      | cons y ys => exact ⟨y, ys, rfl⟩
    obtain ⟨m, t, hy⟩ := i.all y (by rw [e]; exact List.mem_cons_self ..)
    refine ⟨y :: fs, PySem.W.KatTups.cons ho hc hdt ?_ k, by simp [hl], ?_⟩
    · have z := congrArg (fun l : List Value => l[0]?) e
      simpa using z
    · intro f hf
      rcases List.mem_cons.mp hf with rfl | hf
      · exact ⟨m, t, hy⟩
      · exact hi f hf
open PySem.Spec PyProof.Rows SrtO TS in
theorem tups_sortable {a : Addr} {vs : List Value} {k : Value → List Int} (h0 : 0 < vs.length) (hp : ∀ v ∈ vs, TupInts s.heap v (k v) ∧ k v ≠ []) (ha : ∀ o, s.heap.get? a = some o → o.cls ≠ .type "tuple") : SortableO prog w A s a vs fun v u => lexI (k v) (k u) := by
  intro h' keep
  have hp' : ∀ v ∈ vs, TupInts h' v (k v) ∧ k v ≠ [] := fun v hm => ⟨(hp v hm).1.keeps fun b o e c => keep b o (fun z => by subst z; exact ha o e c) e, (hp v hm).2⟩
  obtain ⟨fs, h1, h2, h3⟩ := firstsV vs fun v hm => ⟨_, hp' v hm⟩
  refine ⟨tuples' true, fun Q E hq => ?_, ?_⟩
  · refine PySem.W.kat_kind (T := .type "int") h1 (by omega) (fun f hm => ?_) (by rfl) ?_
    · obtain ⟨x, t, rfl⟩ := h3 f hm
      exact PySem.W.Looks.now
    · have e : (Value.type "int" != Value.type "tuple") = true := by first | decide +kernel | rfl | decide
      rw [e]
      exact hq
  · intro p q hm hm'
    obtain ⟨⟨a1, xs, e1, ⟨o, ho, hc, n, hdt⟩, i⟩, _⟩ := hp' _ hm
    obtain ⟨⟨a2, ys, e2, ⟨o', ho', hc', n', hdt'⟩, i'⟩, _⟩ := hp' _ hm'
    show wpAny (model prog w) A (keyLt' (tuples' true) p.1 q.1) (fun r s' => s' = { s with heap := h' } ∧ r = lexI (k p.1) (k q.1)) (fun _ _ => False) { s with heap := h' }
    rw [show keyLt' (tuples' true) p.1 q.1 = keyLt' (tuples' true) (Value.ref a1) (Value.ref a2) by rw [e1, e2]]
    refine PySem.W.kat_lt ho hdt ho' hdt' (lex_intsV 0 i i' ?_ ⟨rfl, rfl⟩)
    have l1 := i.length
    have l2 := i'.length
    rw [Array.length_toList] at l1 l2
    rw [l1, l2]
theorem swo_lexI (k : Value → List Int) : SrtO.Swo fun v u => lexI (k v) (k u) := ⟨fun x y h => lexI_asym _ _ h, fun x y z h1 h2 => lexI_tr _ _ _ h1 h2⟩
end
/-- an int list is walked sorted -/
def rSortIL (K : PySem.W.Frag) : List V → Hp → VK → Prop := fun vs H Q => ∃ (a : Addr) (ns : List Int), vs = [V.ref a] ∧ (SqL K H a (ns.map V.int) ∨ SqT K H a (ns.map V.int)) ∧
  ∀ (ns' : List Int) (p : Addr), ns'.Perm ns → ns'.Pairwise (· ≤ ·) → H p = none → Q (.ref p) (upd H p (.lst (ns'.map V.int)))
def rSortTL (K : PySem.W.Frag) : List V → Hp → VK → Prop := fun vs H Q => ∃ (a : Addr) (xs : List V), vs = [V.ref a] ∧ (SqL K H a xs ∨ SqT K H a xs) ∧ (∀ x ∈ xs, ∃ ns, TupI K H x ns ∧ ns ≠ []) ∧
  ∀ (ys : List V) (p : Addr), ys.Perm xs → ys.Pairwise (fun x y => ∀ n m, TupI K H x n → TupI K H y m → lexI m n = false) → H p = none → Q (.ref p) (upd H p (.lst ys))
section
variable {X : Cx}
open PySem.Spec PyProof.Rows in
theorem lt_of {pins : List (Addr × Obj)} {σ : L2.St} {H : Hp} {s : Shared} (I : Inv X pins σ H s) {a : Addr} {xs : List V} (h : SqL X.K H a xs ∨ SqT X.K H a xs) : ∃ its : List Value, Vals xs its ∧ LT s a its ∧ xs.length ≤ sizeLine := by
  rcases h with h | h
  · obtain ⟨its, rv, hl, hz⟩ := I.list h
    exact ⟨its, rv, .inl hl.isList, hz⟩
  · obtain ⟨its, rv, hl, hz⟩ := I.tuple h
    exact ⟨its, rv, .inr hl, hz⟩
open PySem.Spec PyProof.Rows in
theorem cr_sortIL : CallR X (.builtin "sorted") (rSortIL X.K) := by
  intro pins s σ H vs us Q I r h
  obtain ⟨a, ns, rfl, hs, q⟩ := h
  obtain ⟨its, rv, hl, hz⟩ := lt_of I hs
  rw [Vals.ref1 r]
  have hi := rv.ints
  refine sorted_ordLT SrtO.swo_int hl (by rw [← rv.length]; exact hz) (fun h2 h₁ a' _ _ => SrtO.ints_sortable hi h2) fun out h1 h2 => ?_
  obtain ⟨k1, k2, k3⟩ := SrtO.ints_out hi h1 h2
  obtain ⟨ep, he'⟩ := PyProof.Rows.sortedAll_at s.heap its out.toArray
  have hlen : ((out.map SrtO.iv).map V.int).length ≤ sizeLine := by
    rw [List.length_map, k2.length_eq]
    rw [List.length_map] at hz
    exact hz
  exact ⟨.ref _, upd H (s.heap.objs.size + 1) (.lst ((out.map SrtO.iv).map V.int)), I.laid (t' := s.toks) (fun _ _ => PyProof.Rows.sortedAll_old) (Nat.le_succ _) ⟨hlen, out, ep, vals_of_ints k1, he'⟩, rfl, q _ _ k2 k3 (I.hok.fresh (Nat.le_succ _))⟩
open PySem.Spec PyProof.Rows in
theorem cr_sortTL : CallR X (.builtin "sorted") (rSortTL X.K) := by
  intro pins s σ H vs us Q I r h
  obtain ⟨a, xs, rfl, hs, hx, q⟩ := h
  obtain ⟨its, rv, hl, hz⟩ := lt_of I hs
  rw [Vals.ref1 r]
  obtain ⟨e1, e2⟩ := bkV_refs rv fun x m => by
    obtain ⟨ns, ⟨t, e, _⟩, _⟩ := hx x m
    exact ⟨t, e⟩
  have key : ∀ v ∈ its, TS.TupInts s.heap v (TS.intsOf s.heap v) ∧ TS.intsOf s.heap v ≠ [] := fun v hv => by
    obtain ⟨t, rfl⟩ := e2 v hv
    have hm : V.ref t ∈ xs := by
      rw [e1]
      exact List.mem_map.mpr ⟨_, hv, rfl⟩
    obtain ⟨ns, ⟨t', e, ht⟩, hn⟩ := hx _ hm
    cases e
    have := tupI_raw I ht
    rw [this.ints]
    exact ⟨this, hn⟩
  refine sorted_ordLT (swo_lexI (TS.intsOf s.heap)) hl (by rw [← rv.length]; exact hz) (fun h2 h₁ a' ha kk => ?_) fun out h1 h2 => ?_
  · refine tups_sortable (s := { s with heap := h₁ }) (by omega) (fun v hm => ⟨(key v hm).1.keeps fun b o e _ => (kk b o e).2, (key v hm).2⟩) fun o e => ?_
    have e' : some o = some (seqObj "list" its.toArray 0) := e.symm.trans ha
    cases e'
    intro c
    exact absurd (Value.type.inj c) (by decide)
  · obtain ⟨ep, he'⟩ := PyProof.Rows.sortedAll_at s.heap its out.toArray
    have h3 : ∀ u ∈ out, ∃ a, u = Value.ref a := fun u hu => e2 u (h2.perm.mem_iff.mp hu)
    have hp : (out.map bkV).Perm xs := by
      rw [e1]
      exact h2.perm.map bkV
    have hlen : (out.map bkV).length ≤ sizeLine := by
      rw [hp.length_eq]
      exact hz
    refine ⟨.ref _, upd H (s.heap.objs.size + 1) (.lst (out.map bkV)), I.laid (t' := s.toks) (fun _ _ => PyProof.Rows.sortedAll_old) (Nat.le_succ _) ⟨hlen, out, ep, bkV_vals h3, he'⟩, rfl, q _ _ hp ?_ (I.hok.fresh (Nat.le_succ _))⟩
    rw [List.pairwise_map]
    refine List.Pairwise.imp (fun {u v} huv n m hn hm => ?_) h1
    obtain ⟨t, et, ht⟩ := hn
    obtain ⟨t', et', ht'⟩ := hm
    have eu := bkV_ref et
    have ev := bkV_ref et'
    have i1 : TS.intsOf s.heap u = n := by
      rw [eu]
      exact (tupI_raw I ht).ints
    have i2 : TS.intsOf s.heap v = m := by
      rw [ev]
      exact (tupI_raw I ht').ints
    rw [← i1, ← i2]
    exact huv
end
/-! sorted over data -/
def tints (ns : List Int) : D := .tup (ns.map D.int)
def lints (ns : List Int) : D := .lst (ns.map D.int)
def sortI (ns : List Int) : List Int := ns.mergeSort fun a b => decide (a ≤ b)
def sortG (gs : List (List Int)) : List (List Int) := gs.mergeSort fun a b => !lexI b a
theorem sortI_perm (ns : List Int) : (sortI ns).Perm ns := List.mergeSort_perm ns _
theorem sortG_perm (gs : List (List Int)) : (sortG gs).Perm gs := List.mergeSort_perm gs _
theorem sortI_sorted (ns : List Int) : (sortI ns).Pairwise (· ≤ ·) := by
  have := List.pairwise_mergeSort (le := fun a b : Int => decide (a ≤ b)) (fun a b c h1 h2 => by simp at *; omega) (fun a b => by simp; omega) ns
  exact this.imp fun h => by simpa using h
theorem sortG_sorted (gs : List (List Int)) : (sortG gs).Pairwise fun a b => lexI b a = false := by
  have := List.pairwise_mergeSort (le := fun a b : List Int => !lexI b a) (fun a b c h1 h2 => by simp at *; exact lexI_tr a b c h1 h2) (fun a b => by
    cases h : lexI b a with
    | false => rfl
    | true => simp [lexI_asym _ _ h]) gs
  exact this.imp fun h => by simpa using h
/-- two lists sorted alike are one -/
theorem perm_sorted {α : Type} {le : α → α → Prop} (anti : ∀ a b, le a b → le b a → a = b) : ∀ {l m : List α}, l.Perm m → l.Pairwise le → m.Pairwise le → (∀ a ∈ l, le a a) → l = m
  | [], m, p, _, _, _ => (List.Perm.nil_eq p)
  | a :: l, [], p, _, _, _ => absurd p.length_eq (by simp)
  | a :: l, b :: m, p, h1, h2, hr => by
    have hab : a = b := by
      have ha : a ∈ b :: m := p.mem_iff.mp (List.mem_cons_self ..)
      have hb : b ∈ a :: l := p.mem_iff.mpr (List.mem_cons_self ..)
      rcases List.mem_cons.mp ha with e | ha
      · exact e
      rcases List.mem_cons.mp hb with e | hb
      · exact e.symm
      exact anti a b ((List.pairwise_cons.mp h1).1 b hb) ((List.pairwise_cons.mp h2).1 a ha)
    subst hab
    rw [perm_sorted anti p.cons_inv (List.pairwise_cons.mp h1).2 (List.pairwise_cons.mp h2).2 fun x hx => hr x (List.mem_cons_of_mem _ hx)]
theorem sortI_uniq {ns ms : List Int} (p : ms.Perm ns) (h : ms.Pairwise (· ≤ ·)) : ms = sortI ns :=
  perm_sorted (fun a b h1 h2 => by omega) (p.trans (sortI_perm ns).symm) h (sortI_sorted ns) fun a _ => Int.le_refl a
theorem sortG_uniq {ns ms : List (List Int)} (p : ms.Perm ns) (h : ms.Pairwise fun a b => lexI b a = false) : ms = sortG ns :=
  perm_sorted (fun a b h1 h2 => lexI_total a b h2 h1) (p.trans (sortG_perm ns).symm) h (sortG_sorted ns) fun a _ => lexI_irr a
/-- ints of data -/
def intsD : List D → Option (List Int)
  | [] => some []
  | .int i :: ds => (intsD ds).map (i :: ·)
  | _ :: _ => none
theorem intsD_map : ∀ ns : List Int, intsD (ns.map D.int) = some ns
  | [] => rfl
  | n :: ns => by simp [intsD, intsD_map ns]
theorem intsD_eq : ∀ {ds : List D} {ns : List Int}, intsD ds = some ns → ds = ns.map D.int
  | [], ns, h => by simp [intsD] at h; subst h; rfl
  | d :: ds, ns, h => by
    cases d with
    | int i =>
      simp only [intsD, Option.map_eq_some_iff] at h
      obtain ⟨ms, h1, rfl⟩ := h
      rw [intsD_eq h1]; rfl
    | _ => simp [intsD] at h
def fSortI (ds : List D) (q : D → Prop) : Prop := ∃ ns, seqIn ds = some (ns.map D.int) ∧ q (lints (sortI ns))
def fSortT (ds : List D) (q : D → Prop) : Prop := ∃ gs : List (List Int), seqIn ds = some (gs.map tints) ∧ (∀ g ∈ gs, g ≠ []) ∧ q (.lst ((sortG gs).map tints))
section
variable {X : Cx} {b : Bs} {pos p : Pos} {e : Expr} {ta : DTA}
theorem reps_ints_v {cA : Nat → Addr} {G : Hp} : ∀ {xs : List V} {ns : List Int}, Reps cA G xs (ns.map D.int) → xs = ns.map V.int
  | _, [], .nil => rfl
  | _, n :: ns, .cons r rs => by cases r; rw [reps_ints_v rs]; rfl
theorem on_sortI {K : PySem.W.Frag} : OpN b (rSortIL K) fSortI := by
  intro G m μ H vs ds q Kq w n f k
  obtain ⟨ns, e, f⟩ := f
  obtain ⟨a, us, rfl, h, rp⟩ := seq_at (K := K) n e
  have := reps_ints_v rp
  subst this
  refine ⟨a, ns, rfl, h.imp (·.1) (·.1), fun ns' l p1 p2 hl => ?_⟩
  rw [sortI_uniq p1 p2]
  exact give_new w hl (fun G' s e => .lst e (reps_ints _)) f k
theorem reps_perm {cA : Nat → Addr} {G : Hp} {xs ys : List V} (p : ys.Perm xs) : ∀ {ds : List D}, Reps cA G xs ds → ∃ es, es.Perm ds ∧ Reps cA G ys es := by
  induction p with
  | nil => intro ds r; exact ⟨ds, List.Perm.refl _, r⟩
  | cons x p ih =>
    intro ds r
    cases r with
    | cons r rs =>
      obtain ⟨es, h1, h2⟩ := ih rs
      exact ⟨_ :: es, h1.cons _, .cons r h2⟩
  | swap x y l =>
    intro ds r
    cases r with
    | cons r rs =>
      cases rs with
      | cons r' rs => exact ⟨_ :: _ :: _, List.Perm.swap .., .cons r' (.cons r rs)⟩
  | trans p1 p2 ih1 ih2 =>
    intro ds r
    obtain ⟨es, h1, h2⟩ := ih2 r
    obtain ⟨fs, h3, h4⟩ := ih1 h2
    exact ⟨fs, h3.trans h1, h4⟩
theorem perm_map {α β : Type} {f : α → β} {es : List β} {gs : List α} (p : es.Perm (gs.map f)) : ∃ hs : List α, es = hs.map f ∧ hs.Perm gs := by
  generalize hm : gs.map f = m at p
  induction p generalizing gs with
  | nil => exact ⟨[], rfl, by cases gs with
    | nil => exact List.Perm.refl _
    | cons _ _ => simp at hm⟩
  | cons x p ih =>
    cases gs with
    | nil => simp at hm
    | cons g gs =>
      simp at hm
      obtain ⟨hs, e, q⟩ := ih hm.2
      exact ⟨g :: hs, by rw [List.map_cons, ← e, hm.1], q.cons g⟩
  | swap x y l =>
    match gs, hm with
    | a :: c :: gs, hm =>
      simp at hm
      exact ⟨c :: a :: gs, by simp [hm.1, hm.2.1, hm.2.2], List.Perm.swap ..⟩
  | trans p1 p2 ih1 ih2 =>
    obtain ⟨hs, e, q⟩ := ih2 hm
    obtain ⟨ks, e2, q2⟩ := ih1 e.symm
    exact ⟨ks, e2, q2.trans q⟩
theorem rep_tints {K : PySem.W.Frag} {cA : Nat → Addr} {G H : Hp} (g : Sub G H) {x : V} {ns : List Int} (r : Rep cA G x (tints ns)) : TupI K H x ns := by
  obtain ⟨t, xs, rfl, h, rp⟩ := r.now g
  rw [reps_ints_v rp] at h
  exact ⟨t, rfl, SqT.of h⟩
theorem on_sortT {K : PySem.W.Frag} : OpN b (rSortTL K) fSortT := by
  intro G m μ H vs ds q Kq w n f k
  obtain ⟨gs, e, hne, f⟩ := f
  obtain ⟨a, us, rfl, h, rp⟩ := seq_at (K := K) n e
  have each : ∀ {xs : List V} {gs : List (List Int)}, Reps b.cA G xs (gs.map tints) → ∀ x ∈ xs, ∃ g ∈ gs, Rep b.cA G x (tints g) := by
    intro xs gs
    induction gs generalizing xs with
    | nil => intro r; cases r; intro x hx; cases hx
    | cons g gs ih =>
      intro r
      cases r with
      | cons r rs =>
        intro x hx
        rcases List.mem_cons.mp hx with rfl | hx
        · exact ⟨g, List.mem_cons_self .., r⟩
        · obtain ⟨g', h1, h2⟩ := ih rs x hx
          exact ⟨g', List.mem_cons_of_mem _ h1, h2⟩
  refine ⟨a, us, rfl, h.imp (·.1) (·.1), fun x hx => ?_, fun ys l p1 p2 hl => ?_⟩
  · obtain ⟨g, h1, h2⟩ := each rp x hx
    exact ⟨g, rep_tints w.rel.gh h2, hne g h1⟩
  · obtain ⟨es, q1, q2⟩ := reps_perm p1 rp
    obtain ⟨hs, rfl, q3⟩ := perm_map q1
    have srt : hs.Pairwise fun a b => lexI b a = false := by
      clear q1 q3
      induction hs generalizing ys with
      | nil => exact List.Pairwise.nil
      | cons h1 hs ih =>
        cases q2 with
        | cons r rs =>
          rename_i y ys
          obtain ⟨z1, z2⟩ := List.pairwise_cons.mp p2
          refine List.pairwise_cons.mpr ⟨fun g hg => ?_, ?_⟩
          · obtain ⟨i, hi, rfl⟩ := List.getElem_of_mem hg
            obtain ⟨v, hv, rv⟩ := rs.get' (i := i) (d := tints hs[i]) (by simp [hi])
            exact z1 v (List.mem_of_getElem? hv) _ _ (rep_tints w.rel.gh r) (rep_tints w.rel.gh rv)
          · have : ∀ {xs : List V}, Reps b.cA G xs (hs.map tints) → xs.Pairwise (fun x y => ∀ n m, TupI K H x n → TupI K H y m → lexI m n = false) → hs.Pairwise fun a b => lexI b a = false := by
              intro xs
              clear ih z1 z2 p2 rs r p1 rp h1
              induction hs generalizing xs with
              | nil => intro _ _; exact List.Pairwise.nil
              | cons h2 hs ih =>
                intro r p2
                cases r with
                | cons r rs =>
                  obtain ⟨z1, z2⟩ := List.pairwise_cons.mp p2
                  refine List.pairwise_cons.mpr ⟨fun g hg => ?_, ih rs z2⟩
                  obtain ⟨i, hi, rfl⟩ := List.getElem_of_mem hg
                  obtain ⟨v, hv, rv⟩ := rs.get' (i := i) (d := tints hs[i]) (by simp [hi])
                  exact z1 v (List.mem_of_getElem? hv) _ _ (rep_tints w.rel.gh r) (rep_tints w.rel.gh rv)
            exact this rs z2
    rw [sortG_uniq q3 srt] at q2
    exact give_new w hl (fun G' s e => .lst e (q2.mono s)) f k
theorem de_sortI (hm : X.mg "sorted" = none) (ha : DA X b [e] ta) (hg : Gl X "sorted") (he : starEach [e] X.env = [(false, eval e X.env)] := by rfl) (hpl : (backTo pos (starEach [] X.env)).any (·.1) = false := by rfl) : DE X b (.Call (.Name "sorted" p) [e] [] pos) (dFn fSortI ta) :=
  de_fn (on_sortI (K := X.K)) ha fun pa => pe_callB cr_sortIL hg hm PyProof.Rows.boot_sorted pa (he := he) (hpl := hpl)
theorem de_sortT (hm : X.mg "sorted" = none) (ha : DA X b [e] ta) (hg : Gl X "sorted") (he : starEach [e] X.env = [(false, eval e X.env)] := by rfl) (hpl : (backTo pos (starEach [] X.env)).any (·.1) = false := by rfl) : DE X b (.Call (.Name "sorted" p) [e] [] pos) (dFn fSortT ta) :=
  de_fn (on_sortT (K := X.K)) ha fun pa => pe_callB cr_sortTL hg hm PyProof.Rows.boot_sorted pa (he := he) (hpl := hpl)
end
end DD
namespace DD
open PySem L2
/-! ### dicts with keys of ints and texts -/
@[simp] def keyD : D → Option Key
  | .int i => some (.inl i)
  | .str s => some (.inr s)
  | _ => none
@[simp] def keyW : W → Option Key
  | .d d => keyD d
  | .r _ => none
def dgetL {α : Type} : List Key → List α → Key → Option α
  | k' :: ks, x :: xs, k => if k' = k then some x else dgetL ks xs k
  | _, _, _ => none
def hasK (ks : List Key) (k : Key) : Bool := ks.any fun k' => decide (k' = k)
def dputK (ks : List Key) (k : Key) : List Key := if hasK ks k = true then ks else ks ++ [k]
def dmapL {α : Type} : List Key → List α → Key → α → List α
  | k' :: ks, x :: xs, k, v => (if k' = k then v else x) :: dmapL ks xs k v
  | _, _, _, _ => []
def dputL {α : Type} (ks : List Key) (xs : List α) (k : Key) (v : α) : List α := if hasK ks k = true then dmapL ks xs k v else xs ++ [v]
theorem val_get : ∀ {ks : List Key} {xs : List V} {k : Key}, valV (ks.zip xs) k = dgetL ks xs k
  | [], xs, k => by simp [valV, dgetL]
  | _ :: _, [], k => by simp [valV, dgetL]
  | k' :: ks, x :: xs, k => by
    have ih := val_get (ks := ks) (xs := xs) (k := k)
    unfold valV at ih ⊢
    simp only [List.zip_cons_cons, List.find?_cons, dgetL]
    by_cases e : k' = k
    · simp [e]
    · simp [e, ih]
theorem dmap_len {α : Type} : ∀ {ks : List Key} {xs : List α} {k : Key} {v : α}, ks.length = xs.length → (dmapL ks xs k v).length = xs.length
  | [], [], _, _, _ => rfl
  | k' :: ks, x :: xs, k, v, h => by simp only [dmapL, List.length_cons]; rw [dmap_len (by simpa using h)]
  | [], _ :: _, _, _, h => by simp at h
  | _ :: _, [], _, _, h => by simp at h
theorem dmap_zip : ∀ {ks : List Key} {xs : List V} {k : Key} {v : V}, ks.length = xs.length → (ks.zip xs).map (fun kv => if kv.1 = k then (kv.1, v) else kv) = ks.zip (dmapL ks xs k v)
  | [], [], _, _, _ => rfl
  | k' :: ks, x :: xs, k, v, h => by
    simp only [dmapL, List.zip_cons_cons, List.map_cons]
    rw [dmap_zip (by simpa using h)]
    by_cases e : k' = k <;> simp [e]
  | [], _ :: _, _, _, h => by simp at h
  | _ :: _, [], _, _, h => by simp at h
theorem any_zip : ∀ {ks : List Key} {xs : List V} {k : Key}, ks.length = xs.length → ((ks.zip xs).any fun kv => decide (kv.1 = k)) = hasK ks k
  | [], [], _, _ => rfl
  | k' :: ks, x :: xs, k, h => by
    simp only [List.zip_cons_cons, List.any_cons]
    rw [any_zip (by simpa using h)]
    rfl
  | [], _ :: _, _, h => by simp at h
  | _ :: _, [], _, h => by simp at h
theorem put_zip {ks : List Key} {xs : List V} {k : Key} {v : V} (h : ks.length = xs.length) : putK (ks.zip xs) k v = (dputK ks k).zip (dputL ks xs k v) ∧ (dputK ks k).length = (dputL ks xs k v).length := by
  unfold putK dputK dputL
  rw [any_zip h]
  by_cases e : hasK ks k = true
  · simp only [e, if_true]
    exact ⟨dmap_zip h, by rw [dmap_len h, h]⟩
  · simp only [e, if_false, Bool.false_eq_true]
    exact ⟨by rw [List.zip_append h]; rfl, by simp [h]⟩
section
variable {cA : Nat → Addr} {G : Hp}
theorem dmap_rel {v : V} {d : D} (r : Rep cA G v d) {k : Key} : ∀ {ks : List Key} {xs : List V} {ds : List D}, Reps cA G xs ds → Reps cA G (dmapL ks xs k v) (dmapL ks ds k d)
  | [], _, _, _ => .nil
  | _ :: _, _, _, .nil => .nil
  | k' :: ks, _, _, .cons q qs => by
    simp only [dmapL]
    by_cases e : k' = k
    · simp only [e, if_true]; exact .cons r (dmap_rel r qs)
    · simp only [e, if_false]; exact .cons q (dmap_rel r qs)
theorem dput_rel {v : V} {d : D} (r : Rep cA G v d) {k : Key} {ks : List Key} {xs : List V} {ds : List D} (q : Reps cA G xs ds) : Reps cA G (dputL ks xs k v) (dputL ks ds k d) := by
  unfold dputL
  split
  · exact dmap_rel r q
  · exact q.app (.cons r .nil)
theorem dget_rel {k : Key} : ∀ {ks : List Key} {xs : List V} {ds : List D}, Reps cA G xs ds → (dgetL ks xs k = none ∧ dgetL ks ds k = none) ∨ ∃ v d, dgetL ks xs k = some v ∧ dgetL ks ds k = some d ∧ Rep cA G v d
  | [], _, _, _ => .inl ⟨rfl, rfl⟩
  | _ :: _, _, _, .nil => .inl ⟨rfl, rfl⟩
  | k' :: ks, _, _, .cons q qs => by
    simp only [dgetL]
    by_cases e : k' = k
    · simp only [e, if_true]; exact .inr ⟨_, _, rfl, rfl, q⟩
    · simp only [e, if_false]; exact dget_rel qs
end
section
variable {X : Cx} {b : Bs} {pos apos cpos pos' : Pos} {o e f i value : Expr} {td ty tx tv : DTE}
/-- {} -/
@[simp] def dDNew (_ρ : R) (μ : M) (Q : W → M → Prop) : Prop := Q (.r μ.length) (μ ++ [.dic [] []])
theorem de_dnew : DE X b (.Dict [] [] pos) dDNew := by
  refine ⟨_, pe_dnewK, fun {G m ρ μ σ H Q K} o r t k => ?_⟩
  intro p hp
  exact k _ _ _ _ _ _ Le.cellNew (o.mono Le.cellNew (o.rel.cellNew (c := .dic [] []) hp ⟨p, [], rfl, upd_same, rfl, .nil⟩)) (.r (as := []) (by rw [← o.rel.len]; simp)) t
@[simp] def dicW (μ : M) (w : W) : Option (List Key × List D) := match rs μ w with
  | some (.dic ks ds) => some (ks, ds)
  | _ => none
theorem dicW_ok {cA : Nat → Addr} {U G H : Hp} {m : Wd} {μ : M} {v : V} {w : W} {ks : List Key} {ds : List D} (r : RelM cA U G m μ H) (q : WRel cA G m v w) (h : dicW μ w = some (ks, ds)) : ∃ p xs, v = .ref p ∧ H p = some (.dK (ks.zip xs)) ∧ ks.length = xs.length ∧ Reps cA G xs ds := by
  unfold dicW at h
  split at h
  · rename_i ks' ds' e
    cases h
    exact rs_ok r q e
  · cases h
theorem kV_of {cA : Nat → Addr} {G : Hp} {m : Wd} {v : V} {w : W} {k : Key} (q : WRel cA G m v w) (h : keyW w = some k) : v = kV k := by
  cases q with
  | r e => cases h
  | d r =>
    cases r with
    | int i => cases h; rfl
    | str s => cases h; rfl
    | _ => cases h
/-- d.get(k, z) -/
@[simp] def dDGet2 (td ty tx : DTE) (ρ : R) (μ : M) (Q : W → M → Prop) : Prop := td ρ μ fun w μ1 => (dicW μ1 w).isSome = true ∧ ty ρ μ1 fun y μ2 => tx ρ μ2 fun z μ3 => match dicW μ3 w, keyW y with
  | some (ks, ds), some k => (match dgetL ks ds k with
    | some d => Q (.d d) μ3
    | none => Q z μ3)
  | _, _ => False
theorem de_dget2 (hu : X.A.units + 1 < cLine) (ho : DE X b o td) (he : DE X b e ty) (hf : DE X b f tx) (m : M2 X o "get" apos e f cpos) : DE X b (.Call (.Attribute o "get" apos) [e, f] [] cpos) (dDGet2 td ty tx) := by
  obtain ⟨t1, p1, q1⟩ := ho.ex
  obtain ⟨t2, p2, q2⟩ := he.ex
  obtain ⟨t3, p3, q3⟩ := hf.ex
  refine ⟨_, pe_dget2 hu p1 p2 p3 m, fun {G m ρ μ σ H Q K} o r t k => ?_⟩
  refine q1 o r t fun v H1 G1 m1 w μ1 l1 o1 r1 ⟨hs, t1⟩ => ?_
  obtain ⟨⟨ks, ds⟩, hw⟩ := Option.isSome_iff_exists.mp hs
  obtain ⟨p, xs, rfl, h1, _, _⟩ := dicW_ok o1.rel r1 hw
  refine ⟨p, rfl, .inl ⟨_, .inl h1⟩, q2 o1 (r.mono l1) t1 fun y H2 G2 m2 w2 μ2 l2 o2 r2 t2 => q3 o2 (r.mono (l1.trans l2)) t2 fun z H3 G3 m3 w3 μ3 l3 o3 r3 t3 => ?_⟩
  split at t3
  · rename_i ks ds ky e1 e2
    obtain ⟨p', xs', e3, h2, _, rp⟩ := dicW_ok o3.rel (r1.mono (l2.trans l3)) e1
    cases e3
    have := kV_of r2 e2
    subst this
    refine ⟨_, DGet.k h2, ?_⟩
    rw [val_get]
    rcases dget_rel (k := ky) (ks := ks) rp with ⟨z1, z2⟩ | ⟨v, d, z1, z2, z3⟩
    · rw [z2] at t3
      rw [z1]
      exact k z H3 G3 m3 w3 μ3 (l1.trans (l2.trans l3)) o3 r3 t3
    · rw [z2] at t3
      rw [z1]
      exact k v H3 G3 m3 _ μ3 (l1.trans (l2.trans l3)) o3 (.d z3) t3
  · exact t3.elim
/-- d[k] -/
@[simp] def dDIx (td ty : DTE) (ρ : R) (μ : M) (Q : W → M → Prop) : Prop := td ρ μ fun w μ1 => ty ρ μ1 fun y μ2 => match dicW μ2 w, keyW y with
  | some (ks, ds), some k => (match dgetL ks ds k with
    | some d => Q (.d d) μ2
    | none => False)
  | _, _ => False
theorem de_dix (hu : X.A.units + 1 < cLine) (ho : DE X b o td) (hi : DE X b i ty) (hs : NoSl i := by exact fun _ _ => rfl) : DE X b (.Subscript o i pos) (dDIx td ty) := by
  obtain ⟨t1, p1, q1⟩ := ho.ex
  obtain ⟨t2, p2, q2⟩ := hi.ex
  refine ⟨_, pe_dget hu p1 p2 hs, fun {G m ρ μ σ H Q K} o r t k => ?_⟩
  refine q1 o r t fun v H1 G1 m1 w μ1 l1 o1 r1 t1 => q2 o1 (r.mono l1) t1 fun y H2 G2 m2 w2 μ2 l2 o2 r2 t2 => ?_
  split at t2
  · rename_i ks ds ky e1 e2
    obtain ⟨p', xs', rfl, h2, _, rp⟩ := dicW_ok o2.rel (r1.mono l2) e1
    have := kV_of r2 e2
    subst this
    rcases dget_rel (k := ky) (ks := ks) rp with ⟨z1, z2⟩ | ⟨v, d, z1, z2, z3⟩
    · rw [z2] at t2
      exact t2.elim
    · rw [z2] at t2
      refine ⟨p', v, rfl, ?_, k v H2 G2 m2 _ μ2 (l1.trans l2) o2 (.d z3) t2⟩
      have := DGet.k (k := ky) h2
      rw [val_get, z1] at this
      exact this
  · exact t2.elim
/-- k in d, k not in d -/
@[simp] def dDIn (neg : Bool) (ty td : DTE) (ρ : R) (μ : M) (Q : W → M → Prop) : Prop := ty ρ μ fun y μ1 => td ρ μ1 fun w μ2 => match dicW μ2 w, keyW y with
  | some (ks, ds), some k => Q (.d (.bl (hasK ks k != neg))) μ2
  | _, _ => False
theorem get_in : ∀ {ks : List Key} {xs : List V} {k : Key}, ks.length = xs.length → (dgetL ks xs k).isSome = hasK ks k
  | [], [], _, _ => rfl
  | k' :: ks, x :: xs, k, h => by
    have ih := get_in (ks := ks) (xs := xs) (k := k) (by simpa using h)
    simp only [dgetL, hasK, List.any_cons]
    by_cases e : k' = k
    · simp [e]
    · simp only [e, if_false, decide_false, Bool.false_or]
      exact ih
  | [], _ :: _, _, h => by simp at h
  | _ :: _, [], _, h => by simp at h
theorem din_core {G0 H : Hp} {m0 : Wd} {μ : M} {v y : V} {w w2 : W} {ks : List Key} {ds : List D} {k : Key} (o : WOk b G0 m0 μ H) (r : WRel b.cA G0 m0 v w) (r2 : WRel b.cA G0 m0 y w2) (e1 : dicW μ w = some (ks, ds)) (e2 : keyW w2 = some k) : ∃ a ov, v = .ref a ∧ DGet H a y ov ∧ ov.isSome = hasK ks k := by
  obtain ⟨p', xs', rfl, h2, hl, rp⟩ := dicW_ok o.rel r e1
  have := kV_of r2 e2
  subst this
  exact ⟨p', _, rfl, DGet.k h2, by rw [val_get, get_in hl]⟩
theorem de_din (hu : X.A.units + 1 < cLine) (hi : DE X b i ty) (ho : DE X b o td) (hm : behindInMarks .In o = false) : DE X b (.Compare i [.In] [o] pos) (dDIn false ty td) := by
  obtain ⟨t1, p1, q1⟩ := hi.ex
  obtain ⟨t2, p2, q2⟩ := ho.ex
  refine ⟨_, pe_cmp (pc_din hu p1 p2) hm, fun {G m ρ μ σ H Q K} o r t k => ?_⟩
  refine q1 o r t fun y H1 G1 m1 w μ1 l1 o1 r1 t1 => q2 o1 (r.mono l1) t1 fun v H2 G2 m2 w2 μ2 l2 o2 r2 t2 => ?_
  split at t2
  · rename_i ks ds ky e1 e2
    obtain ⟨a, ov, rfl, g, hv⟩ := din_core o2 r2 (r1.mono l2) e1 e2
    refine ⟨a, ov, rfl, g, ?_⟩
    rw [hv]
    exact k _ H2 G2 m2 _ μ2 (l1.trans l2) o2 (.d (.bl _)) (by simpa using t2)
  · exact t2.elim
theorem dt_din (hu : X.A.units + 1 < cLine) (hi : DE X b i ty) (ho : DE X b o td) (hm : behindInMarks .In o = false) : DT X b (.Compare i [.In] [o] pos) (dB (dDIn false ty td)) := by
  obtain ⟨t1, p1, q1⟩ := hi.ex
  obtain ⟨t2, p2, q2⟩ := ho.ex
  refine ⟨_, pt_cmp (pc_din hu p1 p2) hm, fun {G m ρ μ σ H Q K} o r t k => ?_⟩
  refine q1 o r t fun y H1 G1 m1 w μ1 l1 o1 r1 t1 => q2 o1 (r.mono l1) t1 fun v H2 G2 m2 w2 μ2 l2 o2 r2 t2 => ?_
  split at t2
  · rename_i ks ds ky e1 e2
    obtain ⟨a, ov, rfl, g, hv⟩ := din_core o2 r2 (r1.mono l2) e1 e2
    refine ⟨a, ov, rfl, g, ?_⟩
    rw [hv]
    exact ⟨_, rfl, k _ H2 G2 m2 μ2 (l1.trans l2) o2 (by simpa using t2)⟩
  · exact t2.elim
theorem dt_dnotin (hu : X.A.units + 1 < cLine) (hi : DE X b i ty) (ho : DE X b o td) (hm : behindInMarks .NotIn o = false) : DT X b (.Compare i [.NotIn] [o] pos) (dB (dDIn true ty td)) := by
  obtain ⟨t1, p1, q1⟩ := hi.ex
  obtain ⟨t2, p2, q2⟩ := ho.ex
  refine ⟨_, pt_cmp (pc_dnotin hu p1 p2) hm, fun {G m ρ μ σ H Q K} o r t k => ?_⟩
  refine q1 o r t fun y H1 G1 m1 w μ1 l1 o1 r1 t1 => q2 o1 (r.mono l1) t1 fun v H2 G2 m2 w2 μ2 l2 o2 r2 t2 => ?_
  split at t2
  · rename_i ks ds ky e1 e2
    obtain ⟨a, ov, rfl, g, hv⟩ := din_core o2 r2 (r1.mono l2) e1 e2
    refine ⟨a, ov, rfl, g, ?_⟩
    rw [hv]
    exact ⟨_, rfl, k _ H2 G2 m2 μ2 (l1.trans l2) o2 (by simpa using t2)⟩
  · exact t2.elim
/-- d[k] = v -/
@[simp] def dDPut (td ty tv : DTE) (D : DEnds) (ρ : R) (μ : M) : Prop := tv ρ μ fun x μ1 => td ρ μ1 fun w μ2 => ty ρ μ2 fun y μ3 => match w, keyW y with
  | .r n, some k => (match esc μ3 x with
    | some (d, μ4) => (match μ4[n]? with
      | some (.dic ks ds) => ks.length < sizeLine ∧ D.nx ρ (μ4.set n (.dic (dputK ks k) (dputL ks ds k d)))
      | _ => False)
    | none => False)
  | _, _ => False
theorem ds_dput (hu : X.A.units + 1 < cLine) (ho : DE X b o td) (hi : DE X b i ty) (hv : DE X b value tv) (hs : swapsWith value (some (.Subscript o i pos')) pos.line X.env = pure false := by rfl) : DS X b (.Assign [.Subscript o i pos'] value pos) (dDPut td ty tv) := by
  obtain ⟨t1, p1, q1⟩ := ho.ex
  obtain ⟨t2, p2, q2⟩ := hi.ex
  obtain ⟨t3, p3, q3⟩ := hv.ex
  refine ⟨_, ps_dput hu p1 p2 p3 hs, fun {G m ρ μ σ H D E} o r t k => ?_⟩
  refine q3 o r t fun x H1 G1 m1 wx μ1 l1 o1 r1 t1 => q1 o1 (r.mono l1) t1 fun v H2 G2 m2 w μ2 l2 o2 r2 t2 => q2 o2 (r.mono (l1.trans l2)) t2 fun y H3 G3 m3 wy μ3 l3 o3 r3 t3 => ?_
  split at t3
  · rename_i n ky e2
    split at t3
    · rename_i d μ4 e3
      split at t3
      · rename_i ks ds e4
        obtain ⟨hl, t3⟩ := t3
        obtain ⟨G4, l4, r4, rx⟩ := esc_ok o3.rel (r1.mono (l2.trans l3)) e3
        have := kV_of r3 e2
        subst this
        cases r2 with
        | @r _ p as em =>
        have em' := l4.m _ _ (l3.m _ _ em)
        obtain ⟨p', xs, e5, h5, h6, rp⟩ := r4.cell n _ _ e4 em'
        cases e5
        obtain ⟨z1, z2⟩ := put_zip (k := ky) (v := x) h6
        refine ⟨p, _, rfl, DPut.k h5 (by rw [List.length_zip]; omega), ?_⟩
        rw [z1]
        have lo : Le G m G4 m3 := l1.trans (l2.trans (l3.trans l4))
        refine k.nx σ _ G4 m3 ρ _ lo (o3.mono l4 (r4.write (p := p) (c' := .dic (dputK ks ky) (dputL ks ds ky d)) e4 em' rfl (by simp) rfl ⟨p, _, rfl, upd_same, z2, dput_rel rx rp⟩)) (r.mono lo) t3
      · exact t3.elim
    · exact t3.elim
  · exact t3.elim
end
/-! list(d.values()) -/
def rListVals : V → Hp → VK → Prop := fun x H Q => ∃ (d : Addr) (kvs : List (Key × V)), x = .ref d ∧ H d = some (.dK kvs) ∧ ∀ q, H q = none → Q (.ref q) (upd H q (.lst (kvs.map (·.2))))
section
variable {X : Cx} {e : Expr} {te : TE} {p apos cpos pos : Pos}
theorem kv_at : ∀ {kvs : List (Key × V)} {vs : List (Key × Value)} {j : Nat} {x : V} {k : Key} {u : Value}, KV kvs vs → (kvs.map (·.2))[j]? = some x → vs[j]? = some (k, u) → RelV x u
  | _, _, j, _, _, _, .nil, h, _ => by simp at h
  | _, _, 0, _, _, _, .cons r rs, h, h2 => by simp at h h2; subst h; obtain ⟨_, g⟩ := r; rw [h2] at g; exact g
  | _, _, j + 1, _, _, _, .cons r rs, h, h2 => kv_at rs (by simpa using h) (by simpa using h2)
theorem pe_listVals (hc : X.calm = true) (he : PE X e te) (hg : Gl X "list") (hm : X.mg "list" = none) (hv : bootBuiltins "list" = some (.type "list")) (hbase : attributeBase e "values" X.env (eval e X.env) = eval e X.env := by rfl) (hline : (apos.endLine == cpos.line) = true := by rfl)
    (hs : starEach [.Call (.Attribute e "values" apos) [] [] cpos] X.env = (false, eval (.Call (.Attribute e "values" apos) [] [] cpos) X.env) :: starEach [] X.env := by rfl) :
    PE X (.Call (.Name "list" p) [.Call (.Attribute e "values" apos) [] [] cpos] [] pos) (fun σ H Q => te σ H fun x H1 => rListVals x H1 Q) := by
  refine ⟨fun pins s σ H Q I hq => ?_⟩
  refine wpAny_Call_Name_kw (ld_blt I hg hm hv ?_)
  refine PyProof.Rows.callWith_type1 ?_ hs rfl
  rw [hs]
  show wpAny _ _ (spliced ((false, eval (.Call (.Attribute e "values" apos) [] [] cpos) X.env) :: backTo pos (starEach [] X.env))) _ _ s
  refine Calls.spliced_cons ?_
  refine wpAny_Call_method (T := "dict") (id := "dict.values") hbase rfl hline F.plainAttrs_dict F.slot_dict_values F.type_dict_values (thn (he.run pins s σ H _ I hq) fun u s1 ⟨x, H1, I1, rx, d, kvs, ex, hd, q⟩ => ?_)
  subst ex
  obtain rfl : u = Value.ref d := rx
  obtain ⟨hz, hs0, vs, kv, hdo⟩ := I1.hok d _ hd
  obtain ⟨ep, hat⟩ := hdo.dictAt
  have lk : kvs.length = vs.length := Paired.length kv
  have I2 : Inv X pins σ H1 { s1 with heap := s1.heap.push { cls := .type "dict_values", data := .fields #[.ref d] } } := I1.kept (t' := s1.toks) fun b ob q => Heap.get?_push_of_some _ q
  refine ⟨hdo.typeIs, hdo.mapOf.noDict, ?_⟩
  show wpAny _ _ (callWith cpos (.builtin "dict.values") [.ref d] [] []) _ X.xe s1
  refine method_meetsIn F.slot_dict_values F.entry_dict_values rfl (PySem.evalArgs_none ⟨rfl, hdo.typeIs, F.args_dict_values_1 _, _, meets_dict_values (mixKind X.prog X.w) d hs0, ⟨vs, hdo⟩, ?_⟩)
  refine Calls.spliced_nil ?_
  refine PySem.W.kdl_call (PySem.W.kdl_values (knd := mixKind X.prog X.w) (kvs := vs) (ep := ep)) (I1.ok.hd hc) ⟨⟨_, Heap.get?_push_size _ rfl, rfl, rfl⟩, hat.push _⟩ (by rw [← lk]; exact hz) fun h' tk acc' c' hkeep hS hacc => ?_
  refine ⟨.ref (s1.heap.push { cls := .type "dict_values", data := .fields #[.ref d] }).objs.size, upd H1 _ (.lst (kvs.map (·.2))), I2.laid (t' := tk) hkeep (Nat.le_refl _) (show ObjOk X.prog X.w _ _ _ (.lst (kvs.map (·.2))) from ⟨?_, acc'.toList, c', ?_, ?_⟩), rfl, q _ (I2.hok.fresh (Nat.le_refl _))⟩
  · rw [List.length_map]; exact hz
  · have el : acc'.toList.length = acc'.size := by simp
    refine vals_of_at (by rw [List.length_map, el, hacc.1, lk]) fun j x w h1 h2 => ?_
    obtain ⟨k, hky⟩ := hacc.2 j w (by rw [← Array.getElem?_toList]; exact h2)
    exact kv_at kv h1 hky
  · rw [Array.toArray_toList]; exact hS
end
section
variable {X : Cx} {b : Bs} {pos apos cpos p : Pos} {e : Expr} {te : DTE}
@[simp] def dListVals (te : DTE) (ρ : R) (μ : M) (Q : W → M → Prop) : Prop := te ρ μ fun w μ1 => match dicW μ1 w with
  | some (_, ds) => Q (.d (.lst ds)) μ1
  | none => False
theorem de_listVals (hc : X.calm = true) (hm : X.mg "list" = none) (he : DE X b e te) (hg : Gl X "list") (hbase : attributeBase e "values" X.env (eval e X.env) = eval e X.env := by rfl) (hline : (apos.endLine == cpos.line) = true := by rfl)
    (hs : starEach [.Call (.Attribute e "values" apos) [] [] cpos] X.env = (false, eval (.Call (.Attribute e "values" apos) [] [] cpos) X.env) :: starEach [] X.env := by rfl) :
    DE X b (.Call (.Name "list" p) [.Call (.Attribute e "values" apos) [] [] cpos] [] pos) (dListVals te) := by
  obtain ⟨t1, p1, q1⟩ := he.ex
  refine ⟨_, pe_listVals hc p1 hg hm (by decide +kernel) hbase hline hs, fun {G m ρ μ σ H Q K} o r t k => ?_⟩
  refine q1 o r t fun v H1 G1 m1 w μ1 l1 o1 r1 t1 => ?_
  split at t1
  · rename_i ks ds e1
    obtain ⟨a, xs, rfl, h, hl, rp⟩ := dicW_ok o1.rel r1 e1
    refine ⟨a, _, rfl, h, fun q hq => ?_⟩
    have e2 : (ks.zip xs).map (·.2) = xs := by rw [List.map_snd_zip]; omega
    rw [e2]
    have hg := (o1.rel.new hq).1
    have l2 : Le G1 m1 (upd G1 q (.lst xs)) m1 := Le.know hg
    exact k _ _ _ m1 _ μ1 (l1.trans l2) (o1.mono l2 (o1.rel.know hq)) (.d (.lst upd_same (rp.mono l2.g))) t1
  · exact t1.elim
end
end DD
namespace DD
open PySem L2
/-! ### defs with keyword-only parameters -/
/-- keywords' values, from the left -/
structure DK (X : Cx) (b : Bs) (kws : List Keyword) (t : DTA) : Prop where
  ex : ∃ te : TA, PK X kws te ∧ ∀ {G : Hp} {m : Wd} {ρ : R} {μ : M} {σ : L2.St} {H : Hp} {Q : List W → M → Prop} {K : List V → Hp → Prop}, WOk b G m μ H → RelR b.cA G m σ ρ → t ρ μ Q →
    (∀ vs H' G' m' ws μ', Le G m G' m' → WOk b G' m' μ' H' → WRels b.cA G' m' vs ws → Q ws μ' → K vs H') → te σ H K
section
variable {X : Cx} {b : Bs} {pos p kpos : Pos} {e : Expr} {es : List Expr} {kws : List Keyword} {ta tr : DTA} {te : DTE} {nm : Option Str}
theorem dk_nil : DK X b [] dNil := ⟨_, pk_nil, fun {G m ρ μ σ H Q K} o _ t k => k [] H G m [] μ (Le.refl G m) o .nil t⟩
theorem dk_cons (ha : DE X b e te) (hr : DK X b kws tr) : DK X b (⟨nm, e, kpos⟩ :: kws) (dCons te tr) := by
  obtain ⟨ta', pa, qa⟩ := ha.ex
  obtain ⟨tr', pr, qr⟩ := hr.ex
  refine ⟨_, pk_cons pa pr, fun {G m ρ μ σ H Q K} o r t k => ?_⟩
  refine qa o r t fun v H1 G1 m1 w μ1 l1 o1 r1 t1 => ?_
  refine qr o1 (r.mono l1) t1 fun vs H2 G2 m2 ws μ2 l2 o2 r2 t2 => ?_
  exact k _ H2 G2 m2 _ μ2 (l1.trans l2) o2 (.cons (r1.mono l2) r2) t2
/-- a def whose keyword-only parameters take their defaults -/
structure CalB (P : Program) (w : World) (K : PySem.W.Frag) (mg : Str → Option Value) (base : Heap) (cA : Nat → Addr) (x : Str) (k : Nat) (S : FS) (dv : List D) : Prop where
  ex : ∃ (f : Addr) (fd : FuncData) (ps : List Str), FnOk P w K mg base (L2.CX P w) k f fd ps (spD cA S) ∧ mg x = some (.ref f) ∧ PySem.W.keepIn K (.ref f) = true ∧ ∃ (vs : List V) (ds : List Value), Vals vs ds ∧ Binds K fd ps ds ∧ ∀ G, Reps cA G vs dv
/-- a def called with n values and keywords, in the parameters' order -/
structure CalN (P : Program) (w : World) (K : PySem.W.Frag) (mg : Str → Option Value) (base : Heap) (cA : Nat → Addr) (x : Str) (k : Nat) (S : FS) (n : Nat) (ks : List Str) : Prop where
  ex : ∃ (f : Addr) (fd : FuncData) (ps : List Str) (g : List Value → List Value → List Value), FnOk P w K mg base (L2.CX P w) k f fd ps (spD cA S) ∧ mg x = some (.ref f) ∧ PySem.W.keepIn K (.ref f) = true ∧ KBn K fd ps n ks g (fun vs zs => vs ++ zs)
@[simp] def dAppB (c : CF1) (dv : List D) (xc : Exc → M → Prop) (ta : DTA) (ρ : R) (μ : M) (Q : W → M → Prop) : Prop := ta ρ μ fun ws μ1 => c (ws ++ dv.map W.d) μ1 Q xc
@[simp] def dAppN (c : CF1) (n m : Nat) (xc : Exc → M → Prop) (ta tk : DTA) (ρ : R) (μ : M) (Q : W → M → Prop) : Prop := ta ρ μ fun ws μ1 => tk ρ μ1 fun zs μ2 => (ws.length = n ∧ zs.length = m) ∧ c (ws ++ zs) μ2 Q xc
variable {x : Str} {S : FS} {j k n : Nat} {f : CF1} {dv : List D} {ks : List Str}
theorem WRels.appW {cA : Nat → Addr} {G : Hp} {m : Wd} {xs : List V} {ds : List D} {vs : List V} {ws : List W} (h : WRels cA G m vs ws) (r : Reps cA G xs ds) : WRels cA G m (vs ++ xs) (ws ++ ds.map W.d) := WRels.app h r.wrels
theorem de_calB (hle : ∀ {ws : List W} {μ : M} {Q : W → M → Prop} {xc : Exc → M → Prop}, f ws μ Q xc → callS S ws μ Q xc) (h : CalB X.prog X.w X.K X.mg X.base b.cA x k S dv) (hr : Room j X.A) (hj : k ≤ j) (hx : XOk X b) (ha : DA X b (e :: es) ta) (hg : Gl X x)
    (hdb : (x == ("__debug__" : Str)) = false := by decide) (he : starEach (e :: es) X.env = (false, eval e X.env) :: starEach es X.env := by rfl) (hpl : (backTo pos (starEach es X.env)).any (·.1) = false := by rfl) :
    DE X b (.Call (.Name x p) (e :: es) [] pos) (dAppB f dv b.xc ta) := by
  obtain ⟨fa, fd, ps, F, hm, hk, dvs, ds, hv, hb, hrep⟩ := h.ex
  obtain ⟨t', pa, qa⟩ := ha.ex
  refine ⟨_, pe_call F (hr.mono hj) hg hm hk hb hv hx pa hdb he hpl, fun {G m ρ μ σ H Q K} o r t kk => ?_⟩
  refine qa o r t fun vs H1 G1 m1 ws μ1 l1 o1 r1 t1 => ?_
  exact call_core o1 (r1.appW (hrep G1)) (hle t1) fun v H' G' m' w μ' l o' q t' => kk v H' G' m' w μ' (l1.trans l) o' q t'
theorem de_calN {tk : DTA} (hle : ∀ {ws : List W} {μ : M} {Q : W → M → Prop} {xc : Exc → M → Prop}, f ws μ Q xc → callS S ws μ Q xc) (h : CalN X.prog X.w X.K X.mg X.base b.cA x k S n ks) (hr : Room j X.A) (hj : k ≤ j) (hx : XOk X b) (ha : DA X b (e :: es) ta) (hw : DK X b kws tk) (hg : Gl X x)
    (hall : (backToKw pos (keywordEach kws X.env)).all (·.1.isSome) = true := by rfl) (hks : (backToKw pos (keywordEach kws X.env)).filterMap (·.1) = ks := by rfl)
    (hdb : (x == ("__debug__" : Str)) = false := by decide) (he : starEach (e :: es) X.env = (false, eval e X.env) :: starEach es X.env := by rfl)
    (hpl : ((backTo pos (starEach (e :: es) X.env)).any (·.1) || (backToKw pos (keywordEach kws X.env)).any (·.1.isNone)) = false := by rfl) :
    DE X b (.Call (.Name x p) (e :: es) kws pos) (dAppN f n ks.length b.xc ta tk) := by
  obtain ⟨fa, fd, ps, g, F, hm, hk, hb⟩ := h.ex
  obtain ⟨t', pa, qa⟩ := ha.ex
  obtain ⟨t2, pk, qk⟩ := hw.ex
  refine ⟨_, pe_callN F (hr.mono hj) hg hm hk hb hx pa pk hall hks hdb he hpl, fun {G m ρ μ σ H Q K} o r t kk => ?_⟩
  refine qa o r t fun vs H1 G1 m1 ws μ1 l1 o1 r1 t1 => ?_
  refine qk o1 (r.mono l1) t1 fun zs H2 G2 m2 ws2 μ2 l2 o2 r2 t2 => ?_
  refine ⟨by rw [r1.len]; exact t2.1.1, by rw [r2.len]; exact t2.1.2, ?_⟩
  exact call_core o2 ((r1.mono l2).app r2) (hle t2.2) fun v H' G' m' w μ' l o' q t' => kk v H' G' m' w μ' ((l1.trans l2).trans l) o' q t'
end
/-! ### max of a list -/
def maxL : List Int → Int
  | [] => 0
  | [a] => a
  | a :: b :: l => if maxL (b :: l) ≤ a then a else maxL (b :: l)
theorem maxL_mem : ∀ {l : List Int}, l ≠ [] → maxL l ∈ l
  | [a], _ => by simp [maxL]
  | a :: b :: l, _ => by
    have ih := maxL_mem (l := b :: l) (by simp)
    unfold maxL
    split
    · exact List.mem_cons_self ..
    · exact List.mem_cons_of_mem _ ih
theorem maxL_ge : ∀ {l : List Int} {x : Int}, x ∈ l → x ≤ maxL l
  | [a], x, h => by simp at h; subst h; simp [maxL]
  | a :: b :: l, x, h => by
    have ih := fun y (hy : y ∈ b :: l) => maxL_ge (l := b :: l) hy
    unfold maxL
    rcases List.mem_cons.mp h with rfl | h
    · split <;> omega
    · have := ih x h
      split <;> omega
theorem maxL_uniq {l : List Int} {m : Int} (h : m ∈ l) (k : ∀ y ∈ l, y ≤ m) : m = maxL l := by
  have h1 := maxL_ge h
  have h2 := k _ (maxL_mem (l := l) (fun e => by subst e; cases h))
  omega
def fMaxL (ds : List D) (q : D → Prop) : Prop := ∃ ns : List Int, ds = [lints ns] ∧ ns ≠ [] ∧ q (.int (maxL ns))
section
variable {X : Cx} {b : Bs} {pos p : Pos} {e : Expr} {ta : DTA}
theorem on_maxL {K : PySem.W.Frag} : OpN b (rMax K) fMaxL := by
  intro G m μ H vs ds q Kq w n f k
  obtain ⟨ns, rfl, hne, f⟩ := f
  obtain ⟨v, rfl, a, us, rfl, h, r⟩ := nows1 (d := .lst (ns.map D.int)) n
  rw [reps_ints_v r] at h
  refine ⟨a, ns, rfl, SqL.of h, List.length_pos_iff.mpr hne, fun m h1 h2 => ?_⟩
  rw [maxL_uniq h1 h2]
  exact give_old w (.int _) f k
theorem de_maxL (hc : X.calm = true) (hm : X.mg "max" = none) (ha : DA X b [e] ta) (hg : Gl X "max") (he : starEach [e] X.env = [(false, eval e X.env)] := by rfl) (hpl : (backTo pos (starEach [] X.env)).any (·.1) = false := by rfl) : DE X b (.Call (.Name "max" p) [e] [] pos) (dFn fMaxL ta) :=
  de_fn (on_maxL (K := X.K)) ha fun pa => pe_callB (cr_max hc) hg hm (by decide +kernel) pa (he := he) (hpl := hpl)
end
end DD
namespace DD
open PySem L2
/-! ### numbers and lists of them as data -/
abbrev nat (i : Nat) : D := .int (i : Int)
def nats (l : List Nat) : List D := l.map nat
theorem nat_inj {i j : Nat} : (nat i = nat j) ↔ i = j := by simp only [nat, D.int.injEq]; omega
@[simp] theorem int_nat_inj {i j : Nat} : ((i : Int) = (j : Int)) ↔ i = j := by omega
@[simp] theorem nats_inj : ∀ {a b : List Nat}, (nats a = nats b) ↔ a = b
  | [], [] => by simp
  | [], _ :: _ => by simp [nats]
  | _ :: _, [] => by simp [nats]
  | x :: a, y :: b => by
    have ih := nats_inj (a := a) (b := b)
    simp only [nats, List.map_cons, List.cons.injEq, nat_inj] at ih ⊢
    rw [ih]
@[simp] theorem nats_len (l : List Nat) : (nats l).length = l.length := by simp [nats]
@[simp] theorem nats_nil : nats [] = [] := rfl
theorem nats_cons (i : Nat) (l : List Nat) : nats (i :: l) = nat i :: nats l := rfl
@[simp] theorem nats_app (a b : List Nat) : nats a ++ nats b = nats (a ++ b) := by simp [nats]
@[simp] theorem nats_app1 (a : List Nat) (i : Nat) : nats a ++ [D.int (i : Int)] = nats (a ++ [i]) := by simp [nats]
@[simp] theorem nats_set (l : List Nat) (i v : Nat) : (nats l).set i (D.int (v : Int)) = nats (l.set i v) := by simp [nats, List.map_set]
theorem nats_get (l : List Nat) (i : Nat) : (nats l)[i]? = (l[i]?).map nat := by simp [nats]
theorem rngD_nats (n : Nat) : rngD 0 n = nats (List.range n) := by simp [rngD, nats, nat]
theorem atI_nats {l : List Nat} {i : Nat} (h : i < l.length) : atI (nats l) (i : Int) = some (D.int (l[i] : Int)) := by
  unfold atI ixN
  rw [if_pos (by omega), if_pos (by simpa using h)]
  simp [nats_get, h]
/-! ### forms of contracts that serve many defs -/
abbrev PF := List D → (D → Prop) → (Exc → Prop) → Prop
abbrev PG := List D → (D → Prop) → Prop
/-- data in, data out -/
def SPu (n : Nat) (F : PF) : FS := fun ws μ P => ∃ ds, ws = ds.map W.d ∧ ds.length = n ∧ μ = [] ∧ F ds (fun d => P (.ret (.d d)) []) (fun e => P (.exc e) [])
@[simp] def cfPu (n : Nat) (F : PF) (ws : List W) (μ : M) (Q : W → M → Prop) (xc : Exc → M → Prop) : Prop := match unD ws with
  | some ds => ds.length = n ∧ F ds (fun d => Q (.d d) μ) (fun e => xc e μ)
  | none => False
/-- the source stands at cell n -/
@[simp] def srcAt (μ : M) (n : Nat) : Bool := match μ[n]? with
  | some (.lst [.int _, .int _, .int _]) => true
  | _ => false
/-- the source and data in, data out -/
def SSr (n : Nat) (F : PG) : FS := fun ws μ P => ∃ (a b c : Int) (ds : List D), ws = .r 0 :: ds.map W.d ∧ ds.length = n ∧ μ = [.lst (src a b c)] ∧ F ds (fun d => ∀ a' b' c' : Int, P (.ret (.d d)) [.lst (src a' b' c')])
@[simp] def cfSr (n : Nat) (F : PG) (ws : List W) (μ : M) (Q : W → M → Prop) (_xc : Exc → M → Prop) : Prop := match ws with
  | .r k :: ws' => srcAt μ k = true ∧ match unD ws' with
    | some ds => ds.length = n ∧ F ds (fun d => ∀ a b c : Int, Q (.d d) (μ.set k (.lst (src a b c))))
    | none => False
  | _ => False
/-- an object is made of data -/
def SMk (c : Nat) (fs : List Str) (n : Nat) (F : List D → (List D → Prop) → Prop) : FS := fun ws μ P => ∃ ds, ws = .r 0 :: ds.map W.d ∧ ds.length = n ∧ μ = [.ins c [] []] ∧ F ds (fun vs => P (.ret (.d .non)) [.ins c fs (vs.map W.d)])
@[simp] def cfMk (c : Nat) (fs : List Str) (n : Nat) (F : List D → (List D → Prop) → Prop) (ws : List W) (μ : M) (Q : W → M → Prop) (_xc : Exc → M → Prop) : Prop := match unD ws with
  | some ds => ds.length = n ∧ F ds (fun vs => closedB μ.length μ = true ∧ Q (.d (.obj c fs vs)) μ)
  | none => False
section
variable {n : Nat} {F : PF} {FG : PG} {S : FS} {ws : List W} {μ : M} {Q : W → M → Prop} {xc : Exc → M → Prop} {P : Res → M → Prop}
theorem le_pu (h : cfPu n F ws μ Q xc) : callS (SPu n F) ws μ Q xc := by
  unfold cfPu at h
  split at h
  · rename_i ds e
    have := unD_map e
    subst this
    exact call0 (refs_map ds) ⟨ds, rfl, h.1, rfl, by simpa [th] using h.2⟩
  · exact h.elim
theorem len_pu (h : SPu n F ws μ P) : ws.length = n := by
  obtain ⟨ds, rfl, h, _⟩ := h
  simpa using h
theorem srcAt_ok {k : Nat} (h : srcAt μ k = true) : ∃ a b c, μ[k]? = some (.lst (src a b c)) := by
  unfold srcAt at h
  split at h
  · exact ⟨_, _, _, by assumption⟩
  · cases h
theorem le_sr (h : cfSr n FG ws μ Q xc) : callS (SSr n FG) ws μ Q xc := by
  unfold cfSr at h
  split at h
  · rename_i k ws'
    obtain ⟨hs, h⟩ := h
    split at h
    · rename_i ds e
      have := unD_map e
      subst this
      obtain ⟨a, b, c, hn⟩ := srcAt_ok hs
      refine call1 hn rfl (by simp [refsW, refs_map]) (by simp [refsW]) ⟨a, b, c, ds, by simp [ren], h.1, rfl, ?_⟩
      have e3 : (fun d => ∀ a' b' c' : Int, 1 ≤ ([.lst (src a' b' c')] : M).length ∧ Q (th [k] μ.length (.d d)) (merge μ [k] [.lst (src a' b' c')])) = fun d => ∀ a b c : Int, Q (.d d) (μ.set k (.lst (src a b c))) := by
        funext d
        simp [merge1l, th]
      exact e3 ▸ h.2
    · exact h.elim
  · exact h.elim
theorem len_sr (h : SSr n FG ws μ P) : ws.length = n + 1 := by
  obtain ⟨_, _, _, ds, rfl, h, _⟩ := h
  simpa using h
theorem le_Mk {c : Nat} {fs : List Str} {F : List D → (List D → Prop) → Prop} (h : cfMk c fs n F ws μ Q xc) : fMk (SMk c fs n F) c finD ws μ Q xc := by
  unfold cfMk at h
  split at h
  · rename_i ds e
    have := unD_map e
    subst this
    refine call1 (n := μ.length) (c := .ins c [] []) (by simp) rfl (by simp [refsW, refs_map]) (by simp [refsW]) ⟨ds, ?_, h.1, rfl, ?_⟩
    · rw [List.map_cons, ren_map]
      simp [ren]
    · have e3 : (fun vs : List D => 1 ≤ ([.ins c fs (vs.map W.d)] : M).length ∧ (fun (w : W) (μ2 : M) => w = .d .non ∧ finD μ.length μ2 Q) (th [μ.length] (μ ++ [Cell.ins c [] []]).length (.d .non)) (merge (μ ++ [Cell.ins c [] []]) [μ.length] [.ins c fs (vs.map W.d)])) = fun vs => closedB μ.length μ = true ∧ Q (.d (.obj c fs vs)) μ := by
        funext vs
        rw [merge1]
        have e2 : (μ ++ [Cell.ins c [] []]).set μ.length (renC (th [μ.length] (μ ++ [Cell.ins c [] []]).length) (.ins c fs (vs.map W.d))) = μ ++ [.ins c fs (vs.map W.d)] := by
          simp only [renC, th_map]
          simp
        rw [e2]
        have e4 : esc (μ ++ [.ins c fs (vs.map W.d)]) (.r μ.length) = some (.obj c fs vs, μ ++ [.frz (.obj c fs vs)]) := by
          simp [esc, esc0, unD_ofmap]
        apply propext
        show 1 ≤ 1 ∧ (W.d .non) = .d .non ∧ finD μ.length (μ ++ [.ins c fs (vs.map W.d)]) Q ↔ _
        unfold finD
        rw [e4]
        simp
      exact e3 ▸ h.2
  · exact h.elim
theorem len_Mk {c : Nat} {fs : List Str} {F : List D → (List D → Prop) → Prop} (h : SMk c fs n F ws μ P) : ws.length = n + 1 := by
  obtain ⟨ds, rfl, h, _⟩ := h
  simpa using h
/-! the callee gets the first k cells -/
theorem ren_range {k : Nat} {w : W} (h : ∀ j ∈ refsW w, j < k) : ren (List.range k) w = w := by
  cases w with
  | d d => rfl
  | r j =>
    have hj : j < k := h j (by simp [refsW])
    have e : (List.range k).idxOf j = j := by
      have h1 : (List.range k)[j]? = some j := by rw [List.getElem?_range hj]
      have := idx_at (List.nodup_range) h1
      exact this
    simp [ren, e]
theorem renC_range {k : Nat} {c : Cell} (h : ∀ j ∈ refsC c, j < k) : renC (ren (List.range k)) c = c := by
  have key : ∀ ws : List W, (∀ j ∈ ws.flatMap refsW, j < k) → ws.map (ren (List.range k)) = ws := fun ws h => by
    induction ws with
    | nil => rfl
    | cons w ws ih =>
      rw [List.map_cons, ren_range fun j hj => h j (by simp [hj]), ih fun j hj => h j (by simp at hj ⊢; exact .inr hj)]
  cases c with
  | ins c fs ws => simp only [renC]; rw [key ws h]
  | lstW ws => simp only [renC]; rw [key ws h]
  | _ => rfl
theorem callPre (k : Nat) (hk : k ≤ μ.length) (hr : reach μ 60 (ws.flatMap refsW) [] = List.range k) (hc : ∀ c ∈ μ.take k, ∀ j ∈ refsC c, j < k) (hw : ∀ j ∈ ws.flatMap refsW, j < k)
    (h : S ws (μ.take k) fun r μ2 => k ≤ μ2.length ∧ match r with
      | .ret w => Q (th (List.range k) μ.length w) (merge μ (List.range k) μ2)
      | .exc e => xc e (merge μ (List.range k) μ2)) : callS S ws μ Q xc := by
  unfold callS
  rw [hr]
  have key : ∀ ws : List W, (∀ j ∈ ws.flatMap refsW, j < k) → ws.map (ren (List.range k)) = ws := fun ws h => by
    induction ws with
    | nil => rfl
    | cons w ws ih =>
      rw [List.map_cons, ren_range fun j hj => h j (by simp [hj]), ih fun j hj => h j (by simp at hj ⊢; exact .inr hj)]
  have at_ : ∀ j, j < k → ∃ c, μ[j]? = some c ∧ c ∈ μ.take k := fun j hj => ⟨μ[j]'(by omega), List.getElem?_eq_getElem _, by
    refine List.mem_of_getElem? (i := j) ?_
    rw [List.getElem?_take_of_lt hj, List.getElem?_eq_getElem]⟩
  refine ⟨?_, ?_⟩
  · unfold okJs
    simp only [Bool.and_eq_true, List.all_eq_true, decide_eq_true_eq, List.contains_iff_mem, List.mem_range]
    refine ⟨⟨⟨List.nodup_range, fun j hj => by omega⟩, hw⟩, fun j hj => ?_⟩
    obtain ⟨c, e, hm⟩ := at_ j hj
    rw [e]
    simp only [List.all_eq_true, List.contains_iff_mem, List.mem_range]
    exact hc c hm
  · rw [key ws hw]
    have e2 : cellsOf μ (List.range k) = μ.take k := by
      apply List.ext_getElem?
      intro i
      unfold cellsOf
      by_cases hi : i < k
      · obtain ⟨c, e, hm⟩ := at_ i hi
        rw [List.getElem?_map, List.getElem?_range hi, List.getElem?_take_of_lt hi, e]
        simp [e, renC_range (hc c hm)]
      · rw [List.getElem?_eq_none (by simp; omega), List.getElem?_eq_none (by simp; omega)]
    rw [e2]
    have e4 : (fun (r : Res) (μ2 : M) => (List.range k).length ≤ μ2.length ∧ match r with
      | .ret w => Q (th (List.range k) μ.length w) (merge μ (List.range k) μ2)
      | .exc e => xc e (merge μ (List.range k) μ2)) = fun r μ2 => k ≤ μ2.length ∧ match r with
      | .ret w => Q (th (List.range k) μ.length w) (merge μ (List.range k) μ2)
      | .exc e => xc e (merge μ (List.range k) μ2) := by
      funext r μ2
      cases r <;> simp
    exact e4 ▸ h
theorem mergePre {k : Nat} {μ2 : M} (hk : k ≤ μ.length) (hl : μ2.length = k) (hc2 : ∀ c ∈ μ2, ∀ j ∈ refsC c, j < k) : merge μ (List.range k) μ2 = μ2 ++ μ.drop k := by
  have thn : ∀ {w : W}, (∀ j ∈ refsW w, j < k) → th (List.range k) μ.length w = w := fun {w} hw => by
    cases w with
    | d d => rfl
    | r j => have hj := hw j (by simp [refsW]); simp [th, thI, List.getElem?_range hj]
  have thw : ∀ ws : List W, (∀ j ∈ ws.flatMap refsW, j < k) → ws.map (th (List.range k) μ.length) = ws := fun ws h => by
    induction ws with
    | nil => rfl
    | cons w ws ih =>
      rw [List.map_cons, thn fun j hj => h j (by simp [hj]), ih fun j hj => h j (by simp at hj ⊢; exact .inr hj)]
  have thc : ∀ c ∈ μ2, renC (th (List.range k) μ.length) c = c := fun c hcm => by
    have := hc2 c hcm
    cases c with
    | ins c fs ws => simp only [renC]; rw [thw ws this]
    | lstW ws => simp only [renC]; rw [thw ws this]
    | _ => rfl
  have all : ∀ l : M, (∀ c ∈ l, c ∈ μ2) → l.map (renC (th (List.range k) μ.length)) = l := fun l hl => by
    induction l with
    | nil => rfl
    | cons c l ih => rw [List.map_cons, thc c (hl c (List.mem_cons_self ..)), ih fun d hd => hl d (List.mem_cons_of_mem _ hd)]
  unfold merge
  rw [all _ fun c hc => List.mem_of_mem_take hc, all _ fun c hc => List.mem_of_mem_drop hc]
  simp only [List.length_range]
  rw [List.drop_eq_nil_of_le (by omega), List.append_nil, List.take_of_length_le (by omega)]
  apply List.ext_getElem?
  intro i
  by_cases hi : i < k
  · rw [setAll_in (List.range k) μ μ2 i (μ2[i]'(by omega)) List.nodup_range (fun j hj => by simp at hj; omega) (by simpa using hi) (List.getElem?_eq_getElem _) i (by rw [List.getElem?_range hi]), List.getElem?_append_left (by omega), List.getElem?_eq_getElem]
  · rw [setAll_out _ _ _ _ (by simpa using hi), List.getElem?_append_right (by omega), List.getElem?_drop]
    congr 1
    omega
end
@[simp] theorem okD_int {n : Nat} {i : Int} : okD n (.int i) = true := by cases n <;> rfl
@[simp] theorem okD_bl {n : Nat} {b : Bool} : okD n (.bl b) = true := by cases n <;> rfl
@[simp] theorem okD_non {n : Nat} : okD n .non = true := by cases n <;> rfl
/-! what the simplifier may open -/
section
variable {k i : Nat} {μ : M} {ws : List W} {ds : List D} {c : Nat} {fs : List Str} {ρ : R} {te : DTE} {K : D → M → Prop} {N : M → Prop} {b : Bool}
@[simp] theorem closedB_s : closedB k μ = μ.all (closedC k) := rfl
@[simp] theorem closedC_lst : closedC k (.lst ds) = true := rfl
@[simp] theorem closedC_ins : closedC k (.ins c fs ws) = ws.all fun w => match w with
    | .r n => decide (n < k)
    | _ => true := rfl
@[simp] theorem closedC_lstW : closedC k (.lstW ws) = ws.all fun w => match w with
    | .r n => decide (n < k)
    | _ => true := rfl
@[simp] theorem closedC_frz {d : D} : closedC k (.frz d) = true := rfl
@[simp] theorem closedC_scr {ns : List Int} {S : Addr → Prop} : closedC k (.scr ns S) = true := rfl
@[simp] theorem closedC_dic {ks : List Key} : closedC k (.dic ks ds) = true := rfl
@[simp] theorem wipeR_nil : wipeR ρ [] = ρ := rfl
@[simp] theorem wipeR_cons {vs : List Nat} : wipeR ρ (i :: vs) = (wipeR ρ vs).set i none := rfl
@[simp] theorem lcE_s {ρ2 : R} {μ3 : M} : lcE te K N ρ2 b μ3 = if b = true then te ρ2 μ3 fun w μ4 => match esc μ4 w with
    | some (d', μ5) => K d' μ5
    | none => False
  else N μ3 := rfl
@[simp] theorem sizeLine_s : sizeLine = 16777216 := PySem.sizeLine_eq
end
theorem hu65 {k : Nat} {A : Around} (hr : Room k A) : A.units + 65 < cLine := by have := hr.un; omega
theorem hu1 {k : Nat} {A : Around} (hr : Room k A) : A.units + 1 < cLine := by have := hr.un; omega
/-! ### methods of one class with arguments -/
section
variable {X : Cx} {b : Bs} {pos p apos : Pos} {o e : Expr} {es : List Expr} {to : DTE} {ta : DTA} {x m : Str} {S : FS} {j k c : Nat} {f : CF1}
@[simp] def dMeL (c : Nat) (m : Str) (cf : CF1) (xc : Exc → M → Prop) (to : DTE) (ta : DTA) (ρ : R) (μ : M) (Q : W → M → Prop) : Prop := to ρ μ fun w μ1 => match insOf μ1 w with
  | some (c', fs, _) => c' = c ∧ m ∉ fs ∧ ta ρ μ1 fun ws μ2 => cf (w :: ws) μ2 Q xc
  | none => False
theorem de_meL {pl : Sem Bool} (hle : ∀ {ws : List W} {μ : M} {Q : W → M → Prop} {xc : Exc → M → Prop}, f ws μ Q xc → callS S ws μ Q xc) (hx : XOk X b) (h : Mec X.prog X.w X.K X.mg X.base b.cA m c k S) (hr : Room j X.A) (hj : k ≤ j) (ho : DE X b o to) (ha : DA X b (e :: es) ta)
    (hst : starEach (e :: es) X.env = (false, eval e X.env) :: starEach es X.env := by rfl) (hpl : (backTo pos (starEach es X.env)).any (·.1) = false := by rfl)
    (ht : eval (.Call (.Attribute o m apos) (e :: es) [] pos) X.env = (do
      let ov ← eval o X.env
      standAt apos.atName
      let (f, first) ← holding [ov] (getMethod ov m pl)
      callWith pos f first (backTo pos (starEach (e :: es) X.env)) (backToKw pos (keywordEach [] X.env))) := by rfl) : DE X b (.Call (.Attribute o m apos) (e :: es) [] pos) (dMeL c m f b.xc to ta) := by
  refine (de_meth (pl := pl) (tab := [(c, S)]) hx ((mect_cons h hj mect_nil).ok hr) ho.up ha.up hst hpl ht).weak fun ρ μ Q t => ⟨_, fun w μ1 z => ?_, t⟩
  cases e : insOf μ1 w with
  | none => simp only [e] at z
  | some y =>
    obtain ⟨c', fs, us⟩ := y
    simp only [e] at z ⊢
    obtain ⟨rfl, h1, h2⟩ := z
    exact ⟨h1, S, by simp [List.lookup], _, fun ws μ2 z => hle z, h2⟩
theorem de_meL0 {pl : Sem Bool} (hle : ∀ {ws : List W} {μ : M} {Q : W → M → Prop} {xc : Exc → M → Prop}, f ws μ Q xc → callS S ws μ Q xc) (hx : XOk X b) (h : Mec X.prog X.w X.K X.mg X.base b.cA m c k S) (hr : Room j X.A) (hj : k ≤ j) (ho : DE X b o to)
    (ht : eval (.Call (.Attribute o m apos) [] [] pos) X.env = (do
      let ov ← eval o X.env
      standAt apos.atName
      let (f, first) ← holding [ov] (getMethod ov m pl)
      callWith pos f first (backTo pos (starEach [] X.env)) (backToKw pos (keywordEach [] X.env))) := by rfl) : DE X b (.Call (.Attribute o m apos) [] [] pos) (dMeL c m f b.xc to dNil) := by
  refine (de_meth0 (pl := pl) (tab := [(c, S)]) hx ((mect_cons h hj mect_nil).ok hr) ho.up ht).weak fun ρ μ Q t => ⟨_, fun w μ1 z => ?_, t⟩
  cases e : insOf μ1 w with
  | none => simp only [e] at z
  | some y =>
    obtain ⟨c', fs, us⟩ := y
    simp only [e] at z ⊢
    obtain ⟨rfl, h1, h2⟩ := z
    exact ⟨h1, S, by simp [List.lookup], hle h2⟩
end
end DD
namespace DD
open PySem L2
/-! ### a list against [] -/
def rNil (neg : Bool) : R2 := fun x y H Q => ∃ (a b : Addr) (xs : List V), x = .ref a ∧ y = .ref b ∧ H a = some (.lst xs) ∧ H b = some (.lst []) ∧ Q (.bl (xs.isEmpty != neg)) H
section
variable {X : Cx}
theorem dp_nil {K : PySem.W.Frag} {H : Hp} {a : Addr} (h : H a = some (.lst [])) : ∃ p, toP (.lst []) = some p ∧ Dp K H (.ref a) p ∧ SeqAt.shaped p = true ∧ PyData.eqv p p = true := by
  obtain ⟨p, e1, c1, l1⟩ := okD_toP 60 (.lst []) rfl
  have n : Now (fun _ => 0) (fun _ => none) H (.ref a) (.lst []) := ⟨a, [], rfl, h, .nil⟩
  exact ⟨p, e1, Now.dp (fun _ _ z => by cases z) n e1, shaped_ok c1 l1, by rw [eqv_deq _ _ p p e1 e1]; rfl⟩
open PySem.SeqAt in
theorem op_nil (neg : Bool) (hu : X.A.units + 64 < cLine) : OpR X (compareOp (cop neg)) (rNil neg) := by
  intro pins s σ H x y v u Q I rx ry h
  obtain ⟨a, b, xs, rfl, rfl, ha, hb, q⟩ := h
  cases xs with
  | nil =>
    obtain ⟨p, e1, d1, s1, q1⟩ := dp_nil (K := X.K) ha
    obtain ⟨p', e2, d2, s2, q2⟩ := dp_nil (K := X.K) hb
    rw [e1] at e2
    cases e2
    cases neg with
    | false => exact op_eqD hu pins s σ H _ _ v u Q I rx ry ⟨p, p, d1, d2, s1, s2, by rw [q1]; exact q⟩
    | true => exact op_neD hu pins s σ H _ _ v u Q I rx ry ⟨p, p, d1, d2, s1, s2, by rw [q1]; exact q⟩
  | cons z xs =>
    cases rx
    cases ry
    obtain ⟨its, r, e, _⟩ := I.list (SqL.of ha)
    obtain ⟨its2, r2, e2, _⟩ := I.list (SqL.of hb)
    have hne : (its.toArray.size != its2.toArray.size) = true := by
      rw [List.size_toArray, List.size_toArray, ← r.length, ← r2.length]
      simp
    cases neg with
    | false => exact RcAt.lists_lengths e.isList e2.isList hne (by omega) X.prog X.w X.xe _ ⟨.bl _, H, I, rfl, q⟩
    | true => exact RcNeAt.lists_lengths e.isList e2.isList hne (by omega) X.prog X.w X.xe _ ⟨.bl _, H, I, rfl, q⟩
variable {b : Bs} {pos p2 : Pos} {e : Expr} {te : DTE}
/-- what the list holds, whatever it is -/
@[simp] def emptyW (μ : M) : W → Option Bool
  | .d (.lst ds) => some ds.isEmpty
  | .r n => match μ[n]? with
    | some (.lst ds) => some ds.isEmpty
    | some (.lstW ws) => some ws.isEmpty
    | some (.frz (.lst ds)) => some ds.isEmpty
    | _ => none
  | _ => none
@[simp] def dNil' (neg : Bool) (te : DTE) (ρ : R) (μ : M) (Q : Bool → M → Prop) : Prop := te ρ μ fun w μ1 => match emptyW μ1 w with
  | some c => Q (c != neg) μ1
  | none => False
theorem emptyW_ok {cA : Nat → Addr} {U G H : Hp} {m : Wd} {μ : M} {v : V} {w : W} {c : Bool} (r : RelM cA U G m μ H) (q : WRel cA G m v w) (h : emptyW μ w = some c) : ∃ a xs, v = .ref a ∧ H a = some (.lst xs) ∧ xs.isEmpty = c := by
  have key : ∀ {xs : List V} {n : Nat}, xs.length = n → xs.isEmpty = decide (n = 0) := fun {xs n} h => by cases xs <;> simp at h <;> subst h <;> rfl
  have key2 : ∀ {α : Type} (l : List α), l.isEmpty = decide (l.length = 0) := fun l => by cases l <;> rfl
  cases q with
  | d q =>
    cases q with
    | lst h1 r1 =>
      simp at h
      subst h
      exact ⟨_, _, rfl, r.gh _ _ h1, by rw [key r1.len, key2]⟩
    | _ => simp at h
  | @r n p as em =>
    simp only [emptyW] at h
    split at h
    · rename_i ds e
      cases h
      obtain ⟨p', xs, e1, e2, e3⟩ := r.cell n _ _ e em
      cases e1
      exact ⟨_, xs, rfl, e2, by rw [key e3.len, key2]⟩
    · rename_i ws e
      cases h
      obtain ⟨p', xs, e1, e2, e3⟩ := r.cell n _ _ e em
      cases e1
      exact ⟨_, xs, rfl, e2, by rw [key e3.len, key2]⟩
    · rename_i ds e
      cases h
      obtain ⟨p', e1, e2⟩ := r.cell n _ _ e em
      cases e1
      obtain ⟨a, xs, e3, e4, e5⟩ := e2.now r.gh
      cases e3
      exact ⟨_, xs, rfl, e4, by rw [key e5.len, key2]⟩
    · cases h
theorem dt_nil (neg : Bool) (hu : X.A.units + 64 < cLine) (ha : DE X b e te) (hm : behindInMarks (cop neg) (.List [] p2) = false := by rfl) : DT X b (.Compare e [cop neg] [.List [] p2] pos) (dNil' neg te) := by
  obtain ⟨t1, p1, q1⟩ := ha.ex
  refine ⟨_, pt_cmpR (op_nil neg hu) p1 (pe_lst pa_nil) hm, fun {G m ρ μ σ H Q K} o r t k => ?_⟩
  refine q1 o r t fun v H1 G1 m1 w μ1 l1 o1 r1 t1 => ?_
  split at t1
  · rename_i c e
    obtain ⟨a, xs, rfl, h1, h2⟩ := emptyW_ok o1.rel r1 e
    refine ⟨by simp, fun q hq => ?_⟩
    have ne : a ≠ q := ne_of_none h1 hq
    refine ⟨a, q, xs, rfl, rfl, by rw [upd_ne ne]; exact h1, upd_same, ?_⟩
    have hg := (o1.rel.new hq).1
    have l2 : Le G1 m1 (upd G1 q (.lst [])) m1 := Le.know hg
    subst h2
    exact ⟨_, rfl, k _ _ _ m1 μ1 (l1.trans l2) (o1.mono l2 (o1.rel.know hq)) t1⟩
  · exact t1.elim
end
end DD
namespace DD
open PySem L2
/-! ### l.extend(m) -/
def OpMs (b : Bs) (r : V → List V → Hp → VK → Prop) (f : List D → List D → (List D → D → Prop) → Prop) : Prop :=
  ∀ {G H : Hp} {p : Addr} {us vs : List V} {ds es : List D} {q : List D → D → Prop} {K : VK}, Sub G H → H p = some (.lst us) → Reps b.cA G us ds → Reps b.cA G vs es → f ds es q →
    (∀ us' v' ds' z, Reps b.cA G us' ds' → Rep b.cA G v' z → q ds' z → K v' (upd H p (.lst us'))) → r (.ref p) vs H K
theorem mut_coreS {b : Bs} {r : V → List V → Hp → VK → Prop} {f : List D → List D → (List D → D → Prop) → Prop} (hf : OpMs b r f) {G H : Hp} {m : Wd} {μ2 : M} {n : Nat} {p : Addr} {vs : List V} {ws : List W} {Q : W → M → Prop} {K : VK} (o2 : WOk b G m μ2 H) (hp : m[n]? = some [p]) (r2 : WRels b.cA G m vs ws)
    (t : match escs μ2 ws with
      | some (es, μ3) => match μ3[n]? with
        | some (.lst ds) => f ds es fun ds' z => Q (.d z) (μ3.set n (.lst ds'))
        | _ => False
      | none => False)
    (k : ∀ v H' G' m' w μ', Le G m G' m' → WOk b G' m' μ' H' → WRel b.cA G' m' v w → Q w μ' → K v H') : r (.ref p) vs H K := by
  split at t
  · rename_i es μ3 e1
    obtain ⟨G3, l3, r3, rp⟩ := escs_ok o2.rel r2 e1
    split at t
    · rename_i ds hc
      obtain ⟨p', us, e2, e3, e4⟩ := r3.cell n _ _ hc hp
      cases e2
      refine hf r3.gh e3 e4 rp t fun us' v' ds' z q1 q2 q3 => ?_
      exact k v' _ G3 m (.d z) _ l3 (o2.mono l3 (r3.write (c' := .lst ds') hc hp rfl (by simp) rfl ⟨p, us', rfl, upd_same, q1⟩)) (.d q2) q3
    · exact t.elim
  · exact t.elim
section
variable {X : Cx} {b : Bs} {pos apos : Pos} {o e : Expr} {es : List Expr} {to te : DTE} {ta : DTA} {name : Str}
theorem de_mutS {r : V → List V → Hp → VK → Prop} {f : List D → List D → (List D → D → Prop) → Prop} (hf : OpMs b r f) (ho : DE X b o to) (ha : DA X b (e :: es) ta)
    (hp : ∀ {to : TE} {ta : TA}, PE X o to → PA X (e :: es) ta → PE X (.Call (.Attribute o name apos) (e :: es) [] pos) (tBM X.K "list" r to ta)) : DE X b (.Call (.Attribute o name apos) (e :: es) [] pos) (dMut f to ta) := by
  obtain ⟨to', po, qo⟩ := ho.ex
  obtain ⟨ta', pa, qa⟩ := ha.ex
  refine ⟨_, hp po pa, fun {G m ρ μ σ H Q K} ok rr t k => ?_⟩
  refine qo ok rr t fun v H1 G1 m1 w μ1 l1 o1 r1 t1 => ?_
  split at t1
  · rename_i n
    obtain ⟨p, us, rfl, h1, h2⟩ := isLst_at o1 r1 t1.1
    refine ⟨.inl ⟨rfl, us, SqL.of h1⟩, ?_⟩
    refine qa o1 (rr.mono l1) t1.2 fun vs H2 G2 m2 ws μ2 l2 o2 r2 t2 => ?_
    exact mut_coreS hf o2 (l2.m _ _ h2) r2 t2 fun v H' G' m' w μ' l => k v H' G' m' w μ' (l1.trans (l2.trans l))
  · exact t1.elim
@[simp] def mExt (ds es : List D) (q : List D → D → Prop) : Prop := match es with
  | [.lst zs] => ds.length + zs.length ≤ sizeLine ∧ q (ds ++ zs) .non
  | _ => False
theorem om_ext : OpMs b rExtend mExt := by
  intro G H p us vs ds es q K hs h r1 r2 f k
  match es, r2, f with
  | [.lst zs], .cons r2 .nil, f =>
    cases r2 with
    | lst h2 r3 => exact ⟨p, _, us, _, rfl, rfl, h, hs _ _ h2, by rw [r1.len, r3.len]; exact f.1, k _ _ _ _ (r1.app r3) .non f.2⟩
end
/-! ### sorted(d.values()), the values tuples of ints -/
section
variable {prog : Program} {w : World} {A : Around} {E : Value → Shared → Prop} {s : Shared} {T : String} {r d : Addr} {n : Nat} {P : Nat → Value → Prop} {OK : Heap → Prop}
open PySem.Spec PyProof.Rows SrtO in
theorem sorted_view {ltv : Value → Value → Bool} {Q : Value → Shared → Prop} (K : PySem.W.KdlSrc prog w T r d n P OK) (hh : A.handled = none) (hok : OK s.heap) (hn : n ≤ sizeLine) (O : Swo ltv)
    (hS : ∀ (h₁ : Heap) (tk : Nat) (a : Addr) (vs : List Value), h₁.get? a = some (seqObj "list" vs.toArray 0) → (∀ b o, s.heap.get? b = some o → b ≠ a ∧ h₁.get? b = some o) → vs.length = n → (∀ (j : Nat) (v : Value), vs[j]? = some v → P j v) → 2 ≤ vs.length → SortableO prog w A.in1.in1 { s with heap := h₁, toks := tk } a vs ltv)
    (h : ∀ (h' : Heap) (tk : Nat) (vs out : List Value) (a : Addr) (ep : Nat), vs.length = n → (∀ (j : Nat) (v : Value), vs[j]? = some v → P j v) → Srtd ltv out → Stb ltv out vs → (∀ b o, s.heap.get? b = some o → h'.get? b = some o) → (∀ b o, s.heap.get? b = some o → b < a) → h'.get? a = some (seqObj "list" out.toArray ep) → Q (.ref a) { s with heap := h', toks := tk }) :
    wpAny (model prog w) A (call (.builtin "sorted") [.ref r]) Q E s := by
  refine Calls.call_function_entry kind_sorted plain_sorted entry_sorted (args_sorted1 _) ?_
  unfold Builtin.«sorted»
  refine wpAny_bind (m := checkCount "sorted" 1 1 _) (wpAny_pure ?_)
  refine wpAny_bind (PySem.W.kdu_collect (A := A.in1) K hh hok hn fun h' tk acc hk hacc => ?_)
  have hl : acc.toList.length = n := by rw [Array.length_toList]; exact hacc.1
  refine wpAny_bind (wpAny_newList ?_ (by rw [hl]; exact hn))
  have hz : acc.toList.length ≤ sizeLine := by rw [hl]; exact hn
  have hoL : (h'.push (seqObj "list" acc.toList.toArray 0)).get? h'.objs.size = some (seqObj "list" acc.toList.toArray 0) := Heap.get?_push_size _ rfl
  have hP : ∀ (j : Nat) (v : Value), acc.toList[j]? = some v → P j v := fun j v e => hacc.2 j v (by rw [← Array.getElem?_toList]; exact e)
  have keep : ∀ b o, s.heap.get? b = some o → b ≠ h'.objs.size ∧ (h'.push (seqObj "list" acc.toList.toArray 0)).get? b = some o := fun b o q => ⟨Nat.ne_of_lt (Heap.lt_size (hk _ _ q)), Heap.get?_push_of_some _ (hk _ _ q)⟩
  refine wpAny_bind (wpAny_holding (wpAny_call_entry slot_list_sort ⟨_, hoL, rfl⟩ entry_list_sort (list_sort_ord (s := { s with heap := h'.push (seqObj "list" acc.toList.toArray 0), toks := tk }) O hoL hz (fun h2 => hS _ tk _ _ hoL keep hl hP h2) fun out hs hb => ⟨_, rfl, ?_⟩) (args_list_sort _)))
  obtain ⟨ep, hat⟩ := sortedHeap_at (vs := acc.toList) (out := out.toArray) hoL
  refine wpAny_pure ⟨_, rfl, h _ tk acc.toList out h'.objs.size ep hl hP hs hb (fun b o q => ?_) (fun b o q => Heap.lt_size (hk _ _ q)) hat⟩
  have hlt := Heap.lt_size (hk _ _ q)
  rw [sortedHeap_old (Nat.ne_of_lt hlt) (by rw [size_push']; exact Nat.lt_succ_of_lt hlt)]
  exact (keep b o q).2
end
section
variable {b : Bs} {K : PySem.W.Frag} {G H : Hp}
theorem reps_each : ∀ {xs : List V} {gs : List (List Int)}, Reps b.cA G xs (gs.map tints) → ∀ x ∈ xs, ∃ g ∈ gs, Rep b.cA G x (tints g) := by
  intro xs gs
  induction gs generalizing xs with
  | nil => intro r; cases r; intro x hx; cases hx
  | cons g gs ih =>
    intro r
    cases r with
    | cons r rs =>
      intro x hx
      rcases List.mem_cons.mp hx with rfl | hx
      · exact ⟨g, List.mem_cons_self .., r⟩
      · obtain ⟨g', h1, h2⟩ := ih rs x hx
        exact ⟨g', List.mem_cons_of_mem _ h1, h2⟩
theorem sort_reps (gh : Sub G H) {us ys : List V} {gs : List (List Int)} (rp : Reps b.cA G us (gs.map tints)) (p1 : ys.Perm us) (p2 : ys.Pairwise (fun x y => ∀ n m, TupI K H x n → TupI K H y m → lexI m n = false)) : Reps b.cA G ys ((sortG gs).map tints) := by
  have srtd : ∀ {hs : List (List Int)} {xs : List V}, Reps b.cA G xs (hs.map tints) → xs.Pairwise (fun x y => ∀ n m, TupI K H x n → TupI K H y m → lexI m n = false) → hs.Pairwise fun a b => lexI b a = false := by
    intro hs
    induction hs with
    | nil => intro xs _ _; exact List.Pairwise.nil
    | cons h2 hs ih =>
      intro xs r p2
      cases r with
      | cons r rs =>
        obtain ⟨z1, z2⟩ := List.pairwise_cons.mp p2
        refine List.pairwise_cons.mpr ⟨fun g hg => ?_, ih rs z2⟩
        obtain ⟨i, hi, rfl⟩ := List.getElem_of_mem hg
        obtain ⟨v, hv, rv⟩ := rs.get' (i := i) (d := tints hs[i]) (by simp [hi])
        exact z1 v (List.mem_of_getElem? hv) _ _ (rep_tints gh r) (rep_tints gh rv)
  obtain ⟨es, q1, q2⟩ := reps_perm p1 rp
  obtain ⟨hs, rfl, q3⟩ := perm_map q1
  rw [sortG_uniq q3 (srtd q2 p2)] at q2
  exact q2
end
def rSortVals (K : PySem.W.Frag) : V → Hp → VK → Prop := fun x H Q => ∃ (d : Addr) (kvs : List (Key × V)), x = .ref d ∧ H d = some (.dK kvs) ∧ (∀ x ∈ kvs.map (·.2), ∃ ns, TupI K H x ns ∧ ns ≠ []) ∧
  ∀ (ys : List V) (p : Addr), ys.Perm (kvs.map (·.2)) → ys.Pairwise (fun x y => ∀ n m, TupI K H x n → TupI K H y m → lexI m n = false) → H p = none → Q (.ref p) (upd H p (.lst ys))
section
variable {X : Cx} {e : Expr} {te : TE} {p apos cpos pos : Pos}
open PySem.Spec PyProof.Rows in
theorem pe_sortVals (hc : X.calm = true) (he : PE X e te) (hg : Gl X "sorted") (hm : X.mg "sorted" = none) (hbase : attributeBase e "values" X.env (eval e X.env) = eval e X.env := by rfl) (hline : (apos.endLine == cpos.line) = true := by rfl)
    (hs : starEach [.Call (.Attribute e "values" apos) [] [] cpos] X.env = (false, eval (.Call (.Attribute e "values" apos) [] [] cpos) X.env) :: starEach [] X.env := by rfl) :
    PE X (.Call (.Name "sorted" p) [.Call (.Attribute e "values" apos) [] [] cpos] [] pos) (fun σ H Q => te σ H fun x H1 => rSortVals X.K x H1 Q) := by
  refine ⟨fun pins s σ H Q I hq => ?_⟩
  refine wpAny_Call_Name_kw (ld_blt I hg hm PyProof.Rows.boot_sorted ?_)
  refine PyProof.Rows.callWith_builtin1 ?_ hs rfl
  rw [hs]
  show wpAny _ _ (spliced ((false, eval (.Call (.Attribute e "values" apos) [] [] cpos) X.env) :: backTo pos (starEach [] X.env))) _ _ s
  refine Calls.spliced_cons ?_
  refine wpAny_Call_method (T := "dict") (id := "dict.values") hbase rfl hline F.plainAttrs_dict F.slot_dict_values F.type_dict_values (thn (he.run pins s σ H _ I hq) fun u s1 ⟨x, H1, I1, rx, d, kvs, ex, hd, hx, q⟩ => ?_)
  subst ex
  obtain rfl : u = Value.ref d := rx
  obtain ⟨hz, hs0, vs, kv, hdo⟩ := I1.hok d _ hd
  obtain ⟨ep, hat⟩ := hdo.dictAt
  have lk : kvs.length = vs.length := Paired.length kv
  have I2 : Inv X pins σ H1 { s1 with heap := s1.heap.push { cls := .type "dict_values", data := .fields #[.ref d] } } := I1.kept (t' := s1.toks) fun b ob q => Heap.get?_push_of_some _ q
  refine ⟨hdo.typeIs, hdo.mapOf.noDict, ?_⟩
  show wpAny _ _ (callWith cpos (.builtin "dict.values") [.ref d] [] []) _ X.xe s1
  refine method_meetsIn F.slot_dict_values F.entry_dict_values rfl (PySem.evalArgs_none ⟨rfl, hdo.typeIs, F.args_dict_values_1 _, _, meets_dict_values (mixKind X.prog X.w) d hs0, ⟨vs, hdo⟩, ?_⟩)
  refine Calls.spliced_nil ?_
  have hview : (s1.heap.push { cls := .type "dict_values", data := .fields #[.ref d] }).get? s1.heap.objs.size = some { cls := .type "dict_values", data := .fields #[.ref d] } := Heap.get?_push_size _ rfl
  have vals : ∀ {its : List Value}, its.length = vs.length → (∀ (j : Nat) (v : Value), its[j]? = some v → ∃ k, vs[j]? = some (k, v)) → Vals (kvs.map (·.2)) its := fun {its} hl hv =>
    vals_of_at (by rw [List.length_map, hl, lk]) fun j x w h1 h2 => by
      obtain ⟨k, hky⟩ := hv j w h2
      exact kv_at kv h1 hky
  have refsV : ∀ {its : List Value}, Vals (kvs.map (·.2)) its → (kvs.map (·.2) = its.map bkV) ∧ ∀ v ∈ its, ∃ t, v = Value.ref t := fun {its} rv => bkV_refs rv fun x m => by
    obtain ⟨ns, ⟨t, e, _⟩, _⟩ := hx x m
    exact ⟨t, e⟩
  have key : ∀ {its : List Value}, Vals (kvs.map (·.2)) its → ∀ v ∈ its, TS.TupInts s1.heap v (TS.intsOf s1.heap v) ∧ TS.intsOf s1.heap v ≠ [] := fun {its} rv v hv => by
    obtain ⟨e1, e2⟩ := refsV rv
    obtain ⟨t, rfl⟩ := e2 v hv
    have hm : V.ref t ∈ kvs.map (·.2) := by
      rw [e1]
      exact List.mem_map.mpr ⟨_, hv, rfl⟩
    obtain ⟨ns, ⟨t', e, ht⟩, hn⟩ := hx _ hm
    cases e
    have := tupI_raw I1 ht
    rw [this.ints]
    exact ⟨this, hn⟩
  refine sorted_view (PySem.W.kdl_values (knd := mixKind X.prog X.w) (kvs := vs) (ep := ep)) (I1.ok.hd hc) ⟨⟨_, hview, rfl, rfl⟩, hat.push _⟩ (by rw [← lk]; exact hz) (swo_lexI (TS.intsOf s1.heap)) (fun h₁ tk a its ha kk hl hv h2 => ?_) fun h' tk its out a ep' hl hv h1 h2 hkeep hlt hat' => ?_
  · have rv := vals hl hv
    refine tups_sortable (s := { s1 with heap := h₁, toks := tk }) (by omega) (fun v hm => ⟨(key rv v hm).1.keeps fun b o e _ => (kk b o (Heap.get?_push_of_some _ e)).2, (key rv v hm).2⟩) fun o e => ?_
    have e' : some o = some (seqObj "list" its.toArray 0) := e.symm.trans ha
    cases e'
    intro c
    exact absurd (Value.type.inj c) (by decide)
  · have rv := vals hl hv
    obtain ⟨e1, e2⟩ := refsV rv
    have h3 : ∀ u ∈ out, ∃ a, u = Value.ref a := fun u hu => e2 u (h2.perm.mem_iff.mp hu)
    have hp : (out.map bkV).Perm (kvs.map (·.2)) := by
      rw [e1]
      exact h2.perm.map bkV
    have hlen : (out.map bkV).length ≤ sizeLine := by
      rw [hp.length_eq, List.length_map]
      exact hz
    have fresh : (s1.heap.push { cls := .type "dict_values", data := .fields #[.ref d] }).objs.size ≤ a := by
      have := hlt _ _ hview
      rw [PyProof.Rows.size_push']
      exact this
    refine ⟨.ref a, upd H1 a (.lst (out.map bkV)), I2.laid (t' := tk) hkeep fresh ⟨hlen, out, ep', bkV_vals h3, hat'⟩, rfl, q _ _ hp ?_ (I2.hok.fresh fresh)⟩
    rw [List.pairwise_map]
    refine List.Pairwise.imp (fun {u v} huv n m hn hm => ?_) h1
    obtain ⟨t, et, ht⟩ := hn
    obtain ⟨t', et', ht'⟩ := hm
    have eu := bkV_ref et
    have ev := bkV_ref et'
    have i1 : TS.intsOf s1.heap u = n := by
      rw [eu]
      exact (tupI_raw I1 ht).ints
    have i2 : TS.intsOf s1.heap v = m := by
      rw [ev]
      exact (tupI_raw I1 ht').ints
    rw [← i1, ← i2]
    exact huv
end
section
variable {X : Cx} {b : Bs} {pos apos cpos p : Pos} {e : Expr} {te : DTE}
@[simp] def dSortVals (te : DTE) (ρ : R) (μ : M) (Q : W → M → Prop) : Prop := te ρ μ fun w μ1 => match dicW μ1 w with
  | some (_, ds) => ∃ gs : List (List Int), ds = gs.map tints ∧ (∀ g ∈ gs, g ≠ []) ∧ Q (.d (.lst ((sortG gs).map tints))) μ1
  | none => False
theorem de_sortVals (hc : X.calm = true) (hm : X.mg "sorted" = none) (he : DE X b e te) (hg : Gl X "sorted") (hbase : attributeBase e "values" X.env (eval e X.env) = eval e X.env := by rfl) (hline : (apos.endLine == cpos.line) = true := by rfl)
    (hs : starEach [.Call (.Attribute e "values" apos) [] [] cpos] X.env = (false, eval (.Call (.Attribute e "values" apos) [] [] cpos) X.env) :: starEach [] X.env := by rfl) :
    DE X b (.Call (.Name "sorted" p) [.Call (.Attribute e "values" apos) [] [] cpos] [] pos) (dSortVals te) := by
  obtain ⟨t1, p1, q1⟩ := he.ex
  refine ⟨_, pe_sortVals hc p1 hg hm hbase hline hs, fun {G m ρ μ σ H Q K} o r t k => ?_⟩
  refine q1 o r t fun v H1 G1 m1 w μ1 l1 o1 r1 t1 => ?_
  split at t1
  · rename_i ks ds e1
    obtain ⟨gs, rfl, hne, t1⟩ := t1
    obtain ⟨a, xs, rfl, h, hl, rp⟩ := dicW_ok o1.rel r1 e1
    have e2 : (ks.zip xs).map (·.2) = xs := by rw [List.map_snd_zip]; omega
    refine ⟨a, _, rfl, h, fun x hx => ?_, fun ys q p1 p2 hq => ?_⟩
    · rw [e2] at hx
      obtain ⟨g, h1, h2⟩ := reps_each (b := b) rp x hx
      exact ⟨g, rep_tints o1.rel.gh h2, hne g h1⟩
    · rw [e2] at p1
      have rp2 := sort_reps (b := b) o1.rel.gh rp p1 p2
      have hg := (o1.rel.new hq).1
      have l2 : Le G1 m1 (upd G1 q (.lst ys)) m1 := Le.know hg
      exact k _ _ _ m1 _ μ1 (l1.trans l2) (o1.mono l2 (o1.rel.know hq)) (.d (.lst upd_same (rp2.mono l2.g))) t1
  · exact t1.elim
end
/-! ### a, b, c = x, y, z -/
section
variable {X : Cx} {b : Bs} {st : Stmt}
@[simp] def dPar3 (i j l : Nat) (ta : DTA) (D : DEnds) (ρ : R) (μ : M) : Prop := ta ρ μ fun ws μ1 => match ws with
  | [w, z, u] => D.nx (((ρ.set i (some w)).set j (some z)).set l (some u)) μ1
  | _ => False
theorem ds_par3 {i j l : Nat} {es : List Expr} {ta : DTA} (ha : DA X b es ta) (hp : ∀ {ta : TA}, PA X es ta → PS X st (tPar3 i j l ta)) : DS X b st (dPar3 i j l ta) := by
  obtain ⟨t', p, q⟩ := ha.ex
  refine ⟨_, hp p, fun {G m ρ μ σ H D E} o r t k => ?_⟩
  refine q o r t fun vs H1 G1 m1 ws μ1 l1 o1 r1 t1 => ?_
  match ws, r1, t1 with
  | [w, z, u], .cons r1 (.cons r2 (.cons r3 .nil)), t1 => exact ⟨_, _, _, rfl, k.nx _ H1 G1 m1 _ μ1 l1 o1 ((((r.mono l1).set r1 i).set r2 j).set r3 l) t1⟩
end
end DD
namespace DD
open PySem L2
/-! ### a comprehension whose elements may be live lists -/
def dLcW (ti : DTI) (g : DTG) (tt : DTT) (te : DTE) (vs : List Nat) (ρ : R) (μ : M) (Q : W → M → Prop) : Prop := ti ρ μ fun s μ1 => ∃ P : Nat → M → Prop, P 0 (μ1 ++ [.lstW []]) ∧
  (∀ i μ', i ≤ s.items.length → P i μ' → s.ok μ') ∧
  (∀ i w μ', s.items[i]? = some w → P i μ' → g w (wipeR ρ vs) μ' fun ρ2 μ2 => tt ρ2 μ2 fun c μ3 =>
    if c = true then te ρ2 μ3 fun w μ4 => ∃ acc, μ4[μ1.length]? = some (.lstW acc) ∧ acc.length < sizeLine ∧ P (i + 1) (μ4.set μ1.length (.lstW (acc ++ [w])))
    else P (i + 1) μ3) ∧
  ∀ μ', P s.items.length μ' → Q (.r μ1.length) μ'
theorem lc_coreW {X : Cx} {b : Bs} {wi : TI} {g : TG} {tt : TT} {te : TE} {ti : DTI} {dg : DTG} {dt : DTT} {de : DTE} {vs : List Nat}
    (qi : ∀ {G : Hp} {m : Wd} {ρ : R} {μ : M} {σ : L2.St} {H : Hp} {Q : Src → M → Prop} {K : It → Hp → Prop}, WOk b G m μ H → RelR b.cA G m σ ρ → ti ρ μ Q → (∀ J H' G' m' s μ', Le G m G' m' → WOk b G' m' μ' H' → SrcOk b G' m' s J → Q s μ' → K J H') → wi σ H K)
    (qg : ∀ {G : Hp} {m : Wd} {ρ : R} {μ : M} {σ : L2.St} {H : Hp} {v : V} {w : W} {Q : R → M → Prop} {K : L2.St → Hp → Prop}, WOk b.q G m μ H → RelR b.q.cA G m σ ρ → WRel b.q.cA G m v w → dg w ρ μ Q →
      (∀ σ' H' G' m' ρ' μ', Le G m G' m' → WOk b.q G' m' μ' H' → RelR b.q.cA G' m' σ' ρ' → L2.wipe σ' vs = L2.wipe σ vs → Q ρ' μ' → K σ' H') → g v σ H K)
    (qt : ∀ {G : Hp} {m : Wd} {ρ : R} {μ : M} {σ : L2.St} {H : Hp} {Q : Bool → M → Prop} {K : Bool → Hp → Prop}, WOk b.q G m μ H → RelR b.q.cA G m σ ρ → dt ρ μ Q → (∀ c H' G' m' μ', Le G m G' m' → WOk b.q G' m' μ' H' → Q c μ' → K c H') → tt σ H K)
    (qe : ∀ {G : Hp} {m : Wd} {ρ : R} {μ : M} {σ : L2.St} {H : Hp} {Q : W → M → Prop} {K : VK}, WOk b.q G m μ H → RelR b.q.cA G m σ ρ → de ρ μ Q → (∀ v H' G' m' w μ', Le G m G' m' → WOk b.q G' m' μ' H' → WRel b.q.cA G' m' v w → Q w μ' → K v H') → te σ H K)
    {G : Hp} {m : Wd} {ρ : R} {μ : M} {σ : L2.St} {H : Hp} {Q : W → M → Prop} {K : VK} (o : WOk b G m μ H) (r : RelR b.cA G m σ ρ) (t : dLcW ti dg dt de vs ρ μ Q)
    (k : ∀ v H' G' m' w μ', Le G m G' m' → WOk b G' m' μ' H' → WRel b.cA G' m' v w → Q w μ' → K v H') : tLc wi g tt te vs σ H K := by
  refine qi o r t fun J H1 G1 m1 s μ1 l1 o1 so ⟨P, h0, hok, hstep, hend⟩ D hD => ?_
  have lc0 : Le G1 m1 G1 (m1 ++ [[D]]) := Le.cellNew
  have hD0 : (m1 ++ [[D]])[μ1.length]? = some [D] := by rw [← o1.rel.len]; simp
  refine ⟨fun i n H => n = s.items.length - i ∧ i ≤ s.items.length ∧ ∃ G' m' μ', Le G1 m1 G' m' ∧ WOk b G' m' μ' H ∧ m'[μ1.length]? = some [D] ∧ P i μ', ⟨s.items.length, by simp, Nat.zero_le _, G1, m1 ++ [[D]], μ1 ++ [.lstW []], lc0, ?_, hD0, h0⟩, ?_⟩
  · exact o1.mono lc0 (o1.rel.cellNew (c := .lstW []) hD ⟨D, [], rfl, upd_same, .nil⟩)
  rintro i n H2 ⟨rfl, hi, G2, m2, μ2, l2, o2, hd2, hP⟩
  have ok2 := hok i μ2 hi hP
  by_cases hlt : i < s.items.length
  · refine .inr ⟨so.go l2 o2 ok2 hlt, fun H' => ∃ G' m' μ', Le G1 m1 G' m' ∧ WOk b G' m' μ' H' ∧ m'[μ1.length]? = some [D] ∧ P (i + 1) μ', fun H' z => ⟨_, by omega, rfl, hlt, z⟩, fun x H3 y => ?_⟩
    obtain ⟨G3, d, l3, o3, e3, r3⟩ := so.yld l2 o2 ok2 y hlt
    have st := hstep i d μ2 e3 hP
    have r2 : RelR b.cA G3 m2 (L2.wipe σ vs) (wipeR ρ vs) := (((r.mono l1).mono l2).mono l3).wipe vs
    have wipe2 : L2.wipe (L2.wipe σ vs) vs = L2.wipe σ vs := wipe_wipe vs
    refine qg (v := x) (w := d) o3.q r2 r3 st fun σ4 H4 G4 m4 ρ4 μ4 l4 o4 r4 z4 t4 => ⟨z4.trans wipe2, ?_⟩
    refine qt o4 r4 t4 fun c H5 G5 m5 μ5 l5 o5 t5 => ?_
    have l25 : Le G1 m1 G5 m5 := l2.trans (l3.trans (l4.trans l5))
    have hd5 : m5[μ1.length]? = some [D] := l5.m _ _ (l4.m _ _ (l3.m _ _ hd2))
    cases c with
    | false => exact ⟨G5, m5, μ5, l25, o5.unq, hd5, t5⟩
    | true =>
      refine qe o5 (r4.mono l5) t5 fun y H6 G6 m6 w6 μ6 l6 o6 r6 t6 => ?_
      obtain ⟨acc, hc, hz, h7⟩ := t6
      have hd6 := l6.m _ _ hd5
      obtain ⟨p', xs, e8, e9, e10⟩ := o6.rel.cell _ _ _ hc hd6
      cases e8
      refine ⟨xs, e9, by rw [e10.len]; exact hz, G6, m6, _, l25.trans l6, ?_, hd6, h7⟩
      exact o6.unq.mono (Le.refl _ _) (o6.rel.write (c' := .lstW (acc ++ [w6])) hc hd6 rfl (by simp) rfl ⟨D, _, rfl, upd_same, e10.app (.cons r6 .nil)⟩)
  · have e : i = s.items.length := by omega
    subst e
    refine .inl ⟨so.stop l2 o2 ok2, ?_⟩
    exact k _ H2 G2 m2 (.r μ1.length) μ2 (l1.trans l2) o2 (.r (as := []) hd2) (hend μ2 hP)
section
variable {X : Cx} {b : Bs} {elt tg iter : Expr} {ifs : List Expr} {scope : Scope} {own : List (Str × Nat)} {pos : Pos} {ti : DTI} {g : DTG} {tt : DTT} {te : DTE}
theorem de_lcW (hc : X.calm = true) (hN : X.N.Nodup) (hi : DI X b tg iter ti) (ok : BlkOk X.N X.env.scope scope own) (hg : ∀ X', Blk X scope X' → DGo X' b.q (own.map (·.2)) tg g) (ht : ∀ X', Blk X scope X' → DTs X' b.q ifs tt) (he : ∀ X', Blk X scope X' → DE X' b.q elt te)
    (hs : ∀ x, foldedSetIterable iter X.env x = pure x := by intro _; rfl) : DE X b (.ListComp elt [⟨tg, iter, ifs, 0⟩] scope pos) (dLcW ti g tt te (own.map (·.2))) := by
  obtain ⟨wi, p1, q1⟩ := hi.ex
  obtain ⟨g', p2, q2⟩ := uni_g hg
  obtain ⟨t', p3, q3⟩ := uni_t ht
  obtain ⟨e', p4, q4⟩ := uni_e he
  refine ⟨_, pe_lc hc hN p1 ok (fun s H C cl fp => p2 _ ⟨s, H, C, cl, fp, rfl⟩) (fun s H C cl fp => p3 _ ⟨s, H, C, cl, fp, rfl⟩) (fun s H C cl fp => p4 _ ⟨s, H, C, cl, fp, rfl⟩) hs, fun {G m ρ μ σ H Q K} o r t k => ?_⟩
  exact lc_coreW (X := X) q1 q2 q3 q4 o r t k
/-- name = [..] on one line -/
theorem ds_setLcW {i : Nat} {y : Str} {py spos : Pos} (hc : X.calm = true) (hN : X.N.Nodup) (hy : X.N[i]? = some y) (hyl : X.env.scope.names.lookup y = some .local) (hsw : swapsWith (.ListComp elt [⟨tg, iter, ifs, 0⟩] scope pos) (some (.Name y py)) spos.line X.env = pure true)
    (hi : DI X b tg iter ti) (ok : BlkOk X.N X.env.scope scope own) (hg : ∀ X', Blk X scope X' → DGo X' b.q (own.map (·.2)) tg g) (ht : ∀ X', Blk X scope X' → DTs X' b.q ifs tt) (he : ∀ X', Blk X scope X' → DE X' b.q elt te)
    (hs : ∀ x, foldedSetIterable iter X.env x = pure x := by intro _; rfl) : DS X b (.Assign [.Name y py] (.ListComp elt [⟨tg, iter, ifs, 0⟩] scope pos) spos) (dAsg (dLcW ti g tt te (own.map (·.2))) (gN i)) := by
  obtain ⟨wi, p1, q1⟩ := hi.ex
  obtain ⟨g', p2, q2⟩ := uni_g hg
  obtain ⟨t', p3, q3⟩ := uni_t ht
  obtain ⟨e', p4, q4⟩ := uni_e he
  refine ⟨_, ps_setLc hc hN hy hyl hsw p1 ok (fun s H C cl fp => p2 _ ⟨s, H, C, cl, fp, rfl⟩) (fun s H C cl fp => p3 _ ⟨s, H, C, cl, fp, rfl⟩) (fun s H C cl fp => p4 _ ⟨s, H, C, cl, fp, rfl⟩) hs, fun {G m ρ μ σ H D E} o r t k => ?_⟩
  exact lc_coreW (X := X) q1 q2 q3 q4 o r t fun v H' G' m' w μ' l o' r' t' => k.nx _ H' G' m' _ μ' l o' ((r.mono l).set r' i) t'
end
/-! ### l.pop() of a list of live things -/
section
variable {X : Cx} {b : Bs} {pos apos : Pos} {o : Expr} {to : DTE}
@[simp] def dPopW (to : DTE) (ρ : R) (μ : M) (Q : W → M → Prop) : Prop := to ρ μ fun w μ1 => match w with
  | .r n => match μ1[n]? with
    | some (.lstW ws) => match ws[ws.length - 1]? with
      | some x => Q x (μ1.set n (.lstW ws.dropLast))
      | none => False
    | _ => False
  | _ => False
theorem WRels.get1 {cA : Nat → Addr} {G : Hp} {m : Wd} : ∀ {vs : List V} {ws : List W} {i : Nat} {w : W}, WRels cA G m vs ws → ws[i]? = some w → ∃ v, vs[i]? = some v ∧ WRel cA G m v w
  | _, _, _, _, .nil, h => by simp at h
  | _, _, 0, _, .cons r _, h => by simp at h; subst h; exact ⟨_, rfl, r⟩
  | _, _, i + 1, _, .cons _ rs, h => by simpa using rs.get1 (i := i) (by simpa using h)
theorem de_popW (ho : DE X b o to) (hp : ∀ {to : TE}, PE X o to → PE X (.Call (.Attribute o "pop" apos) [] [] pos) (tBM0 X.K "list" rPop to)) : DE X b (.Call (.Attribute o "pop" apos) [] [] pos) (dPopW to) := by
  obtain ⟨to', po, qo⟩ := ho.ex
  refine ⟨_, hp po, fun {G m ρ μ σ H Q K} ok rr t k => ?_⟩
  refine qo ok rr t fun v H1 G1 m1 w μ1 l1 o1 r1 t1 => ?_
  split at t1
  · rename_i n
    split at t1
    · rename_i ws hc
      split at t1
      · rename_i x hx
        cases r1 with
        | @r _ p as e =>
        obtain ⟨p', us, e1, e2, e3⟩ := o1.rel.cell n _ _ hc e
        cases e1
        obtain ⟨y, hy, ry⟩ := e3.get1 hx
        refine ⟨.inl ⟨rfl, us, SqL.of e2⟩, p, us, y, rfl, rfl, e2, by rw [e3.len]; exact hy, ?_⟩
        have dl : WRels b.cA G1 m1 us.dropLast ws.dropLast := by
          rw [List.dropLast_eq_take, List.dropLast_eq_take, e3.len]
          exact e3.take _
        exact k _ _ G1 m1 x _ l1 (o1.mono (Le.refl _ _) (o1.rel.write (c' := .lstW ws.dropLast) hc e rfl (by simp) rfl ⟨p, _, rfl, upd_same, dl⟩)) ry t1
      · exact t1.elim
    · exact t1.elim
  · exact t1.elim
end
end DD
namespace DD
open PySem L2
/-! ### live lists are lent to an expression that only reads them -/
mutual
/-- data without lists and dicts -/
def noL : D → Bool
  | .non => true
  | .bl _ => true
  | .int _ => true
  | .str _ => true
  | .tup ds => noLs ds
  | .obj _ _ ds => noLs ds
  | .lst _ => false
  | .dic _ _ => false
def noLs : List D → Bool
  | [] => true
  | d :: ds => noL d && noLs ds
end
section
variable {cA : Nat → Addr} {G G3 : Hp}
mutual
theorem rep_thaw (h : ∀ a o, G a = some o → (∀ xs, o ≠ .lst xs) → G3 a = some o) : ∀ {v : V} {d : D}, Rep cA G v d → noL d = true → Rep cA G3 v d
  | _, _, .non, _ => .non
  | _, _, .bl b, _ => .bl b
  | _, _, .int i, _ => .int i
  | _, _, .str s, _ => .str s
  | _, _, .tup e r, n => .tup (h _ _ e (fun _ c => by cases c)) (reps_thaw h r (by simpa [noL] using n))
  | _, _, .lst e r, n => by simp [noL] at n
  | _, _, .obj e l r, n => .obj (h _ _ e (fun _ c => by cases c)) l (reps_thaw h r (by simpa [noL] using n))
  | _, _, .dic e l r, n => by simp [noL] at n
theorem reps_thaw (h : ∀ a o, G a = some o → (∀ xs, o ≠ .lst xs) → G3 a = some o) : ∀ {vs : List V} {ds : List D}, Reps cA G vs ds → noLs ds = true → Reps cA G3 vs ds
  | _, _, .nil, _ => .nil
  | _, _, .cons r rs, n => by
    simp only [noLs, Bool.and_eq_true] at n
    exact .cons (rep_thaw h r n.1) (reps_thaw h rs n.2)
end
end
/-- the memory before and while lists are lent -/
def lendC : Cell → Cell → Prop
  | .lst ds, .lst ds1 => ds = ds1 ∧ noLs ds = true
  | .lst _, .frz (.lst _) => True
  | .lstW _, .frz (.lst _) => True
  | .frz d, .frz d1 => d = d1
  | .scr ns S, .scr ns1 S1 => ns = ns1 ∧ S = S1
  | _, _ => False
def lendOk : M → M → Prop
  | [], [] => True
  | c :: μ, c1 :: μ1 => lendC c c1 ∧ lendOk μ μ1
  | _, _ => False
theorem lend_len : ∀ {μ μ1 : M}, lendOk μ μ1 → μ1.length = μ.length
  | [], [], _ => rfl
  | _ :: _, _ :: _, h => by simp [lend_len h.2]
  | [], _ :: _, h => h.elim
  | _ :: _, [], h => h.elim
theorem lend_get : ∀ {μ μ1 : M}, lendOk μ μ1 → ∀ {i : Nat} {c : Cell}, μ[i]? = some c → ∃ c1, μ1[i]? = some c1 ∧ lendC c c1
  | c :: μ, c1 :: μ1, h, 0, x, e => by simp at e; subst e; exact ⟨c1, rfl, h.1⟩
  | c :: μ, c1 :: μ1, h, i + 1, x, e => by simpa using lend_get h.2 (i := i) (by simpa using e)
  | [], [], _, i, c, e => by simp at e
  | [], _ :: _, h, _, _, _ => h.elim
  | _ :: _, [], h, _, _, _ => h.elim
open Classical in
theorem thaw {cA : Nat → Addr} {U G G1 G2 H H2 : Hp} {m m2 : Wd} {μ μ1 : M} (r0 : RelM cA U G m μ H) (r1 : RelM cA U G1 m μ1 H) (l1 : Le G m G1 m) (l2 : Le G1 m G2 m2) (r2 : RelM cA U G2 m2 μ1 H2) (ok : lendOk μ μ1) :
    ∃ G3, Le G m G3 m ∧ RelM cA U G3 m μ H2 ∧ ∀ a o, G2 a = some o → (∀ xs, o ≠ .lst xs) → G3 a = some o := by
  have hlen := lend_len ok
  have em : m2 = m := by
    apply List.ext_getElem?
    intro i
    by_cases h : i < m.length
    · rw [l2.m i _ (List.getElem?_eq_getElem h), List.getElem?_eq_getElem h]
    · rw [List.getElem?_eq_none (by rw [r2.len, hlen, ← r0.len]; omega), List.getElem?_eq_none (by omega)]
  subst em
  -- the lent places
  let L : Addr → Prop := fun a => ∃ (i : Nat) (c : Cell) (ds : List D), μ[i]? = some c ∧ c.live = true ∧ μ1[i]? = some (.frz (.lst ds)) ∧ m2[i]? = some [a]
  have hL : ∀ a, L a → ∃ xs, G1 a = some (.lst xs) := fun a ⟨i, c, ds, h1, h2, h3, h4⟩ => by
    obtain ⟨p, e, rp⟩ := r1.cell i _ _ h3 h4
    cases e
    cases rp with
    | lst h _ => exact ⟨_, h⟩
  have nG : ∀ a, L a → G a = none := fun a ⟨i, c, ds, h1, h2, h3, h4⟩ => (r0.free i c [a] a h1 h4 h2 (by simp)).1
  have nU : ∀ a, L a → U a = none := fun a ⟨i, c, ds, h1, h2, h3, h4⟩ => (r0.free i c [a] a h1 h4 h2 (by simp)).2
  refine ⟨fun a => if L a then none else G2 a, ?_, ?_, ?_⟩
  · refine ⟨fun a o e => ?_, fun i as e => e⟩
    have : ¬ L a := fun z => by rw [nG a z] at e; cases e
    show (if L a then none else G2 a) = some o
    rw [if_neg this]
    exact l2.g _ _ (l1.g _ _ e)
  · have key : ∀ a o, G2 a = some o → (∀ xs, o ≠ .lst xs) → (if L a then none else G2 a) = some o := fun a o e ne => by
      have : ¬ L a := fun z => by
        obtain ⟨xs, e1⟩ := hL a z
        rw [l2.g _ _ e1] at e
        cases e
        exact ne xs rfl
      rw [if_neg this, e]
    have lG : Le G m2 (fun a => if L a then none else G2 a) m2 := ⟨fun a o e => by
      have : ¬ L a := fun z => by rw [nG a z] at e; cases e
      show (if L a then none else G2 a) = some o
      rw [if_neg this]
      exact l2.g _ _ (l1.g _ _ e), fun i as e => e⟩
    -- live cells that are not lent are those of the memory while lent
    have liveOr : ∀ (i : Nat) (c : Cell), μ[i]? = some c → c.live = true → (∃ ds, μ1[i]? = some (.frz (.lst ds))) ∨ μ1[i]? = some c := fun i c e lv => by
      obtain ⟨c1, e1, h⟩ := lend_get ok e
      unfold lendC at h
      split at h
      · obtain ⟨rfl, _⟩ := h; exact .inr e1
      · exact .inl ⟨_, e1⟩
      · exact .inl ⟨_, e1⟩
      · exact .inr (by rw [e1, h])
      · obtain ⟨rfl, rfl⟩ := h; exact .inr e1
      · exact h.elim
    refine ⟨r2.uh, fun a o e => ?_, fun a o e => ?_, r0.len, fun i c as e1 e2 => ?_, r0.nd, r0.apart, fun i c as a e1 e2 lv ha => ?_⟩
    · have e : (if L a then none else G2 a) = some o := e
      split at e
      · cases e
      · exact r2.gh _ _ e
    · show (if L a then none else G2 a) = none
      split
      · rfl
      · exact r2.ug a o e
    · obtain ⟨c1, e3, h⟩ := lend_get ok e1
      unfold lendC at h
      split at h
      · rename_i ds ds1
        obtain ⟨rfl, n⟩ := h
        obtain ⟨p, xs, rfl, k1, k2⟩ := r2.cell i _ _ e3 e2
        exact ⟨p, xs, rfl, k1, reps_thaw key k2 n⟩
      · rename_i ds ds1
        obtain ⟨p, xs, rfl, k1, k2⟩ := r0.cell i _ _ e1 e2
        obtain ⟨p', e4, rp⟩ := r1.cell i _ _ e3 e2
        cases e4
        cases rp with
        | lst h _ =>
          have a1 := r1.gh _ _ h
          rw [k1] at a1
          cases a1
          exact ⟨p, xs, rfl, r2.gh _ _ (l2.g _ _ h), k2.mono lG.g⟩
      · rename_i ws ds1
        obtain ⟨p, xs, rfl, k1, k2⟩ := r0.cell i _ _ e1 e2
        obtain ⟨p', e4, rp⟩ := r1.cell i _ _ e3 e2
        cases e4
        cases rp with
        | lst h _ =>
          have a1 := r1.gh _ _ h
          rw [k1] at a1
          cases a1
          exact ⟨p, xs, rfl, r2.gh _ _ (l2.g _ _ h), k2.mono lG⟩
      · subst h
        obtain ⟨p, rfl, rp⟩ := r0.cell i _ _ e1 e2
        exact ⟨p, rfl, rp.mono lG.g⟩
      · obtain ⟨rfl, rfl⟩ := h
        obtain ⟨p, rfl, k⟩ := r0.cell i _ _ e1 e2
        exact ⟨p, rfl, k.imp (fun ⟨o, e⟩ => ⟨o, lG.g _ _ e⟩) id⟩
      · exact h.elim
    · show (if L a then none else G2 a) = none ∧ U a = none
      refine ⟨?_, (r0.free i c as a e1 e2 lv ha).2⟩
      rcases liveOr i c e1 lv with ⟨ds, h⟩ | h
      · split
        · rfl
        · rename_i nl
          obtain ⟨p', e4, rp⟩ := r1.cell i _ _ h e2
          subst e4
          simp at ha
          subst ha
          exact absurd ⟨i, c, ds, e1, lv, h, e2⟩ nl
      · split
        · rfl
        · exact (r2.free i c as a h e2 lv ha).1
  · intro a o e ne
    have : ¬ L a := fun z => by
      obtain ⟨xs, e1⟩ := hL a z
      rw [l2.g _ _ e1] at e
      cases e
      exact ne xs rfl
    show (if L a then none else G2 a) = some o
    rw [if_neg this, e]
section
variable {X : Cx} {b : Bs} {e : Expr} {t : DTE}
/-- the expression is read as if the list in slot i were data -/
def dLend (i : Nat) (t : DTE) (ρ : R) (μ : M) (Q : W → M → Prop) : Prop := ∃ (w : W) (d : D) (μ1 : M), ρ[i]? = some (some w) ∧ esc μ w = some (d, μ1) ∧ lendOk μ μ1 ∧
  t (ρ.set i (some (.d d))) μ1 fun z μ2 => μ2 = μ1 ∧ ∃ d', z = .d d' ∧ noL d' = true ∧ Q (.d d') μ
theorem de_lend (i : Nat) (h : DE X b e t) : DE X b e (dLend i t) := by
  obtain ⟨te, p, q⟩ := h.ex
  refine ⟨te, p, fun {G m ρ μ σ H Q K} o r tt k => ?_⟩
  obtain ⟨w, d, μ1, h1, h2, ok, tt⟩ := tt
  obtain ⟨v, hv, rv⟩ := r.2 i w h1
  obtain ⟨G1, l1, r1, rp⟩ := esc_ok o.rel rv h2
  have rr : RelR b.cA G1 m σ (ρ.set i (some (.d d))) := by
    have rm := r.mono l1
    refine ⟨by simp [rm.1], fun j w' hj => ?_⟩
    by_cases e : i = j
    · subst e
      have hl : i < ρ.length := (List.getElem?_eq_some_iff.mp h1).1
      rw [List.getElem?_set_self hl] at hj
      cases hj
      exact ⟨v, hv, .d rp⟩
    · rw [List.getElem?_set_ne e] at hj
      exact rm.2 j w' hj
  refine q (o.mono l1 r1) rr tt fun v' H2 G2 m2 w2 μ2 l2 o2 rv2 ⟨hμ, d', hw, hn, hq⟩ => ?_
  subst hμ hw
  obtain ⟨G3, l3, r3, key⟩ := thaw o.rel r1 l1 l2 o2.rel ok
  cases rv2 with
  | d rp2 => exact k v' H2 G3 m (.d d') μ l3 (o.mono l3 r3) (.d (rep_thaw key rp2 hn)) hq
end
end DD
namespace DD
open PySem L2
/-! ### sorted(list) of plain data that is alike -/
def rSortD (K : PySem.W.Frag) : List V → Hp → VK → Prop := fun vs H Q => ∃ (a : Addr) (xs : List V) (ps : List PyData), vs = [V.ref a] ∧ SqL K H a xs ∧ DpAll K H xs ps ∧ PySem.W.AllAlike ps ∧ PySem.W.Sortable ps ∧ (∀ d ∈ ps, d.depth ≤ 60) ∧
  ∀ (zs : List (V × PyData)) (p : Addr), zs.Perm (xs.zip ps) → zs.Pairwise (fun x y => PySem.W.dataLt y.2 x.2 = false) → H p = none → Q (.ref p) (upd H p (.lst (zs.map (·.1))))
section
variable {X : Cx}
theorem each_rel {pins : List (Addr × Obj)} {σ : L2.St} {H : Hp} {s : Shared} (I : Inv X pins σ H s) : ∀ {xs : List V} {us : List Value} {ps : List PyData}, Vals xs us → DpAll X.K H xs ps → PySem.W.EachIs (fun (v : Value) (z : V × PyData) => RelV z.1 v ∧ ∃ as, Reads s.heap v z.2 as) us (xs.zip ps)
  | _, _, _, .nil, .nil => .nil
  | _, _, _, .cons r rs, .cons d ds => .cons ⟨r, Dp.reads I _ _ _ d r⟩ (each_rel I rs ds)
theorem each_map {α β γ : Type} {R : α → γ → Prop} (f : β → γ) : ∀ {as : List α} {bs : List β}, PySem.W.EachIs (fun a b => R a (f b)) as bs → PySem.W.EachIs R as (bs.map f)
  | _, _, .nil => .nil
  | _, _, .cons h t => .cons h (each_map f t)
theorem each_vals : ∀ {us : List Value} {zs : List (V × PyData)}, PySem.W.EachIs (fun (v : Value) (z : V × PyData) => RelV z.1 v) us zs → Vals (zs.map (·.1)) us
  | _, _, .nil => .nil
  | _, _, .cons h t => .cons h (each_vals t)
theorem each_mono {α β : Type} {R R' : α → β → Prop} (hm : ∀ a b, R a b → R' a b) : ∀ {as : List α} {bs : List β}, PySem.W.EachIs R as bs → PySem.W.EachIs R' as bs
  | _, _, .nil => .nil
  | _, _, .cons h t => .cons (hm _ _ h) (each_mono hm t)
theorem zip_snd : ∀ {α β : Type} {xs : List α} {ps : List β}, xs.length = ps.length → (xs.zip ps).map (·.2) = ps
  | _, _, [], [], _ => rfl
  | _, _, _ :: xs, _ :: ps, h => by simp [zip_snd (xs := xs) (ps := ps) (by simpa using h)]
  | _, _, [], _ :: _, h => by simp at h
  | _, _, _ :: _, [], h => by simp at h
theorem dpAll_len {K : PySem.W.Frag} {H : Hp} : ∀ {xs : List V} {ps : List PyData}, DpAll K H xs ps → xs.length = ps.length
  | _, _, .nil => rfl
  | _, _, .cons _ t => congrArg (· + 1) (dpAll_len t)
open PySem.Spec PyProof.Rows in
theorem cr_sortD (hu : X.A.units + 64 < cLine) : CallR X (.builtin "sorted") (rSortD X.K) := by
  intro pins s σ H vs us Q I r h
  obtain ⟨a, xs, ps, rfl, hs, hd, ha, ho, hdep, q⟩ := h
  obtain ⟨its, rv, hl, hz⟩ := I.list hs
  rw [Vals.ref1 r]
  have hlen := rv.length
  have hpl := dpAll_len hd
  have e0 := each_rel I rv hd
  have eR : PySem.W.EachIs (fun v d => ∃ as, Reads s.heap v d as) its ps := by
    have := each_map (R := fun (v : Value) (d : PyData) => ∃ as, Reads s.heap v d as) (fun z : V × PyData => z.2) (each_mono (fun a b h => h.2) e0)
    rwa [zip_snd hpl] at this
  have keep : ∀ b o, s.heap.get? b = some o → (PySem.W.sortingHeap (PySem.W.copyHeap s.heap its) (s.heap.objs.size + 1) its).get? b = some o := fun b o e => PySem.W.sorting_copy_old e
  have eS : PySem.W.EachIs (fun v d => ∃ as, Reads (PySem.W.sortingHeap (PySem.W.copyHeap s.heap its) (s.heap.objs.size + 1) its) v d as) its ps := each_mono (fun v d ⟨as, h⟩ => ⟨as, PyProof.Rows.Reads.keeps keep h⟩) eR
  have S := PySem.W.SortsAt.data (prog := X.prog) (w := X.w) (A := X.A.in1.in1) (s := { s with heap := PySem.W.sortingHeap (PySem.W.copyHeap s.heap its) (s.heap.objs.size + 1) its }) eS ha ho fun d hd' => by
    have := hdep d hd'
    show X.A.units + 1 + 1 + d.depth < cLine
    omega
  refine PySem.W.sorted_vals hl.isList S (by rw [← hlen]; exact hz) ?_
  have eZ : PySem.W.EachIs (fun (v : Value) (z : V × PyData) => (PySem.W.dataKind (PySem.W.sortingHeap (PySem.W.copyHeap s.heap its) (s.heap.objs.size + 1) its) ps).keyOf v = some (PySem.W.keyToks z.2)) its (xs.zip ps) := by
    have key : ∀ {us : List Value} {zs : List (V × PyData)}, PySem.W.EachIs (fun (v : Value) (z : V × PyData) => RelV z.1 v ∧ ∃ as, Reads s.heap v z.2 as) us zs → (∀ z ∈ zs, z.2 ∈ ps) → PySem.W.EachIs (fun (v : Value) (z : V × PyData) => (PySem.W.dataKind (PySem.W.sortingHeap (PySem.W.copyHeap s.heap its) (s.heap.objs.size + 1) its) ps).keyOf v = some (PySem.W.keyToks z.2)) us zs := by
      intro us zs e
      induction e with
      | nil => intro _; exact .nil
      | cons h t ih =>
        intro hm
        obtain ⟨as, hr⟩ := h.2
        exact .cons (PySem.W.dataKind_some ha (hm _ (List.mem_cons_self ..)) (PyProof.Rows.Reads.keeps keep hr)) (ih fun z hz => hm z (List.mem_cons_of_mem _ hz))
    exact key e0 fun z hz => (List.of_mem_zip hz).2
  have eO := PySem.W.sortVals_each (κ := PySem.W.dataKind (PySem.W.sortingHeap (PySem.W.copyHeap s.heap its) (s.heap.objs.size + 1) its) ps) (R := fun (v : Value) (z : V × PyData) => RelV z.1 v) (rev := false) (fun z : V × PyData => (PySem.W.keyToks z.2 : (PySem.W.dataKind (PySem.W.sortingHeap (PySem.W.copyHeap s.heap its) (s.heap.objs.size + 1) its) ps).α)) (each_mono (fun a b h => h.1) e0) eZ
  generalize hzs : (xs.zip ps).mergeSort (PySem.W.sortLe (PySem.W.dataKind (PySem.W.sortingHeap (PySem.W.copyHeap s.heap its) (s.heap.objs.size + 1) its) ps).toKeyOrd false fun z : V × PyData => PySem.W.keyToks z.2) = zs at eO
  have hp : zs.Perm (xs.zip ps) := by rw [← hzs]; exact List.mergeSort_perm _ _
  have hsrt : zs.Pairwise (fun x y => PySem.W.dataLt y.2 x.2 = false) := by
    rw [← hzs]
    refine (PySem.W.sort_pairwise (PySem.W.sortLe_total _ false _) _).imp fun {x y} h => ?_
    have h2 : (PySem.W.dataKind (PySem.W.sortingHeap (PySem.W.copyHeap s.heap its) (s.heap.objs.size + 1) its) ps).blt (PySem.W.keyToks y.2) (PySem.W.keyToks x.2) = false := by simpa [PySem.W.sortLe] using h
    exact h2
  have rv2 := each_vals eO
  generalize PySem.W.sortVals (PySem.W.dataKind (PySem.W.sortingHeap (PySem.W.copyHeap s.heap its) (s.heap.objs.size + 1) its) ps) false its its = out at rv2
  obtain ⟨ep, he'⟩ := PyProof.Rows.sortedAll_at s.heap its out.toArray
  have hlz : (zs.map (·.1)).length ≤ sizeLine := by
    rw [List.length_map, hp.length_eq, List.length_zip]
    omega
  exact ⟨.ref _, upd H (s.heap.objs.size + 1) (.lst (zs.map (·.1))), I.laid (t' := s.toks) (fun _ _ => PyProof.Rows.sortedAll_old) (Nat.le_succ _) ⟨hlz, out, ep, rv2, he'⟩, rfl, q _ _ hp hsrt (I.hok.fresh (Nat.le_succ _))⟩
end
/-- x < y, for plain data that is alike -/
def dltD (x y : D) : Bool := PySem.W.dataLt ((toP x).getD .none) ((toP y).getD .none)
def fSortD (ds : List D) (q : D → Prop) : Prop := ∃ (xs : List D) (ps : List PyData), ds = [.lst xs] ∧ toPs xs = some ps ∧ okDs 60 xs = true ∧ PySem.W.AllAlike ps ∧ PySem.W.Sortable ps ∧ ∀ es : List D, es.Perm xs → es.Pairwise (fun x y => dltD y x = false) → q (.lst es)
section
variable {X : Cx} {b : Bs} {pos p : Pos} {e : Expr} {ta : DTA}
theorem toPs_zip : ∀ {xs : List V} {ds : List D} {ps : List PyData}, xs.length = ds.length → toPs ds = some ps → xs.zip ps = (xs.zip ds).map fun z => (z.1, (toP z.2).getD .none)
  | [], [], _, _, h => by simp [toPs] at h; subst h; rfl
  | x :: xs, d :: ds, ps, hl, h => by
    simp [toPs, Option.bind_eq_some_iff] at h
    obtain ⟨p, h1, qs, h2, rfl⟩ := h
    simp [h1, toPs_zip (xs := xs) (ds := ds) (by simpa using hl) h2]
  | [], _ :: _, _, h, _ => by simp at h
  | _ :: _, [], _, h, _ => by simp at h
theorem depthAll_mem : ∀ {ps : List PyData} {n : Nat}, PyData.depthAll ps ≤ n → ∀ d ∈ ps, d.depth ≤ n
  | [], _, _, _, hd => by cases hd
  | q :: qs, n, h, d, hd => by
    simp [PyData.depthAll] at h
    rcases List.mem_cons.mp hd with rfl | hd
    · omega
    · exact depthAll_mem (ps := qs) (by omega) d hd
theorem on_sortD {K : PySem.W.Frag} : OpN b (rSortD K) fSortD := by
  intro G m μ H vs ds q Kq w n f k
  obtain ⟨xs, ps, rfl, hps, hok, ha, hs, f⟩ := f
  obtain ⟨a, us, rfl, h, rp⟩ := seq_at (K := K) n rfl
  have h := h.resolve_right (by rintro ⟨_, z⟩; cases z)
  have hlen := rp.len
  obtain ⟨ps', hps', _, hdep⟩ := okDs_toPs 60 xs hok
  rw [hps] at hps'
  cases hps'
  refine ⟨a, us, ps, rfl, h.1, rp.dps w.rel.gh hps, ha, hs, depthAll_mem hdep, fun zs l p1 p2 hl => ?_⟩
  rw [toPs_zip hlen hps] at p1
  obtain ⟨hs, rfl, p3⟩ := perm_map p1
  have each : ∀ z ∈ hs, Rep b.cA G z.1 z.2 := fun z hz => by
    have hm := p3.mem_iff.mp hz
    obtain ⟨i, hi, rfl⟩ := List.getElem_of_mem hm
    rw [List.getElem_zip]
    obtain ⟨d, hd, r⟩ := rp.get (i := i) (List.getElem?_eq_getElem (by simp at hi; omega))
    rw [List.getElem?_eq_getElem (by simp at hi; omega)] at hd
    cases hd
    exact r
  have reps : Reps b.cA G (hs.map (·.1)) (hs.map (·.2)) := by
    clear p1 p2 p3
    induction hs with
    | nil => exact .nil
    | cons z hs ih => exact .cons (each z (List.mem_cons_self ..)) (ih fun z hz => each z (List.mem_cons_of_mem _ hz))
  have e1 : (hs.map fun z : V × D => (z.1, (toP z.2).getD .none)).map (·.1) = hs.map (·.1) := by rw [List.map_map]; rfl
  rw [e1]
  refine give_new w hl (fun G' s e => .lst e (reps.mono s)) (f (hs.map (·.2)) ?_ ?_) k
  · have := p3.map (·.2)
    rwa [zip_snd hlen] at this
  · rw [List.pairwise_map] at p2 ⊢
    exact p2
theorem de_sortD (hu : X.A.units + 64 < cLine) (hm : X.mg "sorted" = none) (ha : DA X b [e] ta) (hg : Gl X "sorted") (he : starEach [e] X.env = [(false, eval e X.env)] := by rfl) (hpl : (backTo pos (starEach [] X.env)).any (·.1) = false := by rfl) : DE X b (.Call (.Name "sorted" p) [e] [] pos) (dFn fSortD ta) :=
  de_fn (on_sortD (K := X.K)) ha fun pa => pe_callB (cr_sortD hu) hg hm PyProof.Rows.boot_sorted pa (he := he) (hpl := hpl)
end
/-! what the order says of tuples of ints -/
theorem toP_tints (l : List Int) : toP (tints l) = some (.tuple (l.map PyData.int)) := by
  have : toPs (l.map D.int) = some (l.map PyData.int) := by
    induction l with
    | nil => rfl
    | cons a l ih => simp [toPs, toP, ih]
  simp [tints, toP, this]
theorem alike_ints : ∀ a c : List Int, PySem.W.alikeAll (a.map PyData.int) (c.map PyData.int) = true
  | [], _ => by simp [PySem.W.alikeAll]
  | _ :: _, [] => by simp [PySem.W.alikeAll]
  | a :: as, c :: cs => by simp [PySem.W.alikeAll, PySem.W.alike, alike_ints as cs]
end DD
namespace DD
open PySem L2
/-! ### a dict stands locked while an expression walks over it -/
abbrev Bs.lk (b : Bs) (G : Hp) (m : Wd) : Bs := { b with G0 := G, m0 := m }
def dead : Cell := .scr [] fun _ => True
structure Lk (b : Bs) (n : Nat) (ks : List Key) (ds : List D) : Prop where
  ex : ∃ (p : Addr) (od : Obj) (xs : List V), b.G0 p = some (.frz od (.dK (ks.zip xs))) ∧ ks.length = xs.length ∧ Reps b.cA b.G0 xs ds ∧ b.m0[n]? = some [p]
def dDLock (i : Nat) (t : Nat → List Key → List D → DTE) (ρ : R) (μ : M) (Q : W → M → Prop) : Prop := ∃ (n : Nat) (ks : List Key) (ds : List D), ρ[i]? = some (some (.r n)) ∧ μ[n]? = some (.dic ks ds) ∧ t n ks ds ρ (μ.set n dead) fun w μ2 => μ2[n]? = some dead ∧ Q w (μ2.set n (.dic ks ds))
section
variable {cA : Nat → Addr} {G G3 : Hp}
mutual
theorem rep_unlk (h : ∀ a o, G a = some o → (∀ od u, o ≠ .frz od u) → G3 a = some o) : ∀ {v : V} {d : D}, Rep cA G v d → Rep cA G3 v d
  | _, _, .non => .non
  | _, _, .bl b => .bl b
  | _, _, .int i => .int i
  | _, _, .str s => .str s
  | _, _, .tup e r => .tup (h _ _ e (fun _ _ c => by cases c)) (reps_unlk h r)
  | _, _, .lst e r => .lst (h _ _ e (fun _ _ c => by cases c)) (reps_unlk h r)
  | _, _, .obj e l r => .obj (h _ _ e (fun _ _ c => by cases c)) l (reps_unlk h r)
  | _, _, .dic e l r => .dic (h _ _ e (fun _ _ c => by cases c)) l (reps_unlk h r)
theorem reps_unlk (h : ∀ a o, G a = some o → (∀ od u, o ≠ .frz od u) → G3 a = some o) : ∀ {vs : List V} {ds : List D}, Reps cA G vs ds → Reps cA G3 vs ds
  | _, _, .nil => .nil
  | _, _, .cons r rs => .cons (rep_unlk h r) (reps_unlk h rs)
end
theorem wrel_unlk {m : Wd} (h : ∀ a o, G a = some o → (∀ od u, o ≠ .frz od u) → G3 a = some o) {v : V} {w : W} (r : WRel cA G m v w) : WRel cA G3 m v w := by
  cases r with
  | d r => exact .d (rep_unlk h r)
  | r e => exact .r e
theorem wrels_unlk {m : Wd} (h : ∀ a o, G a = some o → (∀ od u, o ≠ .frz od u) → G3 a = some o) : ∀ {vs : List V} {ws : List W}, WRels cA G m vs ws → WRels cA G3 m vs ws
  | _, _, .nil => .nil
  | _, _, .cons r rs => .cons (wrel_unlk h r) (wrels_unlk h rs)
end
open Classical in
theorem unlock {cA : Nat → Addr} {U G G2 H2 : Hp} {m m2 : Wd} {μ2 : M} {n : Nat} {p : Addr} {od : Obj} {ks : List Key} {xs : List V} {ds : List D} (hG : G p = none) (hU : U p = none) (l : Le G m G2 m2) (r2 : RelM cA U G2 m2 μ2 H2) (hp : G2 p = some (.frz od (.dK (ks.zip xs))))
    (hm : m2[n]? = some [p]) (hd : μ2[n]? = some dead) (hl : ks.length = xs.length) (hr : Reps cA G2 xs ds) :
    ∃ G3, Le G m G3 m2 ∧ RelM cA U G3 m2 (μ2.set n (.dic ks ds)) (upd H2 p (.dK (ks.zip xs))) ∧ ∀ a o, G2 a = some o → (∀ od u, o ≠ .frz od u) → G3 a = some o := by
  have key : ∀ a o, G2 a = some o → (∀ od u, o ≠ .frz od u) → (if a = p then none else G2 a) = some o := fun a o e ne => by
    rw [if_neg (fun z => by subst z; rw [hp] at e; cases e; exact ne _ _ rfl), e]
  have sub : ∀ a, (if a = p then none else G2 a) = none ∨ (a ≠ p ∧ (if a = p then none else G2 a) = G2 a) := fun a => by
    by_cases z : a = p
    · exact .inl (if_pos z)
    · exact .inr ⟨z, if_neg z⟩
  have hn : n < μ2.length := (List.getElem?_eq_some_iff.mp hd).1
  have split : ∀ (i : Nat) (x : Cell), (μ2.set n (.dic ks ds))[i]? = some x → (i ≠ n ∧ μ2[i]? = some x) ∨ (i = n ∧ x = .dic ks ds) := fun i x e => by
    by_cases q : i = n
    · subst q
      rw [List.getElem?_set_self hn] at e
      exact .inr ⟨rfl, (Option.some.inj e).symm⟩
    · rw [List.getElem?_set_ne (Ne.symm q)] at e
      exact .inl ⟨q, e⟩
  have neP : ∀ (i : Nat) (x : Cell) (as : List Addr) (a : Addr), μ2[i]? = some x → m2[i]? = some as → x.live = true → a ∈ as → a ≠ p := fun i x as a e1 e2 lv ha z => by
    subst z
    rw [(r2.free i x as a e1 e2 lv ha).1] at hp
    cases hp
  refine ⟨fun a => if a = p then none else G2 a, ⟨fun a o e => ?_, l.m⟩, ⟨fun a o e => ?_, fun a o e => ?_, fun a o e => ?_, by simp [r2.len], fun i c as e1 e2 => ?_, fun i c as e1 e2 lv => ?_, fun i j c c' as as' a e1 e2 e3 e4 e5 e6 e7 e8 => ?_, fun i c as a e1 e2 lv ha => ?_⟩, key⟩
  · have : ¬ a = p := fun z => by subst z; rw [hG] at e; cases e
    show (if a = p then none else G2 a) = some o
    rw [if_neg this]
    exact l.g _ _ e
  · have : ¬ a = p := fun z => by subst z; rw [hU] at e; cases e
    rw [upd_ne this]
    exact r2.uh _ _ e
  · have e : (if a = p then none else G2 a) = some o := e
    rcases sub a with z | ⟨z, z2⟩
    · rw [z] at e; cases e
    · rw [z2] at e
      rw [upd_ne z]
      exact r2.gh _ _ e
  · show (if a = p then none else G2 a) = none
    split
    · rfl
    · exact r2.ug a o e
  · rcases split i c e1 with ⟨q, e⟩ | ⟨rfl, rfl⟩
    · have k := r2.cell i c as e e2
      cases c with
      | lst es =>
        obtain ⟨p', ys, rfl, k1, k2⟩ := k
        exact ⟨p', ys, rfl, by rw [upd_ne (neP i _ _ p' e e2 rfl (by simp))]; exact k1, reps_unlk key k2⟩
      | lstW ws =>
        obtain ⟨p', ys, rfl, k1, k2⟩ := k
        exact ⟨p', ys, rfl, by rw [upd_ne (neP i _ _ p' e e2 rfl (by simp))]; exact k1, wrels_unlk key k2⟩
      | ins c fs ws =>
        obtain ⟨p', dx, ys, rfl, k1, k2, k3⟩ := k
        exact ⟨p', dx, ys, rfl, by rw [upd_ne (neP i _ _ p' e e2 rfl (by simp))]; exact k1, k2, wrels_unlk key k3⟩
      | dic ks' es =>
        obtain ⟨p', ys, rfl, k1, k2, k3⟩ := k
        exact ⟨p', ys, rfl, by rw [upd_ne (neP i _ _ p' e e2 rfl (by simp))]; exact k1, k2, reps_unlk key k3⟩
      | frz d =>
        obtain ⟨p', rfl, k⟩ := k
        exact ⟨p', rfl, rep_unlk key k⟩
      | scr ns S =>
        obtain ⟨p', rfl, k⟩ := k
        refine ⟨p', rfl, k.imp (fun ⟨o, e⟩ => ⟨o, ?_⟩) id⟩
        show (if p' = p then none else G2 p') = _
        rw [if_neg (fun z => by subst z; rw [hp] at e; cases e), e]
    · rw [hm] at e2
      cases e2
      exact ⟨p, xs, rfl, upd_same, hl, reps_unlk key hr⟩
  · rcases split i c e1 with ⟨q, e⟩ | ⟨rfl, rfl⟩
    · exact r2.nd i c as e e2 lv
    · rw [hm] at e2
      cases e2
      simp
  · rcases split i c e1 with ⟨q, e⟩ | ⟨rfl, rfl⟩
    · rcases split j c' e2 with ⟨q2, e'⟩ | ⟨rfl, rfl⟩
      · exact r2.apart i j c c' as as' a e e' e3 e4 e5 e6 e7 e8
      · rw [hm] at e4
        cases e4
        simp at e8
        exact absurd e8 (neP i c as a e e3 e5 e7)
    · rcases split j c' e2 with ⟨q2, e'⟩ | ⟨rfl, rfl⟩
      · rw [hm] at e3
        cases e3
        simp at e7
        exact absurd e7 (neP j c' as' a e' e4 e6 e8)
      · rfl
  · rcases split i c e1 with ⟨q, e⟩ | ⟨rfl, rfl⟩
    · obtain ⟨f1, f2⟩ := r2.free i c as a e e2 lv ha
      refine ⟨?_, f2⟩
      show (if a = p then none else G2 a) = none
      split
      · rfl
      · exact f1
    · rw [hm] at e2
      cases e2
      simp at ha
      subst ha
      exact ⟨if_pos rfl, hU⟩
section
variable {X : Cx} {b : Bs} {e : Expr} {t : Nat → List Key → List D → DTE}
theorem lock_rel {cA : Nat → Addr} {U G H : Hp} {m : Wd} {μ : M} {n : Nat} {p : Addr} {od : Obj} {ks : List Key} {xs : List V} {ds : List D} (r : RelM cA U G m μ H) (hc : μ[n]? = some (.dic ks ds)) (hm : m[n]? = some [p]) (hG : G p = none) (hU : U p = none) (hH : H p = some (.dK (ks.zip xs))) :
    RelM cA U (upd G p (.frz od (.dK (ks.zip xs)))) m (μ.set n dead) (upd H p (.frz od (.dK (ks.zip xs)))) := by
  have l : Le G m (upd G p (.frz od (.dK (ks.zip xs)))) m := Le.know hG
  have hn : n < μ.length := (List.getElem?_eq_some_iff.mp hc).1
  have split : ∀ (i : Nat) (x : Cell), (μ.set n dead)[i]? = some x → (i ≠ n ∧ μ[i]? = some x) ∨ (i = n ∧ x = dead) := fun i x e => by
    by_cases q : i = n
    · subst q
      rw [List.getElem?_set_self hn] at e
      exact .inr ⟨rfl, (Option.some.inj e).symm⟩
    · rw [List.getElem?_set_ne (Ne.symm q)] at e
      exact .inl ⟨q, e⟩
  have neP : ∀ (i : Nat) (x : Cell) (as : List Addr) (a : Addr), i ≠ n → μ[i]? = some x → m[i]? = some as → x.live = true → a ∈ as → a ≠ p := fun i x as a q e1 e2 lv ha z => by
    subst z
    exact q (r.apart i n x _ as [a] a e1 hc e2 hm lv rfl ha (by simp))
  have cases' : ∀ (i : Nat) (x : Cell), (μ.set n dead)[i]? = some x → x.live = true → i ≠ n ∧ μ[i]? = some x := fun i x e lv => by
    rcases split i x e with h | ⟨_, rfl⟩
    · exact h
    · cases lv
  refine ⟨r.uh.new hU, fun a u e => ?_, fun a u e => ?_, by simp [r.len], fun i c as e1 e2 => ?_, fun i c as e1 e2 lv => ?_, fun i j c c' as as' a e1 e2 e3 e4 e5 e6 e7 e8 => ?_, fun i c as a e1 e2 lv ha => ?_⟩
  · by_cases q : a = p
    · subst q; rw [upd_same] at e ⊢; exact e
    · rw [upd_ne q] at e ⊢; exact r.gh a u e
  · rw [upd_ne (fun z => by subst z; rw [hU] at e; cases e)]; exact r.ug a u e
  · rcases split i c e1 with ⟨q, e⟩ | ⟨rfl, rfl⟩
    · exact (r.cell i c as e e2).mono l fun lv a ha o h => by rw [upd_ne (neP i c as a q e e2 lv ha)]; exact h
    · rw [hm] at e2
      cases e2
      exact ⟨p, rfl, .inr trivial⟩
  · obtain ⟨q, e⟩ := cases' i c e1 lv
    exact r.nd i c as e e2 lv
  · obtain ⟨q, e⟩ := cases' i c e1 e5
    obtain ⟨q', e'⟩ := cases' j c' e2 e6
    exact r.apart i j c c' as as' a e e' e3 e4 e5 e6 e7 e8
  · obtain ⟨q, e⟩ := cases' i c e1 lv
    obtain ⟨f1, f2⟩ := r.free i c as a e e2 lv ha
    rw [upd_ne (neP i c as a q e e2 lv ha)]
    exact ⟨f1, f2⟩
theorem de_dlock (i : Nat) (h : ∀ (G : Hp) (m : Wd) (n : Nat) (ks : List Key) (ds : List D), Lk (b.lk G m) n ks ds → DE X (b.lk G m) e (t n ks ds)) : DE X b e (dDLock i t) := by
  refine ⟨tLockE (can X e), pe_lock ⟨fun pins s σ H Q I q => q pins s I⟩, fun {G m ρ μ σ H Q K} o r tt k => ?_⟩
  obtain ⟨n, ks, ds, h1, h2, tt⟩ := tt
  obtain ⟨v, hv, rv⟩ := r.2 i _ h1
  cases rv with
  | @r _ p as em =>
  obtain ⟨p', xs, e5, h5, h6, rp⟩ := o.rel.cell n _ _ h2 em
  cases e5
  obtain ⟨hG, hU⟩ := o.rel.free n _ _ p h2 em rfl (by simp)
  refine ⟨p, .dK (ks.zip xs), h5, trivial, fun od => ?_⟩
  have l1 : Le G m (upd G p (.frz od (.dK (ks.zip xs)))) m := Le.know hG
  have r1 := lock_rel (od := od) o.rel h2 em hG hU h5
  have o1 : WOk (b.lk (upd G p (.frz od (.dK (ks.zip xs)))) m) (upd G p (.frz od (.dK (ks.zip xs)))) m (μ.set n dead) (upd H p (.frz od (.dK (ks.zip xs)))) := ⟨Le.refl _ _, r1⟩
  obtain ⟨te, pe, q⟩ := (h _ m n ks ds ⟨p, od, xs, upd_same, h6, rp.mono l1.g, em⟩).ex
  intro pins s I
  refine pe.run pins s σ _ _ I (q o1 (r.mono l1) tt fun v' H2 G2 m2 w2 μ2 l2 o2 rv2 ⟨hd, hq⟩ => ?_)
  have hp2 := l2.g _ _ (upd_same (H := G) (a := p) (o := .frz od (.dK (ks.zip xs))))
  have hm2 := l2.m _ _ em
  obtain ⟨G3, l3, r3, key⟩ := unlock (ds := ds) hG hU (l1.trans l2) o2.rel hp2 hm2 hd h6 ((rp.mono l1.g).mono l2.g)
  exact ⟨o2.rel.gh _ _ hp2, k v' _ G3 m2 w2 _ l3 ⟨o.le.trans l3, r3⟩ (wrel_unlk key rv2) hq⟩
end
/-! .. or a statement -/
def canS (X : Cx) (st : Stmt) : TS := fun D σ H => ∀ (pins : List (Addr × Obj)) (s : Shared), Inv X pins σ H s → wpAny (model X.prog X.w) X.A (exec st X.env) (SP X pins D) X.xe s
def dDLockS (i : Nat) (t : Nat → List Key → List D → DTS) (D : DEnds) (ρ : R) (μ : M) : Prop := ∃ (n : Nat) (ks : List Key) (ds : List DD.D), ρ[i]? = some (some (.r n)) ∧ μ[n]? = some (.dic ks ds) ∧ t n ks ds
  ⟨fun ρ' μ' => μ'[n]? = some dead ∧ D.nx ρ' (μ'.set n (.dic ks ds)), fun w μ' => μ'[n]? = some dead ∧ D.rt w (μ'.set n (.dic ks ds)), fun ρ' μ' => μ'[n]? = some dead ∧ D.bk ρ' (μ'.set n (.dic ks ds)), fun ρ' μ' => μ'[n]? = some dead ∧ D.ct ρ' (μ'.set n (.dic ks ds))⟩ ρ (μ.set n dead)
theorem relR_unlk {cA : Nat → Addr} {G G3 : Hp} {m : Wd} (h : ∀ a o, G a = some o → (∀ od u, o ≠ .frz od u) → G3 a = some o) {σ : L2.St} {ρ : R} (r : RelR cA G m σ ρ) : RelR cA G3 m σ ρ := ⟨r.1, fun i w e => by
  obtain ⟨v, e1, r⟩ := r.2 i w e
  exact ⟨v, e1, wrel_unlk h r⟩⟩
theorem ds_dlock {X : Cx} {b : Bs} {st : Stmt} {t : Nat → List Key → List D → DTS} (i : Nat) (h : ∀ (G : Hp) (m : Wd) (n : Nat) (ks : List Key) (ds : List D), Lk (b.lk G m) n ks ds → DS X (b.lk G m) st (t n ks ds)) : DS X b st (dDLockS i t) := by
  refine ⟨tLock (canS X st), ps_lock ⟨fun pins s σ H D I q => q pins s I⟩, fun {G m ρ μ σ H D E} o r tt k => ?_⟩
  obtain ⟨n, ks, ds, h1, h2, tt⟩ := tt
  obtain ⟨v, hv, rv⟩ := r.2 i _ h1
  cases rv with
  | @r _ p as em =>
  obtain ⟨p', xs, e5, h5, h6, rp⟩ := o.rel.cell n _ _ h2 em
  cases e5
  obtain ⟨hG, hU⟩ := o.rel.free n _ _ p h2 em rfl (by simp)
  refine ⟨p, .dK (ks.zip xs), h5, trivial, fun od => ?_⟩
  have l1 : Le G m (upd G p (.frz od (.dK (ks.zip xs)))) m := Le.know hG
  have r1 := lock_rel (od := od) o.rel h2 em hG hU h5
  have o1 : WOk (b.lk (upd G p (.frz od (.dK (ks.zip xs)))) m) (upd G p (.frz od (.dK (ks.zip xs)))) m (μ.set n dead) (upd H p (.frz od (.dK (ks.zip xs)))) := ⟨Le.refl _ _, r1⟩
  obtain ⟨te, pe, q⟩ := (h _ m n ks ds ⟨p, od, xs, upd_same, h6, rp.mono l1.g, em⟩).ex
  intro pins s I
  have fin : ∀ {H2 G2 m2 μ2}, Le (upd G p (.frz od (.dK (ks.zip xs)))) m G2 m2 → WOk (b.lk (upd G p (.frz od (.dK (ks.zip xs)))) m) G2 m2 μ2 H2 → μ2[n]? = some dead → H2 p = some (.frz od (.dK (ks.zip xs))) ∧ ∃ G3, Le G m G3 m2 ∧ WOk b G3 m2 (μ2.set n (.dic ks ds)) (upd H2 p (.dK (ks.zip xs))) ∧ ∀ a o, G2 a = some o → (∀ od u, o ≠ .frz od u) → G3 a = some o := fun {H2 G2 m2 μ2} l2 o2 hd => by
    have hp2 := l2.g _ _ (upd_same (H := G) (a := p) (o := .frz od (.dK (ks.zip xs))))
    have hm2 := l2.m _ _ em
    obtain ⟨G3, l3, r3, key⟩ := unlock (ds := ds) hG hU (l1.trans l2) o2.rel hp2 hm2 hd h6 ((rp.mono l1.g).mono l2.g)
    exact ⟨o2.rel.gh _ _ hp2, G3, l3, ⟨o.le.trans l3, r3⟩, key⟩
  refine pe.run pins s σ _ _ I (q o1 (r.mono l1) tt ⟨fun σ' H2 G2 m2 ρ2 μ2 l2 o2 r2 ⟨hd, hq⟩ => ?_, fun v' H2 G2 m2 w2 μ2 l2 o2 rv2 ⟨hd, hq⟩ => ?_, fun σ' H2 G2 m2 ρ2 μ2 l2 o2 r2 ⟨hd, hq⟩ => ?_, fun σ' H2 G2 m2 ρ2 μ2 l2 o2 r2 ⟨hd, hq⟩ => ?_⟩)
  · obtain ⟨a1, G3, l3, o3, key⟩ := fin l2 o2 hd
    exact ⟨a1, k.nx σ' _ G3 m2 ρ2 _ l3 o3 (relR_unlk key r2) hq⟩
  · obtain ⟨a1, G3, l3, o3, key⟩ := fin l2 o2 hd
    exact ⟨a1, k.rt v' _ G3 m2 w2 _ l3 o3 (wrel_unlk key rv2) hq⟩
  · obtain ⟨a1, G3, l3, o3, key⟩ := fin l2 o2 hd
    exact ⟨a1, k.bk σ' _ G3 m2 ρ2 _ l3 o3 (relR_unlk key r2) hq⟩
  · obtain ⟨a1, G3, l3, o3, key⟩ := fin l2 o2 hd
    exact ⟨a1, k.ct σ' _ G3 m2 ρ2 _ l3 o3 (relR_unlk key r2) hq⟩
/-! the entries of a locked dict -/
@[simp] def kD : Key → D
  | .inl i => .int i
  | .inr s => .str s
def itemsD (ks : List Key) (ds : List D) : List W := (ks.zip ds).map fun z => .d (.tup [kD z.1, z.2])
@[simp] def iLk (its : List W) (i n : Nat) (ρ : R) (μ : M) (Q : Src → M → Prop) : Prop := ρ[i]? = some (some (.r n)) ∧ Q ⟨its, fun _ => True⟩ μ
section
variable {X : Cx} {b : Bs} {e tg : Expr} {pos apos cpos : Pos} {n : Nat} {ks : List Key} {ds : List D} {i : Nat} {x : Str}
theorem rep_kV {cA : Nat → Addr} {G : Hp} : ∀ k : Key, Rep cA G (kV k) (kD k)
  | .inl i => .int i
  | .inr s => .str s
theorem lk_at {ρ : R} {G : Hp} {m : Wd} {σ : L2.St} (le : Le b.G0 b.m0 G m) (r : RelR b.cA G m σ ρ) (h : ρ[i]? = some (some (.r n))) {p : Addr} (hm : b.m0[n]? = some [p]) : σ[i]? = some (some (.ref p)) := by
  obtain ⟨v, hv, rv⟩ := r.2 i _ h
  cases rv with
  | @r _ p' as em =>
    have := le.m _ _ hm
    rw [this] at em
    cases em
    exact hv
theorem di_itemsL {elts : List Expr} {kk : Nat} {tpos : Pos} (L : Lk b n ks ds) (he : PE X e (tVar i)) (hbase : attributeBase e "items" X.env (eval e X.env) = eval e X.env := by rfl) (hline : (apos.endLine == cpos.line) = true := by rfl) : DI X b (.Tuple elts kk tpos) (.Call (.Attribute e "items" apos) [] [] cpos) (iLk (itemsD ks ds) i n) := by
  obtain ⟨p, od, xs, hp, hl, hr, hm⟩ := L.ex
  refine ⟨_, pi_items he hbase hline, fun {G m ρ μ σ H Q K} o r t k => ?_⟩
  obtain ⟨t1, t2⟩ := t
  have hs := lk_at o.le r t1 hm
  have frz : ∀ {G' m' μ' H'}, Le G m G' m' → WOk b G' m' μ' H' → H' p = some (.frz od (.dK (ks.zip xs))) := fun {G' m' μ' H'} l o' => o'.rel.gh _ _ (o'.le.g _ _ hp)
  have ll : (ks.zip xs).length = (itemsD ks ds).length := by
    simp [itemsD, hr.len]
  refine ⟨_, hs, p, od, ks.zip xs, rfl, frz (Le.refl _ _) o, k _ H G m _ μ (Le.refl _ _) o ⟨fun {G' m' μ' H' j} l o' _ h => ⟨frz l o', by rw [ll]; exact h⟩, fun {G' m' μ' H' j y H2} l o' _ yy h => ?_, fun {G' m' μ' H'} l o' _ => ⟨frz l o', by rw [ll]; exact Nat.le_refl _⟩⟩ t2⟩
  obtain ⟨T, kk', v, hkv, rfl, hT, rfl⟩ := yy
  have hg := (o'.rel.new hT).1
  have l2 : Le G' m' (upd G' T (.tup [kV kk', v])) m' := Le.know hg
  obtain ⟨z1, z2⟩ := List.getElem?_zip_eq_some.mp hkv
  obtain ⟨d, hd, rd⟩ := hr.get z2
  refine ⟨_, .d (.tup [kD kk', d]), l2, o'.mono l2 (o'.rel.know hT), ?_, .d (.tup upd_same (.cons (rep_kV kk') (.cons ((rd.mono o'.le.g).mono l2.g) .nil)))⟩
  show ((ks.zip ds).map fun z => W.d (.tup [kD z.1, z.2]))[j]? = _
  rw [List.getElem?_map, (List.getElem?_zip_eq_some (z := (kk', d))).mpr ⟨z1, hd⟩]
  rfl
theorem di_valuesL (L : Lk b n ks ds) (he : PE X e (tVar i)) (hbase : attributeBase e "values" X.env (eval e X.env) = eval e X.env := by rfl) (hline : (apos.endLine == cpos.line) = true := by rfl) : DI X b tg (.Call (.Attribute e "values" apos) [] [] cpos) (iLk (ds.map W.d) i n) := by
  obtain ⟨p, od, xs, hp, hl, hr, hm⟩ := L.ex
  refine ⟨_, pi_values he hbase hline, fun {G m ρ μ σ H Q K} o r t k => ?_⟩
  obtain ⟨t1, t2⟩ := t
  have hs := lk_at o.le r t1 hm
  have frz : ∀ {G' m' μ' H'}, Le G m G' m' → WOk b G' m' μ' H' → H' p = some (.frz od (.dK (ks.zip xs))) := fun {G' m' μ' H'} l o' => o'.rel.gh _ _ (o'.le.g _ _ hp)
  have ll : (ks.zip xs).length = (ds.map W.d).length := by
    simp [← hr.len, hl]
  refine ⟨_, hs, p, od, ks.zip xs, rfl, frz (Le.refl _ _) o, k _ H G m _ μ (Le.refl _ _) o ⟨fun {G' m' μ' H' j} l o' _ h => ⟨frz l o', by rw [ll]; exact h⟩, fun {G' m' μ' H' j y H2} l o' _ yy h => ?_, fun {G' m' μ' H'} l o' _ => ⟨frz l o', by rw [ll]; exact Nat.le_refl _⟩⟩ t2⟩
  obtain ⟨rfl, kk', hkv⟩ := yy
  obtain ⟨z1, z2⟩ := List.getElem?_zip_eq_some.mp hkv
  obtain ⟨d, hd, rd⟩ := hr.get z2
  exact ⟨G', .d d, Le.refl _ _, o', by rw [List.getElem?_map, hd]; rfl, .d (rd.mono o'.le.g)⟩
theorem di_keysL (L : Lk b n ks ds) (he : PE X e (tVar i)) : DI X b tg e (iLk (ks.map fun k => W.d (kD k)) i n) := by
  obtain ⟨p, od, xs, hp, hl, hr, hm⟩ := L.ex
  refine ⟨_, pi_keys he, fun {G m ρ μ σ H Q K} o r t k => ?_⟩
  obtain ⟨t1, t2⟩ := t
  have hs := lk_at o.le r t1 hm
  have frz : ∀ {G' m' μ' H'}, Le G m G' m' → WOk b G' m' μ' H' → H' p = some (.frz od (.dK (ks.zip xs))) := fun {G' m' μ' H'} l o' => o'.rel.gh _ _ (o'.le.g _ _ hp)
  have ll : (ks.zip xs).length = (ks.map fun k => W.d (kD k)).length := by
    simp [← hl]
  refine ⟨_, hs, p, od, rfl, .inl ⟨ks.zip xs, frz (Le.refl _ _) o, k _ H G m _ μ (Le.refl _ _) o ⟨fun {G' m' μ' H' j} l o' _ h => ⟨frz l o', by rw [ll]; exact h⟩, fun {G' m' μ' H' j y H2} l o' _ yy h => ?_, fun {G' m' μ' H'} l o' _ => ⟨frz l o', by rw [ll]; exact Nat.le_refl _⟩⟩ t2⟩⟩
  obtain ⟨rfl, kk', v, hkv, rfl⟩ := yy
  obtain ⟨z1, z2⟩ := List.getElem?_zip_eq_some.mp hkv
  exact ⟨G', .d (kD kk'), Le.refl _ _, o', by rw [List.getElem?_map, z1]; rfl, .d (rep_kV kk')⟩
end
/-! x[::-1]; a list that may change, times a number -/
section
variable {X : Cx} {b : Bs} {e e1 e2 : Expr} {te ta tb : DTE} {pos : Pos}
@[simp] def dRevL (te : DTE) (ρ : R) (μ : M) (Q : W → M → Prop) : Prop := te ρ μ fun w μ1 => match rs μ1 w with
  | some (.lst ds) => Q (.d (.lst ds.reverse)) μ1
  | _ => False
theorem de_revL {k : Nat} {p1 p2 p3 : Pos} (he : DE X b e te) : DE X b (.Subscript e (.Slice none none (some (.UnaryOp .USub (.Constant (.int 1) k p1) p2)) p3) pos) (dRevL te) := by
  obtain ⟨t1, p1, q1⟩ := he.ex
  refine ⟨_, pe_revL p1, fun {G m ρ μ σ H Q K} o r t k => ?_⟩
  refine q1 o r t fun v H1 G1 m1 w μ1 l1 o1 r1 t1 => ?_
  split at t1
  · rename_i ds e
    obtain ⟨a, xs, rfl, h1, h2⟩ := rs_ok o1.rel r1 e
    refine ⟨a, xs, rfl, SqL.of h1, fun q hq => ?_⟩
    have hg := (o1.rel.new hq).1
    have l4 : Le G1 m1 (upd G1 q (.lst xs.reverse)) m1 := Le.know hg
    exact k _ _ _ m1 _ μ1 (l1.trans l4) (o1.mono l4 (o1.rel.know hq)) (.d (.lst upd_same ((reps_rev h2).mono l4.g))) t1
  · exact t1.elim
@[simp] def dMulM (ta tb : DTE) (ρ : R) (μ : M) (Q : W → M → Prop) : Prop := ta ρ μ fun x μ1 => tb ρ μ1 fun y μ2 => match rs μ2 x, rs μ2 y with
  | some (.lst xs), some (.int k) => -(2 ^ 63) ≤ k ∧ k < 2 ^ 63 ∧ xs.length * k.toNat ≤ sizeLine ∧ Q (.r μ2.length) (μ2 ++ [.lst (List.replicate k.toNat xs).flatten])
  | _, _ => False
theorem de_mulM (ha : DE X b e1 ta) (hb : DE X b e2 tb) : DE X b (.BinOp e1 .Mult e2 pos) (dMulM ta tb) := by
  obtain ⟨t1, p1, q1⟩ := ha.ex
  obtain ⟨t2, p2, q2⟩ := hb.ex
  refine ⟨_, pe_op op_rep p1 p2, fun {G m ρ μ σ H Q K} o r t k => ?_⟩
  refine q1 o r t fun x H1 G1 m1 w1 μ1 l1 o1 r1 t1 => ?_
  refine q2 o1 (r.mono l1) t1 fun y H2 G2 m2 w2 μ2 l2 o2 r2 t2 => ?_
  split at t2
  · rename_i xs j e1 e2
    obtain ⟨p, vs, rfl, h1, rp⟩ := rs_ok o2.rel (r1.mono l2) e1
    cases (show y = .int j from rs_ok o2.rel r2 e2)
    refine ⟨p, j, vs, rfl, rfl, h1, t2.1, t2.2.1, by rw [rp.len]; exact t2.2.2.1, fun q hq => ?_⟩
    exact k _ _ _ _ _ _ ((l1.trans l2).trans Le.cellNew) (o2.mono Le.cellNew (o2.rel.cellNew (c := .lst _) hq ⟨q, _, rfl, upd_same, reps_rep rp _⟩)) (.r (as := []) (by rw [← o2.rel.len]; simp)) t2.2.2.2
  · exact t2.elim
end
/-! a, b, .. = x, y, ..: the things may be mutable, the names cells -/
structure DGw (X : Cx) (b : Bs) (tgs : List Expr) (t : List W → R → M → (R → M → Prop) → Prop) : Prop where
  ex : ∃ g : TGs, PGs X tgs g ∧ ∀ {G : Hp} {m : Wd} {ρ : R} {μ : M} {σ : L2.St} {H : Hp} {vs : List V} {ws : List W} {Q : R → M → Prop} {K : L2.St → Hp → Prop}, WOk b G m μ H → RelR b.cA G m σ ρ → WRels b.cA G m vs ws → t ws ρ μ Q →
    (∀ σ' H' G' m' ρ' μ', Le G m G' m' → WOk b G' m' μ' H' → RelR b.cA G' m' σ' ρ' → Q ρ' μ' → K σ' H') → g vs σ H K
@[simp] def gwNil (ws : List W) (ρ : R) (μ : M) (Q : R → M → Prop) : Prop := match ws with
  | [] => Q ρ μ
  | _ => False
@[simp] def gwCons (t : DTG) (u : List W → R → M → (R → M → Prop) → Prop) (ws : List W) (ρ : R) (μ : M) (Q : R → M → Prop) : Prop := match ws with
  | w :: ws => t w ρ μ fun ρ1 μ1 => u ws ρ1 μ1 Q
  | _ => False
@[simp] def dParN (n : Nat) (ta : DTA) (g : List W → R → M → (R → M → Prop) → Prop) (D : DEnds) (ρ : R) (μ : M) : Prop := ta ρ μ fun ws μ1 => (ws.length = n ∧ n < 1000) ∧ g ws ρ μ1 D.nx
section
variable {X : Cx} {b : Bs} {e : Expr} {pos p1 p2 : Pos} {k1 k2 : Nat}
theorem dgw_nil : DGw X b [] gwNil := by
  refine ⟨_, pgs_nil, fun {G m ρ μ σ H vs ws Q K} o r q t k => ?_⟩
  cases q with
  | nil => exact ⟨rfl, k σ H G m ρ μ (Le.refl G m) o r t⟩
  | cons _ _ => exact t.elim
theorem dgw_cons {es : List Expr} {t : DTG} {u : List W → R → M → (R → M → Prop) → Prop} (h1 : DG X b e t) (h2 : DGw X b es u) (hs : (assignEach (e :: es) X.env).map (·.2) = assign e X.env :: (assignEach es X.env).map (·.2) := by rfl) : DGw X b (e :: es) (gwCons t u) := by
  obtain ⟨g, p, q⟩ := h1.ex
  obtain ⟨gs, ps, qs⟩ := h2.ex
  refine ⟨_, pgs_cons p ps hs, fun {G m ρ μ σ H vs ws Q K} o r rr t k => ?_⟩
  cases rr with
  | nil => exact t.elim
  | cons r1 rs => exact ⟨_, _, rfl, q o r r1 t fun σ' H' G' m' ρ' μ' l o' r' t' => qs o' r' (rs.mono l) t' fun σ2 H2 G2 m2 ρ2 μ2 l2 o2 r2 t2 => k σ2 H2 G2 m2 ρ2 μ2 (l.trans l2) o2 r2 t2⟩
theorem ds_parN {tgs es : List Expr} {ta : DTA} {g : List W → R → M → (R → M → Prop) → Prop} {n : Nat} (hc : X.calm = true) (ha : DA X b es ta) (hg : DGw X b tgs g)
    (hs : swapsWithSole [.Tuple tgs k1 p1] (.Tuple es k2 p2) pos.line X.env = pure false := by rfl) (hw : swappedStores [.Tuple tgs k1 p1] (.Tuple es k2 p2) X.env = pure none := by rfl)
    (h1 : (assignEach [.Tuple tgs k1 p1] X.env).map (·.2) = [assign (.Tuple tgs k1 p1) X.env] := by rfl) (hn : (assignEach tgs X.env).length = n := by rfl) (hst : (assignEach tgs X.env).findIdx? (·.1) = none := by rfl) : DS X b (.Assign [.Tuple tgs k1 p1] (.Tuple es k2 p2) pos) (dParN n ta g) := by
  obtain ⟨ta', pa, qa⟩ := ha.ex
  obtain ⟨gs, ps, qs⟩ := hg.ex
  refine ⟨_, ps_asg (pe_tup pa) (pg_tup hc ps hn hst) hs hw h1, fun {G m ρ μ σ H D E} o r t k => ?_⟩
  refine qa o r t fun vs H1 G1 m1 ws μ1 l1 o1 r1 t1 => ?_
  obtain ⟨⟨hl, h3⟩, t1⟩ := t1
  have hv := r1.len
  refine ⟨by rw [hv, hl]; exact Nat.le_trans (Nat.le_of_lt h3) (by decide), fun p hp => ?_⟩
  have hg' := (o1.rel.new hp).1
  have l3 : Le G1 m1 (upd G1 p (.tup vs)) m1 := Le.know hg'
  exact ⟨p, vs, rfl, SqT.of upd_same, by omega, qs (o1.mono l3 (o1.rel.know hp)) ((r.mono l1).mono l3) (r1.mono l3) t1 fun σ' H' G' m' ρ' μ' l o' r' t' => k.nx σ' H' G' m' ρ' μ' (l1.trans (l3.trans l)) o' r' t'⟩
end
end DD
namespace DD
open PySem L2
/-! ### sources of draws whose state keeps a bound -/
abbrev OK3 := Int → Int → Int → Prop
def SSw (ok : OK3) (n : Nat) (F : PG) : FS := fun ws μ P => ∃ (a b c : Int) (ds : List D), ok a b c ∧ ws = .r 0 :: ds.map W.d ∧ ds.length = n ∧ μ = [.lst (src a b c)] ∧ F ds (fun d => ∀ a' b' c' : Int, ok a' b' c' → P (.ret (.d d)) [.lst (src a' b' c')])
@[simp] def wAt (ok : OK3) (μ : M) (n : Nat) : Prop := match μ[n]? with
  | some (.lst [.int a, .int b, .int c]) => ok a b c
  | _ => False
@[simp] def cfSw (ok : OK3) (n : Nat) (F : PG) (ws : List W) (μ : M) (Q : W → M → Prop) (_xc : Exc → M → Prop) : Prop := match ws with
  | .r k :: ws' => wAt ok μ k ∧ match unD ws' with
    | some ds => ds.length = n ∧ F ds (fun d => ∀ a b c : Int, ok a b c → Q (.d d) (μ.set k (.lst (src a b c))))
    | none => False
  | _ => False
section
variable {ok : OK3} {n : Nat} {FG : PG} {ws : List W} {μ : M} {P : Res → M → Prop} {Q : W → M → Prop} {xc : Exc → M → Prop}
theorem wAt_ok {n : Nat} (h : wAt ok μ n) : ∃ a b c, μ[n]? = some (.lst (src a b c)) ∧ ok a b c := by
  unfold wAt at h
  split at h
  · exact ⟨_, _, _, by assumption, h⟩
  · exact h.elim
theorem le_sw (h : cfSw ok n FG ws μ Q xc) : callS (SSw ok n FG) ws μ Q xc := by
  unfold cfSw at h
  split at h
  · rename_i k ws'
    obtain ⟨hs, h⟩ := h
    split at h
    · rename_i ds e
      have := unD_map e
      subst this
      obtain ⟨a, b, c, hn, ho⟩ := wAt_ok hs
      refine call1 hn rfl (by simp [refsW, refs_map]) (by simp [refsW]) ⟨a, b, c, ds, ho, by simp [ren], h.1, rfl, ?_⟩
      have e3 : (fun d => ∀ a' b' c' : Int, ok a' b' c' → 1 ≤ ([.lst (src a' b' c')] : M).length ∧ Q (th [k] μ.length (.d d)) (merge μ [k] [.lst (src a' b' c')])) = fun d => ∀ a b c : Int, ok a b c → Q (.d d) (μ.set k (.lst (src a b c))) := by
        funext d
        simp [merge1l, th]
      exact e3 ▸ h.2
    · exact h.elim
  · exact h.elim
theorem len_sw (h : SSw ok n FG ws μ P) : ws.length = n + 1 := by
  obtain ⟨_, _, _, ds, _, rfl, h, _⟩ := h
  simpa using h
end
section
variable {ok : OK3} {mu : Bool} {g : DTG} {tt : DTT} {te : DTE} {vs : List Nat} {ρ : R} {Q : W → M → Prop}
theorem lc_srcw {s : Src} {rest : M} {a b c : Int} (good : Nat → D → Prop) (h0 : ok a b c) (hc : closedB (rest.length + 1) rest = true) (hz : s.items.length ≤ sizeLine) (hok : ∀ a b c acc, s.ok (.lst (src a b c) :: rest ++ [.lst acc]))
    (hstep : ∀ i w, s.items[i]? = some w → ∀ a b c acc (K : D → M → Prop) (N : M → Prop), ok a b c → (∀ d a' b' c', ok a' b' c' → good i d → K d (.lst (src a' b' c') :: rest ++ [.lst acc])) →
      g w (wipeR ρ vs) (.lst (src a b c) :: rest ++ [.lst acc]) fun ρ2 μ2 => tt ρ2 μ2 fun c μ3 => lcE te K N ρ2 c μ3)
    (hQ : ∀ ds a b c, ok a b c → ds.length = s.items.length → (∀ i d, ds[i]? = some d → good i d) → if mu then Q (.r (rest.length + 1)) (.lst (src a b c) :: rest ++ [.lst ds]) else Q (.d (.lst ds)) (.lst (src a b c) :: rest)) :
    lcB mu s g tt te vs ρ (.lst (src a b c) :: rest) Q := by
  refine ⟨fun i acc μ' => (∃ a b c, ok a b c ∧ μ' = .lst (src a b c) :: rest) ∧ acc.length = i ∧ ∀ j d, acc[j]? = some d → good j d, ⟨⟨a, b, c, h0, rfl⟩, rfl, fun j d h => by simp at h⟩, fun i acc μ' _ h => ?_, fun i w acc μ' e h => ?_, fun acc μ' h => ?_⟩
  · obtain ⟨⟨a, b, c, _, rfl⟩, _⟩ := h
    exact hok a b c acc
  · obtain ⟨⟨a, b, c, ho, rfl⟩, rfl, hg⟩ := h
    have hi := (List.getElem?_eq_some_iff.mp e).1
    refine ⟨by omega, ?_⟩
    refine hstep _ w e a b c acc (fun d' μ5 => closeL (Cell.lst (src a b c) :: rest).length acc μ5 ∧ (∃ a b c, ok a b c ∧ μ5.dropLast = .lst (src a b c) :: rest) ∧ (acc ++ [d']).length = acc.length + 1 ∧ ∀ j d, (acc ++ [d'])[j]? = some d → good j d)
      (fun μ3 => closeL (Cell.lst (src a b c) :: rest).length acc μ3 ∧ (∃ a b c, ok a b c ∧ μ3.dropLast = .lst (src a b c) :: rest) ∧ acc.length = acc.length + 1 ∧ ∀ j d, acc[j]? = some d → good j d) ho fun d a' b' c' ho' hd => ?_
    refine ⟨closeL_app.mpr ⟨by simp, rfl, by simpa [closedB, closedC] using hc⟩, ⟨a', b', c', ho', by rw [List.dropLast_concat]⟩, by simp, fun j x hj => ?_⟩
    by_cases hlt : j < acc.length
    · rw [List.getElem?_append_left hlt] at hj
      exact hg j x hj
    · have : j = acc.length := by
        have := (List.getElem?_eq_some_iff.mp hj).1
        simp at this
        omega
      subst this
      simp at hj
      subst hj
      exact hd
  · obtain ⟨⟨a, b, c, ho, rfl⟩, hl, hg⟩ := h
    exact hQ acc a b c ho hl hg
end
/-! what stands in a list is taken as data: the list changes no more -/
@[simp] def dEsc (t : DTE) (ρ : R) (μ : M) (Q : W → M → Prop) : Prop := t ρ μ fun w μ1 => match esc μ1 w with
  | some (d, μ2) => Q (.d d) μ2
  | none => False
theorem de_esc {X : Cx} {b : Bs} {e : Expr} {t : DTE} (h : DE X b e t) : DE X b e (dEsc t) := by
  obtain ⟨te, p, q⟩ := h.ex
  refine ⟨te, p, fun {G m ρ μ σ H Q K} o r tt k => q o r tt fun v H1 G1 m1 w μ1 l1 o1 r1 t1 => ?_⟩
  split at t1
  · rename_i d μ2 e
    obtain ⟨G2, l2, r2, rp⟩ := esc_ok o1.rel r1 e
    exact k v H1 G2 m1 (.d d) μ2 (l1.trans l2) (o1.mono l2 r2) (.d rp) t1
  · exact t1.elim
/-! what the order says of pairs of tuples -/
def pairT (p : List Nat × List Nat) : D := .tup [.tup (nats p.1), .tup (nats p.2)]
theorem toPs_nats (l : List Nat) : toPs (nats l) = some (l.map fun i : Nat => PyData.int i) := by
  induction l with
  | nil => rfl
  | cons a l ih => simp [nats, toPs, toP] at ih ⊢; rw [ih]
theorem toP_pairT (p : List Nat × List Nat) : toP (pairT p) = some (.tuple [.tuple (p.1.map fun i : Nat => PyData.int i), .tuple (p.2.map fun i : Nat => PyData.int i)]) := by
  simp [pairT, toP, toPs, toPs_nats]
theorem alike_intsN : ∀ a c : List Nat, PySem.W.alikeAll (a.map fun i : Nat => PyData.int i) (c.map fun i : Nat => PyData.int i) = true
  | [], _ => by simp [PySem.W.alikeAll]
  | _ :: _, [] => by simp [PySem.W.alikeAll]
  | a :: as, c :: cs => by simp [PySem.W.alikeAll, PySem.W.alike, alike_intsN as cs]
theorem toPs_pairs (l : List (List Nat × List Nat)) : toPs (l.map pairT) = some (l.map fun p => .tuple [.tuple (p.1.map fun i : Nat => PyData.int i), .tuple (p.2.map fun i : Nat => PyData.int i)]) := by
  induction l with
  | nil => rfl
  | cons p l ih => simp [toPs, toP_pairT, ih]
theorem dlt_pairT {x y : Nat} {t u s s' : List Nat} (h : x ≠ y) : dltD (pairT (x :: t, s)) (pairT (y :: u, s')) = decide (x < y) := by
  have e1 : PyData.eqv (.int (x : Int)) (.int (y : Int)) = false := by
    simp [PyData.eqv]
    omega
  have e2 : PyData.eqv (.tuple ((x :: t).map fun i : Nat => PyData.int i)) (.tuple ((y :: u).map fun i : Nat => PyData.int i)) = false := by
    simp [PyData.eqv, PyData.eqvAll]
    intro h
    omega
  unfold dltD
  rw [toP_pairT, toP_pairT]
  simp only [Option.getD_some]
  rw [PySem.W.dataLt_tuple, PySem.W.dataLt_all_no (by simp [PySem.W.alike, PySem.W.alikeAll, alike_intsN]) e2, PySem.W.dataLt_tuple, List.map_cons, List.map_cons, PySem.W.dataLt_all_no rfl e1, PySem.W.dataLt_int]
  simp
/-- pairs with different first numbers are sorted by them -/
theorem sort_pairs {l m es : List (List Nat × List Nat)} (hp : es.Perm l) (hs : (es.map pairT).Pairwise fun x y => dltD y x = false) (hm : m.Perm l) (ms : m.Pairwise fun a b => ∃ x t y u, a.1 = x :: t ∧ b.1 = y :: u ∧ x < y) : es = m := by
  have hpm : es.Perm m := hp.trans hm.symm
  rw [List.pairwise_map] at hs
  clear hp hm
  induction m generalizing es with
  | nil => exact hpm.eq_nil
  | cons c m ih =>
    cases es with
    | nil => exact absurd hpm.length_eq (by simp)
    | cons e es =>
      obtain ⟨m1, m2⟩ := List.pairwise_cons.mp ms
      obtain ⟨s1, s2⟩ := List.pairwise_cons.mp hs
      have hec : e = c := by
        have he : e ∈ c :: m := hpm.mem_iff.mp (List.mem_cons_self ..)
        rcases List.mem_cons.mp he with h | he
        · exact h
        have hc : c ∈ e :: es := hpm.mem_iff.mpr (List.mem_cons_self ..)
        rcases List.mem_cons.mp hc with h | hc
        · exact h.symm
        obtain ⟨x, t, y, u, q1, q2, q3⟩ := m1 e he
        have := s1 c hc
        obtain ⟨c1, c2⟩ := c
        obtain ⟨e1, e2⟩ := e
        simp only at q1 q2
        subst q1 q2
        rw [dlt_pairT (by omega)] at this
        simp at this
        omega
      subst hec
      rw [ih s2 m2 hpm.cons_inv]
theorem pairs_alike (l : List (List Nat × List Nat)) : PySem.W.AllAlike (l.map fun p => PyData.tuple [.tuple (p.1.map fun i : Nat => PyData.int i), .tuple (p.2.map fun i : Nat => PyData.int i)]) := fun d hd d' hd' => by
  obtain ⟨p, _, rfl⟩ := List.mem_map.mp hd
  obtain ⟨q, _, rfl⟩ := List.mem_map.mp hd'
  simp [PySem.W.alike, PySem.W.alikeAll, alike_intsN]
theorem pairs_sortable (l : List (List Nat × List Nat)) : PySem.W.Sortable (l.map fun p => PyData.tuple [.tuple (p.1.map fun i : Nat => PyData.int i), .tuple (p.2.map fun i : Nat => PyData.int i)]) := .inl fun d hd => by
  obtain ⟨p, _, rfl⟩ := List.mem_map.mp hd
  exact ⟨_, _, rfl⟩
theorem okD_nats2 (n : Nat) (l : List Nat) : okDs n (nats l) = true := by
  induction l with
  | nil => rfl
  | cons a l ih => simp [nats, okDs] at ih ⊢; exact ih
theorem okDs_pairs (n : Nat) (l : List (List Nat × List Nat)) : okDs (n + 2) (l.map pairT) = true := by
  induction l with
  | nil => rfl
  | cons p l ih => simp [okDs, ih, pairT, okD, okD_nats2]
/-- sorted(..) of such pairs -/
theorem sortD_pairs {l m : List (List Nat × List Nat)} {q : D → Prop} (hm : m.Perm l) (ms : m.Pairwise fun a b => ∃ x t y u, a.1 = x :: t ∧ b.1 = y :: u ∧ x < y) (h : q (.lst (m.map pairT))) : fSortD [.lst (l.map pairT)] q := by
  refine ⟨l.map pairT, _, rfl, toPs_pairs l, okDs_pairs 58 l, pairs_alike l, pairs_sortable l, fun es h1 h2 => ?_⟩
  obtain ⟨hs, rfl, h3⟩ := perm_map h1
  rw [sort_pairs h3 h2 hm ms]
  exact h
end DD
namespace DD
open PySem L2 PySem.Spec PyProof.Rows

/-! ### try with several clauses, some of them `as n` -/
/-- a clause: its class, the slot of its name (if it has one), its suite's reading -/
abbrev Cls1 := Value × Option Nat × (Addr → Value → Option Addr → TS)
def asEnd (i : Nat) (D : Ends) : Ends := { nx := fun σ' H' => D.nx (σ'.set i none) H', rt := D.rt, bk := fun σ' H' => D.bk (σ'.set i none) H', ct := fun σ' H' => D.ct (σ'.set i none) H' }
def wMix (K : PySem.W.Frag) (Wout : WX) (D : Ends) : List Cls1 → WX
  | [] => Wout
  | (c, none, ts) :: r => fun cls d σ H => ∃ b, PySem.W.exmOne K cls c = some b ∧ (b = true → ∀ a, H a = none → ts a cls d D σ H) ∧ (b = false → wMix K Wout D r cls d σ H)
  | (c, some i, ts) :: r => fun cls d σ H => ∃ b, PySem.W.exmOne K cls c = some b ∧ (b = true → ∀ a, H a = none → ts a cls d (asEnd i D) (σ.set i (some (.ref a))) H) ∧ (b = false → wMix K Wout D r cls d σ H)
abbrev SuiteOk (X : Cx) (sts : List Stmt) (ts : Addr → Value → Option Addr → TS) : Prop :=
  ∀ (a : Addr) (oe : Obj) (cls : Value) (d : Option Addr) (pn : List (Addr × Obj)), Zc cls d oe → (∃ vs, oe.data = .fields vs) → PSs (X.suite a ((a, oe) :: pn)) sts (ts a cls d)
inductive HdsMix (X : Cx) : List ExceptHandler → List Cls1 → Prop
  | nil : HdsMix X [] []
  | cons {x : Str} {c : Value} {ts : Addr → Value → Option Addr → TS} {b₀ : Stmt} {suite : List Stmt} {np pos' : Pos} {hds : List ExceptHandler} {l : List Cls1} (hc : Names X x c) (hsu : SuiteOk X (b₀ :: suite) ts) (r : HdsMix X hds l) :
      HdsMix X (.ExceptHandler (some (.Name x np)) none (b₀ :: suite) pos' :: hds) ((c, none, ts) :: l)
  | consAs {x n : Str} {i : Nat} {c : Value} {ts : Addr → Value → Option Addr → TS} {b₀ : Stmt} {suite : List Stmt} {np pos' : Pos} {hds : List ExceptHandler} {l : List Cls1} (hi : X.N[i]? = some n) (hln : X.env.kindOf n = some .local) (hc : Names X x c) (hsu : SuiteOk X (b₀ :: suite) ts) (r : HdsMix X hds l) :
      HdsMix X (.ExceptHandler (some (.Name x np)) (some n) (b₀ :: suite) pos' :: hds) ((c, some i, ts) :: l)
section
variable {X : Cx} {body : List Stmt} {h₀ : ExceptHandler} {hds : List ExceptHandler} {l : List Cls1} {pos : Pos} {tb : WX → TS} {Wout : WX}
theorem ps_try_mix (hs : X.stack = X.env :: X.outer) (hf : X.env.frame = some X.env.locals) (hN : X.N.Nodup) (tk : Takes X Wout)
    (hb : ∀ (W : WX) (pn : List (Addr × Obj)) (xe : Value → Shared → Prop), Takes (X.tr pn xe) W → PassesOwn (model X.prog X.w) X.A X.env xe → PSs (X.tr pn xe) body (tb W))
    (hh : HdsMix X (h₀ :: hds) l) : PS X (.Try body (h₀ :: hds) [] [] pos) (fun D σ H => tb (wMix X.K Wout D l) D σ H) := by
  refine ⟨fun pins s σ H D I h => ?_⟩
  have ok := I.ok
  have hfr : X.A.frames = some (X.env :: X.outer) := by rw [ok.frames, hs]
  refine wpAny_Try_except ?_
  refine wpAny_mono ((hb (wMix X.K Wout D l) (X.pn ++ pins) (fun e s₁ => wpAny (model X.prog X.w) X.A (noteFrame e X.env) (fun _ s₂ => wpAny (model X.prog X.w) X.A (setFlight e none) (fun _ s₃ =>
    wpAny (model X.prog X.w) X.A (handleBy e X.env (h₀ :: hds)) (SP X pins D) X.xe s₃) X.xe s₂) X.xe s₁) (fun u s' xx => ?_) PassesOwn.looking).run [] s σ H D (I.toTry _) h) (fun f s1 hsp => ?_) (fun e s1 he => he)
  · obtain ⟨a, B, sI, pins', σ', H', cls, d, rfl, J', nb, up, sky, na, os, ag, w⟩ := xx
    have J : Inv X pins σ' H' sI := J'.ofTry ok
    have sky' : Sky B (X.env :: X.outer) a (Zc cls d) X.env.locals s'.heap := by rw [← hs]; exact sky
    show wpAny (model X.prog X.w) X.A (noteFrame (.ref a) X.env) _ _ _
    refine Sky.land Zc.steady hfr hf sky' fun h3 fl3 up3 => ?_
    have J3 : Inv X pins σ' H' { s' with heap := h3 } := J.landed nb fl3.1 (up.trans up3) os ag
    obtain ⟨oe3, vs3, he3, hz3, hd3⟩ := fl3.there
    have nfr : a ∉ frs (X.env :: X.outer) := fun hm => by
      obtain ⟨_, o', e', hnf⟩ := fl3.2.2.1.mem hm
      rw [he3] at e'; cases e'
      exact hnf _ hd3
    have nL : a ≠ X.env.locals := fun z => nfr (List.mem_filterMap.mpr ⟨X.env, List.mem_cons_self, by rw [hf, z]⟩)
    have nF : a ∉ X.fs := fun hm => by
      obtain ⟨e, he, q⟩ := List.mem_filterMap.mp hm
      exact nfr (List.mem_filterMap.mpr ⟨e, List.mem_cons_of_mem _ he, q⟩)
    have S3 := J3.suite he3 hd3 na nL nF
    have LT : PySem.W.Looks (model X.prog X.w) h3 (typeOf (.ref a)) cls := fun A Q E s k q => wpAny_typeOf_ref (k _ _ he3) (by rw [hz3.1]; exact q)
    have test : ∀ {x : Str} {np : Pos} {c : Value} {Q : Value → Shared → Prop} {E : Value → Shared → Prop}, Names X x c → Q c { s' with heap := h3 } → wpAny (model X.prog X.w) (X.A.mark (some (.ref a))) (eval (.Name x np) X.env) Q E { s' with heap := h3 } := fun {x np c Q E} hc q => by
      obtain ⟨hg, hdbg, hm | ⟨hm, hv, hnn⟩⟩ := hc
      · exact ld_glob (X := X.suite a ((a, oe3) :: (X.pn ++ pins))) S3 hg hm q hdbg
      · exact ld_blt (X := X.suite a ((a, oe3) :: (X.pn ++ pins))) S3 hg hm hv q hnn hdbg
    have go : ∀ {hds' : List ExceptHandler} {l' : List Cls1}, HdsMix X hds' l' → wMix X.K Wout D l' cls d σ' H' →
        wpAny (model X.prog X.w) X.A (handleBy (.ref a) X.env hds') (SP X pins D) X.xe { s' with heap := h3 } := by
      intro hds' l' hk
      induction hk with
      | nil =>
        intro w
        refine wpAny_handleBy_nil ?_
        obtain ⟨k1, k2, k3, oe, vs, T, oT, ts', he, hz, hd, h1, hr⟩ := id fl3
        unfold PySem.passOn
        refine wpAny_bind (wpAny_field he hd h1 ?_)
        rw [if_neg (show ¬ ((Value.ref T == Value.none) = true) from by simp)]
        have fin : wpAny (model X.prog X.w) X.A (setFlight (.ref a) X.env.frame) (fun _ s4 => wpAny (model X.prog X.w) X.A (throw (.ref a) : Sem Flow) (SP X pins D) X.xe s4) X.xe { s' with heap := h3 } := by
          rw [hf]
          refine HandSPX.setFlight_upZ fl3 fun h4 hh4 up4 => wpAny_throw (tk _ _ ?_)
          exact ⟨a, B, sI, pins, σ', H', cls, d, rfl, J, nb, (up.trans up3).trans up4, .inr (.inr (by rw [hs]; exact hh4)), na, os, ag, w⟩
        first
          | exact wpAny_bind (wpAny_pure (wpAny_bind fin))
          | exact wpAny_bind fin
      | @cons x c ts b₀ suite np pos' hds2 l2 hc hsu r ih =>
        intro w
        obtain ⟨b, hb1, hyes, hno⟩ := w
        refine wpAny_handleBy_cons (codeAny_handlers_test ?_) (by intro q; cases q)
        have LM := PySem.W.exm_one (M := model X.prog X.w) (J3.kIn) LT hb1
        refine test hc (LM.here ?_)
        cases b with
        | true =>
          refine codeAny_handlers_suite ?_
          refine HandSPX.lands_againZ fl3 fun h4 fl4 up4 => ?_
          have J4 : Inv X pins σ' H' { s' with heap := h4 } := J.landed nb fl4.1 ((up.trans up3).trans up4) os ag
          obtain ⟨oe4, vs4, he4, hz4, hd4⟩ := fl4.there
          have S4 := J4.suite he4 hd4 na nL nF
          refine wpAny_mono ((hsu a oe4 cls d (X.pn ++ pins) hz4 ⟨_, hd4⟩).run [] _ _ H' _ S4 (hyes rfl a na)) (fun f s6 hsp => ?_) (fun _ _ z => False.elim z)
          cases f with
          | next =>
            obtain ⟨σ6, H6, S6, q6⟩ := hsp
            exact ⟨_, _, S6.unsuite ok, q6⟩
          | brk =>
            obtain ⟨σ6, H6, S6, q6⟩ := hsp
            exact ⟨_, _, S6.unsuite ok, q6⟩
          | cont =>
            obtain ⟨σ6, H6, S6, q6⟩ := hsp
            exact ⟨_, _, S6.unsuite ok, q6⟩
          | ret u =>
            obtain ⟨v6, σ6, H6, S6, r6, q6⟩ := hsp
            exact ⟨_, _, _, S6.unsuite ok, r6, q6⟩
        | false =>
          show wpAny _ X.A (handleBy (.ref a) X.env hds2) _ _ _
          exact ih (hno rfl)
      | @consAs x n i c ts b₀ suite np pos' hds2 l2 hi hln hc hsu r ih =>
        intro w
        obtain ⟨b, hb1, hyes, hno⟩ := w
        refine wpAny_handleBy_cons (codeAny_handlers_test ?_) (by intro q; cases q)
        have LM := PySem.W.exm_one (M := model X.prog X.w) (J3.kIn) LT hb1
        refine test hc (LM.here ?_)
        cases b with
        | true =>
          refine codeAny_handlers_suite_as ?_
          refine HandSPX.lands_againZ fl3 fun h4 fl4 up4 => ?_
          have J4 : Inv X pins σ' H' { s' with heap := h4 } := J.landed nb fl4.1 ((up.trans up3).trans up4) os ag
          obtain ⟨oe4, vs4, he4, hz4, hd4⟩ := fl4.there
          have S4 := J4.suite he4 hd4 na nL nF
          refine store_ok (X := X.suite a ((a, oe4) :: (X.pn ++ pins))) (v := .ref a) S4 hN hi (.inl hln) rfl (fun s5 S5 => ?_) (.inr hln)
          refine wpAny_mono ((hsu a oe4 cls d (X.pn ++ pins) hz4 ⟨_, hd4⟩).run [] s5 _ H' _ S5 (hyes rfl a na)) (fun f s6 hsp => ?_) (fun _ _ z => False.elim z)
          have end_ : ∀ {σ6 : L2.St} {H6 : Hp} {Q : Shared → Prop}, Inv (X.suite a ((a, oe4) :: (X.pn ++ pins))) [] σ6 H6 s6 → (∀ s7, Inv X pins (σ6.set i none) H6 s7 → Q s7) →
              wpAny (model X.prog X.w) X.A (do bindName X.env n .none; unbindBehindTheSuite X.env n pos') (fun _ s7 => Q s7) X.xe s6 := fun {σ6 H6 Q} S6 hq => gone_ok (S6.unsuite ok) hN hi hln hq
          cases f with
          | next =>
            obtain ⟨σ6, H6, S6, q6⟩ := hsp
            exact end_ S6 fun s7 J7 => ⟨_, _, J7, q6⟩
          | brk =>
            obtain ⟨σ6, H6, S6, q6⟩ := hsp
            exact end_ S6 fun s7 J7 => ⟨_, _, J7, q6⟩
          | cont =>
            obtain ⟨σ6, H6, S6, q6⟩ := hsp
            exact end_ S6 fun s7 J7 => ⟨_, _, J7, q6⟩
          | ret u =>
            obtain ⟨v6, σ6, H6, S6, r6, q6⟩ := hsp
            exact end_ S6 fun s7 J7 => ⟨_, _, _, J7, r6, q6⟩
        | false =>
          show wpAny _ X.A (handleBy (.ref a) X.env hds2) _ _ _
          exact ih (hno rfl)
    exact go hh w
  · cases f with
    | next =>
      obtain ⟨σ', H', J', q⟩ := hsp
      exact wpAny_execs_nil ⟨σ', H', J'.ofTry ok, q⟩
    | brk =>
      obtain ⟨σ', H', J', q⟩ := hsp
      exact ⟨σ', H', J'.ofTry ok, q⟩
    | cont =>
      obtain ⟨σ', H', J', q⟩ := hsp
      exact ⟨σ', H', J'.ofTry ok, q⟩
    | ret u =>
      obtain ⟨v, σ', H', J', r, q⟩ := hsp
      exact ⟨v, σ', H', J'.ofTry ok, r, q⟩
end
end DD
namespace DD
open PySem L2 PySem.Spec PyProof.Rows

/-! ### try: the reading -/
/-- a clause: which classes it takes, the slot of its name, its suite's reading (the exception, the number of its cell) -/
structure DCl where
  tab : Nat → Option Bool
  slot : Option Nat
  t : Exc → Nat → DTS
@[simp] def asR (i : Nat) (D : DEnds) : DEnds := { nx := fun ρ μ => D.nx (ρ.set i none) μ, rt := D.rt, bk := fun ρ μ => D.bk (ρ.set i none) μ, ct := fun ρ μ => D.ct (ρ.set i none) μ }
@[simp] def wMD (xc : Exc → M → Prop) (D : DEnds) (ρ0 : R) : List DCl → Exc → M → Prop
  | [], e, μ => xc e μ
  | k :: r, e, μ => match k.tab e.c with
    | some true => match k.slot with
      | none => k.t e 0 D ρ0 μ
      | some i => ∀ S, k.t e μ.length (asR i D) (ρ0.set i (some (.r μ.length))) (μ ++ [.scr [] S])
    | some false => wMD xc D ρ0 r e μ
    | none => False
@[simp] def dTry (xc : Exc → M → Prop) (n : Nat) (t : (Exc → M → Prop) → DTS) (cs : List DCl) (D : DEnds) (ρ : R) (μ : M) : Prop :=
  t (wMD xc D (List.replicate n none) cs) D ρ μ
/-- the exception e in a suite: its place is known, its dict stays -/
structure XIn (b : Bs) (a : Addr) (k : Nat) (e : Exc) (cls : Value) (d : Option Addr) : Prop where
  at_ : b.m0[k]? = some [a]
  cls : cls = .ref (b.cA e.c)
  fl : (e.fs = [] ∧ e.ds = [] ∧ d = none) ∨ ∃ dd xs, d = some dd ∧ (∀ {G m μ H}, WOk b G m μ H → H dd = some (.xd (e.fs.zip xs))) ∧ e.fs.length = xs.length ∧ Reps b.cA b.G0 xs e.ds
inductive DHds (X : Cx) (cA : Nat → Addr) : List ExceptHandler → List DCl → Prop
  | nil : DHds X cA [] []
  | cons {x : Str} {c : Nat} {tab : Nat → Option Bool} {t : DTS} {b₀ : Stmt} {suite : List Stmt} {np pos' : Pos} {hds : List ExceptHandler} {l : List DCl} (hc : Names X x (.ref (cA c)))
      (ht : ∀ k v, tab k = some v → PySem.W.exmOne X.K (.ref (cA k)) (.ref (cA c)) = some v)
      (hsu : ∀ (a : Addr) (oe : Obj) (pn : List (Addr × Obj)) (b' : Bs), b'.cA = cA → DSs (X.suite a ((a, oe) :: pn)) b' (b₀ :: suite) t) (r : DHds X cA hds l) :
      DHds X cA (.ExceptHandler (some (.Name x np)) none (b₀ :: suite) pos' :: hds) (⟨tab, none, fun _ _ => t⟩ :: l)
  | consAs {x n : Str} {i c : Nat} {tab : Nat → Option Bool} {t : Exc → Nat → DTS} {b₀ : Stmt} {suite : List Stmt} {np pos' : Pos} {hds : List ExceptHandler} {l : List DCl} (hi : X.N[i]? = some n) (hln : X.env.kindOf n = some .local) (hc : Names X x (.ref (cA c)))
      (ht : ∀ k v, tab k = some v → PySem.W.exmOne X.K (.ref (cA k)) (.ref (cA c)) = some v)
      (hsu : ∀ (a : Addr) (oe : Obj) (cls : Value) (d : Option Addr) (pn : List (Addr × Obj)) (b' : Bs) (e : Exc) (k : Nat), b'.cA = cA → XIn b' a k e cls d → Zc cls d oe → (∃ vs, oe.data = .fields vs) → DSs (X.suite a ((a, oe) :: pn)) b' (b₀ :: suite) (t e k)) (r : DHds X cA hds l) :
      DHds X cA (.ExceptHandler (some (.Name x np)) (some n) (b₀ :: suite) pos' :: hds) (⟨tab, some i, t⟩ :: l)
/-- a suite's reading, all its worlds at once -/
def suiT (OK : Bs → DTS → Prop) : TS := fun D σ H => ∃ (b : Bs) (t : DTS) (G : Hp) (m : Wd) (ρ : R) (μ : M) (DD : DEnds), OK b t ∧ WOk b G m μ H ∧ RelR b.cA G m σ ρ ∧ t DD ρ μ ∧ EOk b G m DD D
theorem suiT_ok {X : Cx} {sts : List Stmt} {OK : Bs → DTS → Prop} (h : ∀ b t, OK b t → DSs X b sts t) : PSs X sts (suiT OK) := by
  refine ⟨fun pins s σ H D I hh => ?_⟩
  obtain ⟨b, t, G, m, ρ, μ, DD, ok, w, r, tt, e⟩ := hh
  obtain ⟨ts, p, q⟩ := (h b t ok).ex
  exact p.run pins s σ H D I (q w r tt e)
section
variable {cA : Nat → Addr} {U G G' H H' : Hp} {m m' : Wd} {μ : M} {σ : L2.St} {ρ : R}
theorem RelR.unset (r : RelR cA G m σ ρ) (i : Nat) : RelR cA G m (σ.set i none) (ρ.set i none) := by
  refine ⟨by simp [r.1], fun j z h => ?_⟩
  by_cases e : i = j
  · subst e
    by_cases hl : i < ρ.length
    · rw [List.getElem?_set_self hl] at h
      cases h
    · rw [List.getElem?_eq_none (by simpa using hl)] at h
      cases h
  · rw [List.getElem?_set_ne e] at h
    obtain ⟨x, h1, h2⟩ := r.2 j z h
    exact ⟨x, by rw [List.getElem?_set_ne e]; exact h1, h2⟩
theorem RelR.fresh {n : Nat} (h : σ.length = n) : RelR cA G m σ (List.replicate n none) :=
  ⟨by simp [h], fun i w e => by
    by_cases hi : i < n
    · rw [List.getElem?_replicate_of_lt hi] at e
      cases e
    · rw [List.getElem?_eq_none (by simpa using hi)] at e
      cases e⟩
/-- what stands and is nobody's is known from now on -/
theorem RelM.knowAt (r : RelM cA U G m μ H) {p : Addr} {o : HO} (h : H p = some o) (hg : G p = none) (hu : U p = none) (hn : ∀ (i : Nat) (c : Cell) (as : List Addr), μ[i]? = some c → m[i]? = some as → c.live = true → p ∉ as) : RelM cA U (upd G p o) m μ H := by
  have l : Le G m (upd G p o) m := ⟨(Sub.refl G).new hg, fun _ _ e => e⟩
  refine ⟨r.uh, fun a u e => ?_, fun a u e => ?_, r.len, fun i c as h1 h2 => (r.cell i c as h1 h2).mono l fun _ _ _ _ z => z, r.nd, r.apart, fun i c as a h1 h2 h3 h4 => ?_⟩
  · by_cases q : a = p
    · subst q
      rw [upd_same] at e
      cases e
      exact h
    · rw [upd_ne q] at e
      exact r.gh a u e
  · rw [upd_ne (ne_of_none e hu)]
    exact r.ug a u e
  · rw [upd_ne (fun q : a = p => hn i c as h1 h2 h3 (by rw [← q]; exact h4))]
    exact r.free i c as a h1 h2 h3 h4
theorem cell_no_xd {c : Cell} {as : List Addr} {p : Addr} {fs : List (Str × V)} (h : CellOk cA G m H as c) (lv : c.live = true) (e : H p = some (.xd fs)) : p ∉ as := by
  intro hp
  cases c with
  | lst ds => obtain ⟨q, xs, rfl, e2, _⟩ := h; simp at hp; subst hp; rw [e] at e2; cases e2
  | lstW ws => obtain ⟨q, xs, rfl, e2, _⟩ := h; simp at hp; subst hp; rw [e] at e2; cases e2
  | ins c fs ws => obtain ⟨q, dx, xs, rfl, e2, _⟩ := h; simp at hp; subst hp; rw [e] at e2; cases e2
  | dic ks ds => obtain ⟨q, xs, rfl, e2, _⟩ := h; simp at hp; subst hp; rw [e] at e2; cases e2
  | frz d => cases lv
  | scr ns S => cases lv
/-- a cell for an address that nobody reads through -/
theorem RelM.scrNew (r : RelM cA U G m μ H) (a : Addr) : RelM cA U G (m ++ [[a]]) (μ ++ [.scr [] (fun p => p = a)]) H := by
  have l : Le G m G (m ++ [[a]]) := Le.cellNew
  have split : ∀ (i : Nat) (c' : Cell) (as : List Addr), (μ ++ [Cell.scr [] (fun p => p = a)])[i]? = some c' → (m ++ [[a]])[i]? = some as → (μ[i]? = some c' ∧ m[i]? = some as) ∨ (c' = Cell.scr [] (fun p => p = a) ∧ as = [a]) := fun i c' as h1 h2 => by
    have hl := r.len
    by_cases hi : i < μ.length
    · rw [List.getElem?_append_left hi] at h1
      rw [List.getElem?_append_left (by omega)] at h2
      exact .inl ⟨h1, h2⟩
    · have : i = μ.length := by
        have := (List.getElem?_eq_some_iff.mp h1).1
        simp at this
        omega
      subst this
      rw [List.getElem?_append_right (by omega)] at h1 h2
      simp [hl] at h1 h2
      exact .inr ⟨h1.symm, h2.symm⟩
  refine ⟨r.uh, r.gh, r.ug, by simp [r.len], fun i c as h1 h2 => ?_, fun i c as h1 h2 lv => ?_, fun i j c c' as as' x h1 h2 h3 h4 lv lv' h7 h8 => ?_, fun i c as x h1 h2 lv h4 => ?_⟩
  · rcases split i c as h1 h2 with ⟨e1, e2⟩ | ⟨rfl, rfl⟩
    · exact (r.cell i c as e1 e2).mono l fun _ _ _ _ z => z
    · exact ⟨a, rfl, .inr rfl⟩
  · rcases split i c as h1 h2 with ⟨e1, e2⟩ | ⟨rfl, rfl⟩
    · exact r.nd i c as e1 e2 lv
    · cases lv
  · rcases split i c as h1 h3 with ⟨e1, e2⟩ | ⟨rfl, rfl⟩
    · rcases split j c' as' h2 h4 with ⟨f1, f2⟩ | ⟨rfl, rfl⟩
      · exact r.apart i j c c' as as' x e1 f1 e2 f2 lv lv' h7 h8
      · cases lv'
    · cases lv
  · rcases split i c as h1 h2 with ⟨e1, e2⟩ | ⟨rfl, rfl⟩
    · exact r.free i c as x e1 e2 lv h4
    · cases lv
end
section
variable {X : Cx} {b : Bs} {body : List Stmt} {h₀ : ExceptHandler} {hds : List ExceptHandler} {cs : List DCl} {pos : Pos} {n : Nat} {t : (Exc → M → Prop) → DTS}
/-- what the clauses wish of an exception -/
theorem hds_ok (h : DHds X b.cA hds cs) : ∃ l, HdsMix X hds l ∧ ∀ {G : Hp} {m : Wd} {D : DEnds} {E : Ends} {cls : Value} {d : Option Addr} {σ' : L2.St} {H' : Hp} {e : Exc} {G' : Hp} {m' : Wd} {μ' : M}, σ'.length = n → Le b.G0 b.m0 G m → Le G m G' m' → RelM b.cA b.U G' m' μ' H' → ExcAt b.cA G' H' cls d e →
    wMD b.xc D (List.replicate n none) cs e μ' → EOk b G m D E → wMix X.K (fun cls d _ H => EX b cls d H) E l cls d σ' H' := by
  induction h with
  | nil => exact ⟨[], .nil, fun {G m D E cls d σ' H' e G' m' μ'} hl l0 l rm ea w k => ⟨e, G', m', μ', l0.trans l, rm, ea, w⟩⟩
  | @cons x c tab t b₀ suite np pos' hds l hc ht hsu r ih =>
    obtain ⟨l2, h2, w2⟩ := ih
    refine ⟨_, .cons (ts := fun a cls d => suiT fun b' t' => b'.cA = b.cA ∧ t' = t) hc (fun a oe cls d pn hz hv => suiT_ok ?_) h2, ?_⟩
    · rintro b' t' ⟨e1, rfl⟩
      exact hsu a oe pn b' e1
    · intro G m D E cls d σ' H' e G' m' μ' hl l0 l rm ea w k
      have ec := ea.1
      simp only [wMD] at w
      cases ht' : tab e.c with
      | none => rw [ht'] at w; exact w.elim
      | some v =>
        rw [ht'] at w
        refine ⟨v, by rw [ec]; exact ht _ _ ht', fun hv a na => ?_, fun hv => ?_⟩
        · subst hv
          exact ⟨⟨b.cA, b.U, G', m', fun _ _ => False⟩, t, G', m', _, μ', D, ⟨rfl, rfl⟩, ⟨Le.refl _ _, rm⟩, RelR.fresh hl, w,
            ⟨fun σ H G1 m1 ρ μ l1 o1 => k.nx σ H G1 m1 ρ μ (l.trans l1) ⟨(l0.trans l).trans l1, o1.rel⟩, fun v H G1 m1 w μ l1 o1 => k.rt v H G1 m1 w μ (l.trans l1) ⟨(l0.trans l).trans l1, o1.rel⟩,
              fun σ H G1 m1 ρ μ l1 o1 => k.bk σ H G1 m1 ρ μ (l.trans l1) ⟨(l0.trans l).trans l1, o1.rel⟩, fun σ H G1 m1 ρ μ l1 o1 => k.ct σ H G1 m1 ρ μ (l.trans l1) ⟨(l0.trans l).trans l1, o1.rel⟩⟩⟩
        · subst hv
          exact w2 hl l0 l rm ea w k
  | @consAs x nm i c tab t b₀ suite np pos' hds l hi hln hc ht hsu r ih =>
    obtain ⟨l2, h2, w2⟩ := ih
    refine ⟨_, .consAs (ts := fun a cls d => suiT fun b' t' => b'.cA = b.cA ∧ ∃ e k, XIn b' a k e cls d ∧ t' = t e k) hi hln hc (fun a oe cls d pn hz hv => suiT_ok ?_) h2, ?_⟩
    · rintro b' t' ⟨e1, e, k, hx, rfl⟩
      exact hsu a oe cls d pn b' e k e1 hx hz hv
    · intro G m D E cls d σ' H' e G' m' μ' hl l0 l rm ea w k
      have ec := ea.1
      simp only [wMD] at w
      cases ht' : tab e.c with
      | none => rw [ht'] at w; exact w.elim
      | some v =>
        rw [ht'] at w
        refine ⟨v, by rw [ec]; exact ht _ _ ht', fun hv a na => ?_, fun hv => ?_⟩
        · subst hv
          have w := w (fun p => p = a)
          have key : ∃ G'', Le G' m' G'' m' ∧ RelM b.cA b.U G'' m' μ' H' ∧ ((e.fs = [] ∧ e.ds = [] ∧ d = none) ∨ ∃ dd xs, d = some dd ∧ (G'' dd = some (.xd (e.fs.zip xs)) ∨ b.U dd = some (.xd (e.fs.zip xs))) ∧ e.fs.length = xs.length ∧ Reps b.cA G'' xs e.ds) := by
            rcases ea.2 with z | ⟨dd, xs, e1, e2, e3, e4⟩
            · exact ⟨G', Le.refl _ _, rm, .inl z⟩
            · cases eg : G' dd with
              | some o =>
                have := rm.gh dd o eg
                rw [e2] at this
                cases this
                exact ⟨G', Le.refl _ _, rm, .inr ⟨dd, xs, e1, .inl eg, e3, e4⟩⟩
              | none =>
                cases eu : b.U dd with
                | some o =>
                  have := rm.uh dd o eu
                  rw [e2] at this
                  cases this
                  exact ⟨G', Le.refl _ _, rm, .inr ⟨dd, xs, e1, .inr eu, e3, e4⟩⟩
                | none =>
                  exact ⟨upd G' dd (.xd (e.fs.zip xs)), Le.know eg, rm.knowAt e2 eg eu fun i c as h1 h2 lv => cell_no_xd (rm.cell i c as h1 h2) lv e2, .inr ⟨dd, xs, e1, .inl upd_same, e3, e4.mono ((Sub.refl G').new eg)⟩⟩
          obtain ⟨G'', lg, rm2, hf⟩ := key
          have lk : Le G' m' G'' (m' ++ [[a]]) := lg.trans Le.cellNew
          have lm : μ'.length = m'.length := rm.len.symm
          have atk : (m' ++ [[a]])[μ'.length]? = some [a] := by rw [lm]; simp
          refine ⟨⟨b.cA, b.U, G'', m' ++ [[a]], fun _ _ => False⟩, t e μ'.length, G'', m' ++ [[a]], _, _, asR i D, ⟨rfl, e, μ'.length, ⟨atk, ec, ?_⟩, rfl⟩, ⟨Le.refl _ _, rm2.scrNew a⟩, (RelR.fresh hl).set (.r (as := []) atk) i, w,
            ⟨fun σ H G1 m1 ρ μ l1 o1 r1 q1 => k.nx _ H G1 m1 _ μ ((l.trans lk).trans l1) ⟨((l0.trans l).trans lk).trans l1, o1.rel⟩ (r1.unset i) q1, fun v H G1 m1 w μ l1 o1 => k.rt v H G1 m1 w μ ((l.trans lk).trans l1) ⟨((l0.trans l).trans lk).trans l1, o1.rel⟩,
              fun σ H G1 m1 ρ μ l1 o1 r1 q1 => k.bk _ H G1 m1 _ μ ((l.trans lk).trans l1) ⟨((l0.trans l).trans lk).trans l1, o1.rel⟩ (r1.unset i) q1, fun σ H G1 m1 ρ μ l1 o1 r1 q1 => k.ct _ H G1 m1 _ μ ((l.trans lk).trans l1) ⟨((l0.trans l).trans lk).trans l1, o1.rel⟩ (r1.unset i) q1⟩⟩
          rcases hf with z | ⟨dd, xs, e1, e2, e3, e4⟩
          · exact .inl z
          · refine .inr ⟨dd, xs, e1, fun {G m μ H} o => ?_, e3, e4⟩
            rcases e2 with e2 | e2
            · exact o.rel.gh _ _ (o.le.g _ _ e2)
            · exact o.rel.uh _ _ e2
        · subst hv
          exact w2 hl l0 l rm ea w k
/-- the body of a try -/
abbrev TryBody (X : Cx) (cA : Nat → Addr) (body : List Stmt) (t : (Exc → M → Prop) → DTS) : Prop :=
  ∀ (pn : List (Addr × Obj)) (xe : Value → Shared → Prop) (b' : Bs), b'.cA = cA → XOk (X.tr pn xe) b' → (∀ W, (∀ cls d σ H, W cls d σ H → EX b' cls d H) → Takes (X.tr pn xe) W) → PassesOwn (model X.prog X.w) X.A X.env xe → DSs (X.tr pn xe) b' body (t b'.xc)
theorem ds_try (hs : X.stack = X.env :: X.outer) (hf : X.env.frame = some X.env.locals) (hN : X.N.Nodup) (hn : X.N.length = n) (tk : ∀ W, (∀ cls d σ H, W cls d σ H → EX b cls d H) → Takes X W)
    (hb : TryBody X b.cA body t) (hh : DHds X b.cA (h₀ :: hds) cs) : DS X b (.Try body (h₀ :: hds) [] [] pos) (dTry b.xc n t cs) := by
  obtain ⟨l, hm, hw⟩ := hds_ok (n := n) hh
  refine ⟨_, ps_try_mix (tb := fun W => fun D σ H => ∃ (b' : Bs) (G : Hp) (m : Wd) (ρ : R) (μ : M) (DD : DEnds), b'.cA = b.cA ∧ (∀ cls d σ H, σ.length = n → EX b' cls d H → W cls d σ H) ∧ WOk b' G m μ H ∧ RelR b'.cA G m σ ρ ∧ t b'.xc DD ρ μ ∧ EOk b' G m DD D)
    hs hf hN (tk _ fun _ _ _ _ h => h) (fun W pn xe tkW pw => ?_) hm, ?_⟩
  · refine ⟨fun pins s σ H D I h => ?_⟩
    obtain ⟨b', G, m, ρ, μ, DD, e1, hW, w, r, tt, ee⟩ := h
    have tk' : Takes (X.tr pn xe) (fun cls d _ H => EX b' cls d H) := fun u s' ⟨a, B, sI, pins, σ, H, cls, d, e, I, nb, up, sky, na, os, ag, w⟩ =>
      tkW u s' ⟨a, B, sI, pins, σ, H, cls, d, e, I, nb, up, sky, na, os, ag, hW _ _ _ _ (I.len.trans hn) w⟩
    obtain ⟨ts, p, q⟩ := (hb pn xe b' e1 (passes_call (X := X.tr pn xe) tk' fun _ _ _ _ h => h) (fun W hW => tk'.imp hW) pw).ex
    exact p.run pins s σ H D I (q w r tt ee)
  · intro G m ρ μ σ H D E o r tt k
    refine ⟨⟨b.cA, b.U, G, m, wMD b.xc D (List.replicate n none) cs⟩, G, m, ρ, μ, D, rfl, ?_, ⟨Le.refl _ _, o.rel⟩, r, tt, ?_⟩
    · rintro cls d σ' H' hl ⟨e, G', m', μ', l', rm, ea, hx⟩
      exact hw hl o.le l' rm ea hx k
    · exact ⟨fun σ H G1 m1 ρ μ l1 o1 => k.nx σ H G1 m1 ρ μ l1 ⟨o.le.trans o1.le, o1.rel⟩, fun v H G1 m1 w μ l1 o1 => k.rt v H G1 m1 w μ l1 ⟨o.le.trans o1.le, o1.rel⟩, fun σ H G1 m1 ρ μ l1 o1 => k.bk σ H G1 m1 ρ μ l1 ⟨o.le.trans o1.le, o1.rel⟩, fun σ H G1 m1 ρ μ l1 o1 => k.ct σ H G1 m1 ρ μ l1 ⟨o.le.trans o1.le, o1.rel⟩⟩
/-! ### raise C() -/
/-- what a class without fields must say -/
structure Xc0 (K : PySem.W.Frag) (cA : Nat → Addr) (c : Nat) : Prop where
  ex : ∃ bmB B newId initId, ExcBaseFacts B newId initId bmB ∧ PySem.W.excIn K (cA c) bmB newId = true
  keep : PySem.W.keepIn K (.ref (cA c)) = true
  sub : PySem.W.subIn K (.ref (cA c)) (.type "BaseException") = some true
  ty : PySem.W.typeIn K (.ref (cA c)) = some (.type "type")
@[simp] def dRaise0 (c : Nat) (xc : Exc → M → Prop) (_D : DEnds) (_ρ : R) (μ : M) : Prop := xc ⟨c, [], []⟩ μ
theorem pmk_own0 {C : Addr} {bmB : List Value} {B newId initId : String} {x : Str} {p pos : Pos} (F : ExcBaseFacts B newId initId bmB) (q : PySem.W.excIn X.K C bmB newId = true) (gC : X.mg x = some (.ref C)) (kC : PySem.W.keepIn X.K (.ref C) = true) (r : Raises X (.ref C)) (hg : Gl X x)
    (hdb : (x == ("__debug__" : Str)) = false := by decide) : PMk X (.Call (.Name x p) [] [] pos) (fun _ H Q => Q (.ref C) none H) := by
  intro pins s σ H Q I h
  refine wpAny_Call_Name_kw (ld_glob I hg gC ?_ hdb)
  refine PySem.W.callWith_K0 I.kIn kC ?_
  obtain ⟨bm, N, nm, qn, bs, hdct, sn, sub, ab, col, dd, k0, k1, k2, k3, k5, mN, hC, hN, hni, T⟩ := exc_obj I.kIn q
  refine wpAny_call_exc_subT F T hC hN hni (fun h' e hm => ?_) (by show 0 ≤ sizeLine; omega)
  exact mk_of I hm r h (I.hok.gone hm.new)
theorem ds_raise0 {x : Str} {c : Nat} {p p2 : Pos} (T : Xc0 X.K b.cA c) (hc : X.calm = true) (tk : ∀ W, (∀ cls d σ H, W cls d σ H → EX b cls d H) → Takes X W) (gC : X.mg x = some (.ref (b.cA c))) (hg : Gl X x)
    (hdb : (x == ("__debug__" : Str)) = false := by decide) : DS X b (.Raise (some (.Call (.Name x p) [] [] p2)) none pos) (dRaise0 c b.xc) := by
  obtain ⟨bmB, B, newId, initId, F, q⟩ := T.ex
  refine ⟨_, ps_raise hc (tk (fun cls d _ H => EX b cls d H) fun _ _ _ _ h => h) (pmk_own0 F q gC T.keep (raises_own T.sub T.ty) hg hdb), fun {G m ρ μ σ H D E} o r t k => ?_⟩
  exact ⟨⟨c, [], []⟩, G, m, μ, o.le, o.rel, ⟨rfl, .inl ⟨rfl, rfl, rfl⟩⟩, t⟩
end
end DD
namespace DD
open PySem L2 PySem.Spec PyProof.Rows

/-! ### sorted(set(l)), l a list of ints, any number of them below the scan's bound -/
section
variable {P : Program} {w : World} {A : Around} {E : Value → Shared → Prop} {s : Shared}
abbrev nset (w : World) : Obj := { cls := .type "set", dict := none, data := .set #[] 0 (.fresh 0 0 (!w.params.followText "set-order")) }
set_option maxHeartbeats 3200000 in
theorem set_of_ints {l : Addr} {items : Array Value} (ns : List Int) {Q : Value → Shared → Prop} (hh : A.handled = none) (hl : s.heap.IsList l items) (hit : IntsAre items.toList ns) (hb : ns.length + 1 < scanBound)
    (h : ∀ (h' : Heap) (tk c : Nat), SetR w h' s.heap.objs.size (fun j => decide (j ∈ ns)) c → c ≤ ns.length → (∀ b o, s.heap.get? b = some o → h'.get? b = some o) → Q (.ref s.heap.objs.size) { s with heap := h', toks := tk }) :
    wpAny (model P w) A (call (.type "set") [.ref l]) Q E s := by
  have hisz : items.size = ns.length := by
    have q := IntsAre.length hit
    rw [Array.length_toList] at q
    exact q
  obtain ⟨c, tl, hmro⟩ := F.called_set.mro
  have hmade := F.called_set.made
  have hsub := F.called_set.sub
  refine wpAny_call (codeAny_of_tree ?_)
  show wpAny _ _ (callAny (.type "set") _) _ _ _
  refine wpAny_pure ⟨Code.quiet_builtin _ (by decide +kernel), codeAny_builtin F.entry_type_call ?_⟩
  rw [Around.under_plain (weight_type_call_type "set" [.ref l] []) rfl]
  have h1 := F.called_set.notType
  have h2 := F.called_set.canCreate
  have hct := F.typeCall_set_1 (.ref l)
  repeat (any_goals (first | assumption | wp_step))
  refine codeAny_mono (code_set_led1 (.ref l) (E := E) (Q₁ := fun obj s₁ => obj = .ref s.heap.objs.size ∧ s₁ = { s with heap := s.heap.push (nset w) }) ⟨rfl, rfl⟩) fun r s₁ hr => ?_
  cases r with
  | error e => exact hr
  | ok fl =>
    cases fl with
    | ret obj =>
      obtain ⟨rfl, rfl⟩ := hr
      have hS : (s.heap.push (nset w)).get? s.heap.objs.size = some (nset w) := Heap.get?_push_size _ rfl
      have hT : Shared.TypeIs { s with heap := s.heap.push (nset w) } (.ref s.heap.objs.size) "set" := ⟨_, hS, rfl⟩
      have hli := F.called_set.init.lookup
      have hbi := F.called_set.init.bind (.ref s.heap.objs.size)
      repeat (any_goals (first | assumption | wp_step))
      refine codeAny_mono (codeAny_call_builtin (R := wants (fun r s₂ => r = .none ∧ ∃ h' tk c, s₂ = { s with heap := h', toks := tk } ∧ SetR w h' s.heap.objs.size (fun j => decide (j ∈ ns)) c ∧ c ≤ ns.length ∧
          (∀ b o, s.heap.get? b = some o → h'.get? b = some o)) E) F.called_set.init.plain F.entry_set_init (check_set_init_1 hT ?_)) fun r₂ s₂ hr₂ => ?_
      · obtain ⟨ol, hol, hcl, nl, hdl⟩ := hl
        obtain ⟨ocls, odict, odata, oslots⟩ := ol
        simp only at hcl hdl
        subst hcl; subst hdl
        have hol' : (s.heap.push (nset w)).get? l = some { cls := .type "list", dict := odict, data := .seq items nl, slots := oslots } := Heap.get?_push_of_some _ hol
        have hsls := F.sub_list_set
        have hslf := F.sub_list_frozenset
        have hne : (Value.type "list" == Value.type "dict") = false := by decide
        have hl1 : (s.heap.push (nset w)).IsList l items := ⟨_, hol', rfl, nl, rfl⟩
        unfold Builtin.«set.__init__» noKeywords Builtin.Frozenset.updateFrom
        generalize hPI : pyIter = PI
        wp_walk
        subst hPI
        refine wpAny_pyIter_list hl1 ?_
        refine wpAny_bind (wpAny_runValue ?_)
        have hlS : l < s.heap.objs.size := Heap.lt_size hol
        have hh3 : A.in1.in1.in1.handled = none := by simp [hh]
        have hneI : l ≠ (s.heap.push (nset w)).objs.size := by
          rw [Heap.size_push]; exact Nat.ne_of_lt (Nat.lt_succ_of_lt hlS)
        have hSf : s.heap.objs.size ∉ [(s.heap.push (nset w)).objs.size, l] := by
          rw [Heap.size_push]; simp only [List.mem_cons, List.mem_singleton, List.not_mem_nil, or_false, not_or]
          exact ⟨Nat.ne_of_lt (Nat.lt_succ_self _), Nat.ne_of_gt hlS⟩
        have hval : ∀ (i : Nat) (v : Value), items[i]? = some v → ∃ k t, ns[i]? = some k ∧ v = .int k t := fun i v hv => by
          have hi : i < ns.length := by rw [← hisz]; exact (Array.getElem?_eq_some_iff.mp hv).1
          obtain ⟨t, e⟩ := PyProof.Rows.IntsAre.int_at hit i v (by rw [Array.getElem?_toList]; exact hv)
          refine ⟨ns[i], t, List.getElem?_eq_getElem hi, ?_⟩
          rw [e, List.getD_eq_getElem?_getD, List.getElem?_eq_getElem hi] <;> rfl
        refine set_update_ints ((Walks.list hh3 _ l hneI items).toS) s.heap.objs.size
          hSf ns hisz hb hval (items.size - 0) 0 _ (by omega) (Nat.zero_le _)
          ⟨⟨_, Heap.get?_push_size _ rfl, rfl, rfl⟩, (hl1.push _)⟩ ⟨0, Nat.le_refl 0, setR_new_at (Heap.get?_push_of_some _ hS)⟩ fun s' c' hm hc' hS' => ?_
        obtain ⟨h', g2, d', tk', os'⟩ := s'
        have eg : g2 = s.gens := hm.gens
        have ed : d' = s.drawn := hm.drawn
        have eo : os' = s.os := hm.os
        subst eg; subst ed; subst eo
        show wpAny _ _ _ _ _ _
        refine wpAny_pure ?_
        show wpAny _ _ (ret Value.none) _ _ _
        rw [hisz] at hc'
        refine wpAny_pure ⟨rfl, h', tk', c', rfl, hS', hc', fun b o e => ?_⟩
        have hb0 : b < s.heap.objs.size := Heap.lt_size e
        have hb1 : b ≠ s.heap.objs.size := Nat.ne_of_lt hb0
        have hb2 : b ≠ (s.heap.push (nset w)).objs.size := by
          rw [Heap.size_push]; exact Nat.ne_of_lt (Nat.lt_succ_of_lt hb0)
        exact hm.heap b o (by simp only [List.mem_cons, List.mem_singleton, List.not_mem_nil, or_false, not_or]; exact ⟨hb1, hb2⟩) (Heap.get?_push_of_some _ (Heap.get?_push_of_some _ e))
      · cases r₂ with
        | error e => exact hr₂
        | ok fl₂ =>
          cases fl₂ with
          | ret r =>
            obtain ⟨rfl, h', tk, c', rfl, hS', hc', hk'⟩ := hr₂
            repeat (any_goals (first | assumption | wp_step))
            exact h _ _ _ hS' hc' hk'
          | _ => exact hr₂.elim
    | _ => exact hr.elim
end

end DD
namespace DD
open PySem L2 PySem.Spec PyProof.Rows

section
variable {P : Program} {w : World} {A : Around} {E : Value → Shared → Prop} {s : Shared} {a : Addr}
theorem sorted_setI {S : Int → Bool} {n : Nat} {Q : Value → Shared → Prop} (R : SetR w s.heap a S n) (hh : A.handled = none)
    (hQ : ∀ s' p (out : Array Value) (c : Nat) (ns : List Int), (∀ b o, s.heap.get? b = some o → s'.heap.get? b = some o) → s'.gens = s.gens → s'.os = s.os → s.heap.objs.size ≤ p →
      s'.heap.get? p = some (seqObj "list" out c) → IntsAre out.toList ns → ns.Pairwise (· < ·) → (∀ k, k ∈ ns ↔ S k = true) → ns.length = n → Q (.ref p) s') :
    wpAny (model P w) A (call (.builtin "sorted") [.ref a]) Q E s := by
  obtain ⟨o, es, ep, t, ho, hex, hd, g, nd, hm, hb, hf, hn, hr, hl⟩ := R
  refine Calls.call_function_entry kind_sorted plain_sorted entry_sorted (args_sorted1 _) ?_
  unfold Builtin.«sorted»
  refine wpAny_bind (m := checkCount "sorted" 1 1 _) (wpAny_pure ?_)
  refine wpAny_bind (collect_set (A := A.in1) hh ⟨o, ho, hex.1, hd⟩ hf hb hr hl fun s1 vs k1 hz g1 o1 pm => ?_)
  have hvl : vs.length = n := by rw [pm.length_eq, List.length_map, Array.length_toList]; exact hn
  have hnb : n < scanBound := by rw [← hn]; exact hb
  have hI : IntsAre vs (vs.map Builtin.Re.reRawOf) := ints_of vs fun v hv => by
    obtain ⟨e, he, q⟩ := List.mem_map.mp (pm.mem_iff.mp hv)
    obtain ⟨k, tk, h1, _⟩ := g e he
    exact ⟨k, tk, by rw [← q]; exact h1⟩
  have pk : (vs.map Builtin.Re.reRawOf).Perm (es.toList.map keyOf) := by
    have q := pm.map Builtin.Re.reRawOf
    rw [List.map_map] at q
    exact q
  have hzl : vs.length ≤ sizeLine := by
    have := fits_of_scanBound hnb
    omega
  refine wpAny_bind (wpAny_newList ?_ hzl)
  have hoL : (s1.heap.push (seqObj "list" vs.toArray 0)).get? s1.heap.objs.size = some (seqObj "list" vs.toArray 0) := Heap.get?_push_size _ rfl
  refine wpAny_bind (wpAny_holding (wpAny_call_entry slot_list_sort ⟨_, hoL, rfl⟩ entry_list_sort (SrtO.list_sort_ord SrtO.swo_int hoL hzl (fun h2 => SrtO.ints_sortable hI h2) fun out h1 h2 => ⟨_, rfl, ?_⟩) (args_list_sort _)))
  obtain ⟨a1, a2, a3⟩ := SrtO.ints_out hI h1 h2
  obtain ⟨c, hc⟩ := sortedHeap_at (vs := vs) (out := out.toArray) hoL
  have pn : (out.map SrtO.iv).Perm (es.toList.map keyOf) := a2.trans pk
  refine wpAny_pure ⟨_, rfl, hQ _ s1.heap.objs.size out.toArray c (out.map SrtO.iv) (fun b u e => ?_) g1 o1 hz hc (by simpa using a1) (lt_of_le_nodup _ a3 (pn.nodup_iff.mpr nd)) (fun k => by rw [pn.mem_iff, ← hm k]) ?_⟩
  · have q := k1 b u e
    have hlt := Heap.lt_size q
    show (sortedHeap (s1.heap.push (seqObj "list" vs.toArray 0)) s1.heap.objs.size vs out.toArray).get? b = some u
    rw [sortedHeap_old (Nat.ne_of_lt hlt) (by rw [size_push']; exact Nat.lt_succ_of_lt hlt)]
    exact Heap.get?_push_of_some _ q
  · rw [pn.length_eq, List.length_map, Array.length_toList]; exact hn
end
section
variable {X : Cx} {b : Bs} {pos p p2 q : Pos} {e : Expr} {te : DTE}
def rSoS (K : PySem.W.Frag) : List V → Hp → VK → Prop := fun vs H Q => ∃ (l : Addr) (ns : List Int), vs = [V.ref l] ∧ SqL K H l (ns.map V.int) ∧ ns.length + 1 < scanBound ∧
  ∀ (ms : List Int) (p : Addr), ms.Pairwise (· < ·) → (∀ k, k ∈ ms ↔ k ∈ ns) → H p = none → Q (.ref p) (upd H p (.lst (ms.map V.int)))
def tSoS (K : PySem.W.Frag) (ta : TE) : TE := fun σ H Q => ta σ H fun x H1 => rSoS K [x] H1 Q
theorem pe_sortSet {ta : TE} (hc : X.calm = true) (hg : Gl X "sorted") (hm : X.mg "sorted" = none) (hg2 : Gl X "set") (hm2 : X.mg "set" = none) (ha : PE X e ta)
    (na : starEach [e] X.env = (false, eval e X.env) :: starEach [] X.env := by rfl) : PE X (.Call (.Name "sorted" p) [.Call (.Name "set" p2) [e] [] q] [] pos) (tSoS X.K ta) := by
  refine ⟨fun pins s σ H Q I h => ?_⟩
  refine Call_ (ld_blt I hg hm PyProof.Rows.boot_sorted ?_)
  refine PyProof.Rows.callWith_builtin1 (PyProof.Rows.args_cons ?_ rfl) rfl rfl
  refine Call_ (ld_blt I hg2 hm2 PyProof.Rows.boot_set ?_)
  refine PyProof.Rows.callWith_type1 (PyProof.Rows.args_cons (thn (ha.run pins s σ H _ I h) fun v s1 ⟨x, H1, I1, r1, q1⟩ => PyProof.Rows.args_nil ?_) na) na rfl
  obtain ⟨l, ns, ex, hq, hb, q1⟩ := q1
  cases ex
  cases r1
  obtain ⟨its, r, pl, hz⟩ := I1.list hq
  refine set_of_ints ns (I1.ok.hd hc) pl.isList (by simpa using r.ints) hb fun h' tk c R hcn keep => ?_
  refine PyProof.Rows.args_nil ?_
  have I2 : Inv X pins σ H1 { s1 with heap := h', toks := tk } := I1.kept fun b o e => keep b o e
  generalize hs2 : ({ s1 with heap := h', toks := tk } : Shared) = s2 at I2
  have R2 : SetR X.w s2.heap s1.heap.objs.size (fun j => decide (j ∈ ns)) c := by rw [← hs2]; exact R
  refine sorted_setI (s := s2) R2 (I2.ok.hd hc) fun s' p out c ms k g o hp hge hi hs hmem hl => ?_
  have hlen : (ms.map V.int).length ≤ sizeLine := by
    rw [List.length_map, hl]
    have := fits_of_scanBound hb
    omega
  have hn : H1 p = none := I2.hok.fresh hp
  have J : Inv X pins σ (upd H1 p (.lst (ms.map V.int))) { s2 with heap := s'.heap, gens := s'.gens, drawn := s'.drawn, toks := s'.toks } :=
    I2.call (ch := []) (Un.laid k hp hn) (I2.hok.laid k hp ⟨hlen, out.toList, c, vals_of_ints hi, hge⟩) (by rw [g]; exact I2.bare) (fun _ z => nomatch z)
  have e : s' = { s2 with heap := s'.heap, gens := s'.gens, drawn := s'.drawn, toks := s'.toks } := by
    cases s'
    cases s2
    cases o
    rfl
  rw [e]
  exact ⟨.ref p, _, J, rfl, q1 ms p hs (fun k => by rw [hmem k]; simp) hn⟩
@[simp] def fSoS (ds : List D) (q : D → Prop) : Prop := ∃ ns : List Int, ds = [.lst (ns.map .int)] ∧ ns.length + 1 < 4096 ∧ ∀ ms : List Int, ms.Pairwise (· < ·) → (∀ k, k ∈ ms ↔ k ∈ ns) → q (.lst (ms.map .int))
@[simp] def dSoS (te : DTE) (ρ : R) (μ : M) (Q : W → M → Prop) : Prop := te ρ μ fun w μ1 => match rss μ1 [w] with
  | some ds => fSoS ds fun d => Q (.d d) μ1
  | none => False
theorem on_sos {K : PySem.W.Frag} : OpN b (rSoS K) fSoS := by
  intro G m μ H vs ds q Kq w n f k
  obtain ⟨ns, rfl, hb, f⟩ := f
  obtain ⟨a, us, rfl, h, rp⟩ := seq_at (K := K) n rfl
  have h := h.resolve_right (by rintro ⟨_, z⟩; cases z)
  have := reps_ints_v rp
  subst this
  refine ⟨a, ns, rfl, h.1, hb, fun ms p h1 h2 hp => ?_⟩
  exact give_new w hp (fun G' s e => .lst e (reps_ints _)) (f ms h1 h2) k
theorem de_sos (hc : X.calm = true) (hm : X.mg "sorted" = none) (hm2 : X.mg "set" = none) (he : DE X b e te) (hg : Gl X "sorted") (hg2 : Gl X "set") (na : starEach [e] X.env = (false, eval e X.env) :: starEach [] X.env := by rfl) :
    DE X b (.Call (.Name "sorted" p) [.Call (.Name "set" p2) [e] [] q] [] pos) (dSoS te) := by
  obtain ⟨t', pa, qa⟩ := he.ex
  refine ⟨_, pe_sortSet hc hg hm hg2 hm2 pa na, fun {G m ρ μ σ H Q K} o r t k => ?_⟩
  refine qa o r t fun v H1 G1 m1 w μ1 l1 o1 r1 t1 => ?_
  split at t1
  · rename_i ds e1
    exact on_sos o1 (rss_ok (vs := [v]) (ws := [w]) o1.rel (.cons r1 .nil) e1) t1 fun v' H' G' z l o' rp qz => k v' H' G' m1 _ μ1 (l1.trans l) o' (.d rp) qz
  · exact t1.elim
end
end DD
namespace DD
open PySem L2 PySem.Spec PyProof.Rows
section
variable {X : Cx} {b : Bs} {body : List Stmt} {h₀ : ExceptHandler} {hds : List ExceptHandler} {cs : List DCl} {pos : Pos} {n : Nat} {t : (Exc → M → Prop) → DTS}
theorem ds_tryX (hs : X.stack = X.env :: X.outer) (hf : X.env.frame = some X.env.locals) (hN : X.N.Nodup) (hn : X.N.length = n) (tk : ∀ W, (∀ cls d σ H, W cls d σ H → EX b cls d H) → Takes X W)
    (hb : ∀ (pn : List (Addr × Obj)) (xe : Value → Shared → Prop) (U G : Hp) (m : Wd) (xc : Exc → M → Prop), XOk (X.tr pn xe) ⟨b.cA, U, G, m, xc⟩ → (∀ W, (∀ cls d σ H, W cls d σ H → EX ⟨b.cA, U, G, m, xc⟩ cls d H) → Takes (X.tr pn xe) W) → PassesOwn (model X.prog X.w) X.A X.env xe → DSs (X.tr pn xe) ⟨b.cA, U, G, m, xc⟩ body (t xc))
    (hh : DHds X b.cA (h₀ :: hds) cs) : DS X b (.Try body (h₀ :: hds) [] [] pos) (dTry b.xc n t cs) := by
  refine ds_try hs hf hN hn tk (fun pn xe b' e h1 h2 h3 => ?_) hh
  obtain ⟨cA', U, G, m, xc⟩ := b'
  dsimp only at e
  subst e
  exact hb pn xe U G m xc h1 h2 h3
theorem dh_cons {cA : Nat → Addr} {x : Str} {c : Nat} {tab : Nat → Option Bool} {t : DTS} {b₀ : Stmt} {suite : List Stmt} {np pos' : Pos} {l : List DCl} (hc : Names X x (.ref (cA c)))
    (ht : ∀ k v, tab k = some v → PySem.W.exmOne X.K (.ref (cA k)) (.ref (cA c)) = some v)
    (hsu : ∀ (a : Addr) (oe : Obj) (pn : List (Addr × Obj)) (U G : Hp) (m : Wd) (xc : Exc → M → Prop), DSs (X.suite a ((a, oe) :: pn)) ⟨cA, U, G, m, xc⟩ (b₀ :: suite) t) (r : DHds X cA hds l) :
    DHds X cA (.ExceptHandler (some (.Name x np)) none (b₀ :: suite) pos' :: hds) (⟨tab, none, fun _ _ => t⟩ :: l) := by
  refine .cons hc ht (fun a oe pn b' e => ?_) r
  obtain ⟨cA', U, G, m, xc⟩ := b'
  dsimp only at e
  subst e
  exact hsu a oe pn U G m xc
theorem dh_as {cA : Nat → Addr} {x nm : Str} {i c : Nat} {tab : Nat → Option Bool} {t : Exc → Nat → DTS} {b₀ : Stmt} {suite : List Stmt} {np pos' : Pos} {l : List DCl} (hi : X.N[i]? = some nm) (hln : X.env.kindOf nm = some .local) (hc : Names X x (.ref (cA c)))
    (ht : ∀ k v, tab k = some v → PySem.W.exmOne X.K (.ref (cA k)) (.ref (cA c)) = some v)
    (hsu : ∀ (a : Addr) (oe : Obj) (cls : Value) (d : Option Addr) (pn : List (Addr × Obj)) (U G : Hp) (m : Wd) (xc : Exc → M → Prop) (e : Exc) (k : Nat), XIn ⟨cA, U, G, m, xc⟩ a k e cls d → Zc cls d oe → (∃ vs, oe.data = .fields vs) → DSs (X.suite a ((a, oe) :: pn)) ⟨cA, U, G, m, xc⟩ (b₀ :: suite) (t e k)) (r : DHds X cA hds l) :
    DHds X cA (.ExceptHandler (some (.Name x np)) (some nm) (b₀ :: suite) pos' :: hds) (⟨tab, some i, t⟩ :: l) := by
  refine .consAs hi hln hc ht (fun a oe cls d pn b' e k ec hx hz hv => ?_) r
  obtain ⟨cA', U, G, m, xc⟩ := b'
  dsimp only at ec
  subst ec
  exact hsu a oe cls d pn U G m xc e k hx hz hv
/-! ### e.f in a suite -/
structure XFld (K : PySem.W.Frag) (cA : Nat → Addr) (flx : Nat → List Str) : Prop where
  xf : ∀ c f, f ∈ flx c → XfC K (cA c) ∧ PySem.W.findIn K (.ref (cA c)) f = some none
@[simp] def dXf (flx : Nat → List Str) (e : Exc) (k i : Nat) (f : Str) (ρ : R) (μ : M) (Q : W → M → Prop) : Prop := ρ[i]? = some (some (.r k)) ∧ f ∈ flx e.c ∧ match (e.fs.zip e.ds).lookup f with
  | some d => Q (.d d) μ
  | none => False
theorem reps_look {cA : Nat → Addr} {G : Hp} {f : Str} {d : D} : ∀ {fs : List Str} {xs : List V} {ds : List D}, Reps cA G xs ds → (fs.zip ds).lookup f = some d → ∃ v, (fs.zip xs).lookup f = some v ∧ Rep cA G v d
  | [], _, _, _, h => by simp at h
  | a :: fs, _, _, .nil, h => by simp at h
  | a :: fs, _, _, .cons r rs, h => by
    rw [List.zip_cons_cons, List.lookup_cons] at h ⊢
    cases e : f == a with
    | true => rw [e] at h; cases h; exact ⟨_, rfl, r⟩
    | false => rw [e] at h; exact reps_look rs h
theorem pe_never {e : Expr} : PE X e (fun _ _ _ => False) := ⟨fun _ _ _ _ _ _ h => h.elim⟩
theorem de_xf {flx : Nat → List Str} {a : Addr} {oe : Obj} {cls : Value} {d : Option Addr} {pn : List (Addr × Obj)} {e : Exc} {k i : Nat} {nm f : Str} {p : Pos} (T : XFld X.K b.cA flx) (hx : XIn b a k e cls d) (hz : Zc cls d oe) (hv : ∃ vs, oe.data = .fields vs)
    (hp : PE (X.suite a ((a, oe) :: pn)) (.Name nm p) (tVar i)) : DE (X.suite a ((a, oe) :: pn)) b (.Attribute (.Name nm p) f pos) (dXf flx e k i f) := by
  by_cases hm : f ∈ flx e.c
  · obtain ⟨T1, T2⟩ := T.xf e.c f hm
    refine ⟨_, pe_xf T1 T2 hz hv hp (by rfl), fun {G m ρ μ σ H Q K} o r t kk => ?_⟩
    obtain ⟨h1, _, h3⟩ := t
    split at h3
    · rename_i dd el
      obtain ⟨v, e1, q⟩ := r.2 i _ h1
      cases q with
      | @r _ p2 as ea =>
        have e2 := o.le.m _ _ hx.at_
        rw [ea] at e2
        cases e2
        have el2 := el
        rcases hx.fl with ⟨z1, z2, _⟩ | ⟨dx, xs, rfl, hdx, hl, rp⟩
        · rw [z1] at el2
          simp at el2
        · obtain ⟨x, l1, r1⟩ := reps_look rp el
          refine ⟨_, e1, rfl, hx.cls, dx, _, x, rfl, hdx o, l1, ?_⟩
          exact kk x H G m _ μ (Le.refl _ _) o (.d (r1.mono o.le.g)) h3
    · exact h3.elim
  · exact ⟨_, pe_never, fun {G m ρ μ σ H Q K} o r t kk => absurd t.2.1 hm⟩
end
end DD
namespace DD
open PySem L2 RZ
/-! ### the script: its length, its numbers, its parts -/
section
variable {X : Cx} {b : Bs} {pos p p2 : Pos} {e e1 e2 : Expr} {te ta tb : DTE}
theorem scr_sq {G : Hp} {m : Wd} {μ : M} {H : Hp} {v : V} {n : Nat} {ns : List Int} (o : WOk b G m μ H) (r : WRel b.cA G m v (.r n)) (e : μ[n]? = some (.scr ns (scrK X.K ns))) : ∃ q, v = .ref q ∧ SqL X.K H q (ns.map V.int) := by
  cases r with
  | @r _ q as em =>
    obtain ⟨q', f1, f2⟩ := o.rel.cell n _ _ e em
    cases f1
    exact ⟨q, rfl, f2.elim (fun ⟨o', e⟩ => .inl (.inr ⟨o', o.rel.gh _ _ e⟩)) fun e => .inr e⟩
@[simp] def dLenS (K : PySem.W.Frag) (te : DTE) (ρ : R) (μ : M) (Q : W → M → Prop) : Prop := te ρ μ fun w μ1 => match w with
  | .r n => match μ1[n]? with
    | some (.scr ns S) => S = scrK K ns ∧ Q (.d (.int ns.length)) μ1
    | _ => False
  | _ => False
theorem de_lenS (hm : X.mg "len" = none) (ha : DE X b e te) (hg : Gl X "len") (he : starEach [e] X.env = (false, eval e X.env) :: starEach [] X.env := by rfl) (hpl : (backTo pos (starEach [] X.env)).any (·.1) = false := by rfl) : DE X b (.Call (.Name "len" p) [e] [] pos) (dLenS X.K te) := by
  obtain ⟨t', pa, qa⟩ := ha.ex
  refine ⟨_, pe_callB call_len hg hm PySem.boot_len (pa_cons pa pa_nil he) (he := he) (hpl := hpl), fun {G m ρ μ σ H Q K} o r t k => ?_⟩
  refine qa o r t fun v H1 G1 m1 w μ1 l1 o1 r1 t1 => ?_
  split at t1
  · rename_i n
    split at t1
    · rename_i ns S e
      obtain ⟨rfl, t1⟩ := t1
      obtain ⟨q, rfl, sq⟩ := scr_sq o1 r1 e
      exact ⟨_, ns.length, rfl, .inl ⟨_, sq, by simp⟩, k _ H1 G1 m1 _ μ1 l1 o1 (.d (.int _)) t1⟩
    · exact t1.elim
  · exact t1.elim
@[simp] def dIxS (K : PySem.W.Frag) (ta tb : DTE) (ρ : R) (μ : M) (Q : W → M → Prop) : Prop := ta ρ μ fun x μ1 => tb ρ μ1 fun y μ2 => match x, y with
  | .r n, .d (.int i) => match μ2[n]? with
    | some (.scr ns S) => S = scrK K ns ∧ match atI ns i with
      | some z => Q (.d (.int z)) μ2
      | none => False
    | _ => False
  | _, _ => False
theorem atI_mapV {ns : List Int} {i z : Int} (h : atI ns i = some z) : atI (ns.map V.int) i = some (V.int z) := by
  unfold atI at h ⊢
  rw [List.length_map]
  cases e : ixN ns.length i with
  | none => rw [e] at h; cases h
  | some j =>
    rw [e] at h
    have h : ns[j]? = some z := h
    show (ns.map V.int)[j]? = _
    rw [List.getElem?_map, h]
    rfl
theorem de_ixS {e1 e2 : Expr} (ha : DE X b e1 ta) (hb : DE X b e2 tb) (hs : PlainIx e2 := by exact fun _ _ => rfl) : DE X b (.Subscript e1 e2 pos) (dIxS X.K ta tb) := by
  obtain ⟨ta', pa, qa⟩ := ha.ex
  obtain ⟨tb', pb, qb⟩ := hb.ex
  refine ⟨_, pe_ix ix_seq pa pb hs, fun {G m ρ μ σ H Q K} o r t k => ?_⟩
  refine qa o r t fun x H1 G1 m1 w1 μ1 l1 o1 r1 t1 => ?_
  refine qb o1 (r.mono l1) t1 fun y H2 G2 m2 w2 μ2 l2 o2 r2 t2 => ?_
  split at t2
  · rename_i n i
    split at t2
    · rename_i ns S hc
      obtain ⟨rfl, t2⟩ := t2
      split at t2
      · rename_i z ez
        obtain ⟨q, rfl, sq⟩ := scr_sq o2 (r1.mono l2) hc
        exact .inl ⟨q, _, i, _, rfl, isInt r2, sq, atI_mapV ez, k _ H2 G2 m2 _ μ2 (l1.trans l2) o2 (.d (.int z)) t2⟩
      · exact t2.elim
    · exact t2.elim
  · exact t2.elim
@[simp] def dSlS (K : PySem.W.Frag) (te : DTE) (tl th : DTO) (ρ : R) (μ : M) (Q : W → M → Prop) : Prop := te ρ μ fun w μ1 => tl ρ μ1 fun lo μ2 => th ρ μ2 fun hi μ3 => match w with
  | .r n => match μ3[n]? with
    | some (.scr ns S) => S = scrK K ns ∧ Q (.d (.lst ((cutL ns lo hi).map D.int))) μ3
    | _ => False
  | _ => False
theorem cut_map {α β : Type} {f : α → β} {xs : List α} {lo hi : Option Int} : cutL (xs.map f) lo hi = (cutL xs lo hi).map f := by
  unfold cutL
  rw [List.length_map, List.map_take, List.map_drop]
theorem de_slS {lo hi : Option Expr} {tl th : DTO} (ha : DE X b e te) (hl : DO X b lo tl) (hu : DO X b hi th) : DE X b (.Subscript e (.Slice lo hi none p2) pos) (dSlS X.K te tl th) := by
  obtain ⟨t', pa, qa⟩ := ha.ex
  obtain ⟨t1', p1, q1⟩ := hl.ex
  obtain ⟨t2', p2', q2⟩ := hu.ex
  refine ⟨_, pe_slice sl_list pa p1 p2', fun {G m ρ μ σ H Q K} o r t k => ?_⟩
  refine qa o r t fun v H1 G1 m1 w μ1 l1 o1 r1 t1 => ?_
  refine q1 o1 (r.mono l1) t1 fun lo H2 G2 m2 μ2 l2 o2 t2 => ?_
  refine q2 o2 ((r.mono l1).mono l2) t2 fun hi H3 G3 m3 μ3 l3 o3 t3 => ?_
  have lf := l1.trans (l2.trans l3)
  have rw3 := (r1.mono l2).mono l3
  split at t3
  · rename_i n
    split at t3
    · rename_i ns S hc
      obtain ⟨rfl, t3⟩ := t3
      obtain ⟨q, rfl, sq⟩ := scr_sq o3 rw3 hc
      refine ⟨q, _, rfl, sq, fun z hz => ?_⟩
      have hg := (o3.rel.new hz).1
      have l4 : Le G3 m3 (upd G3 z (.lst (cutV (ns.map V.int) lo hi))) m3 := Le.know hg
      refine k _ _ _ m3 _ μ3 (lf.trans l4) (o3.mono l4 (o3.rel.know hz)) (.d (.lst upd_same (Reps.mono l4.g ?_))) t3
      have := cut_reps (lo := lo) (hi := hi) (reps_ints (cA := b.cA) (G := G3) ns)
      rwa [cut_map] at this
    · exact t3.elim
  · exact t3.elim
end
end DD
namespace DD
open PySem L2 RZ PySem.Spec PyProof.Rows
/-! ### raise C(x), raise C(x, y): own exceptions whose __init__ stores what it is given -/
def spX1 (C : Addr) (f : Str) : Sp := fun vs H Q _ => ∃ (a : Addr) (y : V), vs = [.ref a, y] ∧ H a = some (exo a C none) ∧ ∀ dx, H dx = none → dx ≠ a → Q .non (upd (upd H dx (exd dx [(f, y)])) a (exo a C (some dx)))
def spX2 (C : Addr) (f g : Str) : Sp := fun vs H Q _ => ∃ (a : Addr) (y z : V), vs = [.ref a, y, z] ∧ H a = some (exo a C none) ∧ ∀ dx, H dx = none → dx ≠ a → Q .non (upd (upd (upd H dx (exd dx [(f, y)])) a (exo a C (some dx))) dx (exd dx [(g, z), (f, y)]))
section
variable {P : Program} {w : World} {K : PySem.W.Frag} {mg : Str → Option Value} {base : Heap} {C fI : Addr} {fd : FuncData} {qual f g : Str} {st : Stmt}
theorem fn_X1 {a x : Str} (T : OexC K C) (hf : PySem.W.findIn K (.ref C) f = some none) (F : L2.Fun K "__init__" qual st fI fd) (Sc : FnScope [a, x] [a, x] (defScope st))
    (hps : ∀ cdv A outer s H E, PSs (cxOf (L2.CX P w) P w K mg base [a, x] qual (defScope st) fI cdv A outer s H E) (defBody st) (tOst K f (tVar 0) (tVar 1))) : FnOk P w K mg base (L2.CX P w) 1 fI fd [a, x] (spX1 C f) := by
  refine F.okX (k := 0) Sc (fun vs H Q E h => by obtain ⟨a, y, rfl, _⟩ := h; rfl) (fun cdv A outer s H vs Q E hr h => ⟨_, hps cdv A outer s H E, ?_⟩)
  obtain ⟨a, y, rfl, ha, h⟩ := h
  exact ⟨y, rfl, .ref a, rfl, a, C, rfl, T, hf, .inl ⟨ha, fun dx h1 h2 => h dx h1 h2⟩⟩
theorem fn_X2 {a x y : Str} (T : OexC K C) (hf : PySem.W.findIn K (.ref C) f = some none) (hg : PySem.W.findIn K (.ref C) g = some none) (F : L2.Fun K "__init__" qual st fI fd) (Sc : FnScope [a, x, y] [a, x, y] (defScope st))
    (hps : ∀ cdv A outer s H E, PSs (cxOf (L2.CX P w) P w K mg base [a, x, y] qual (defScope st) fI cdv A outer s H E) (defBody st) (tSeq (tOst K f (tVar 0) (tVar 1)) (tOst K g (tVar 0) (tVar 2)))) : FnOk P w K mg base (L2.CX P w) 1 fI fd [a, x, y] (spX2 C f g) := by
  refine F.okX (k := 0) Sc (fun vs H Q E h => by obtain ⟨a, y, z, rfl, _⟩ := h; rfl) (fun cdv A outer s H vs Q E hr h => ⟨_, hps cdv A outer s H E, ?_⟩)
  obtain ⟨a, y, z, rfl, ha, h⟩ := h
  refine ⟨y, rfl, .ref a, rfl, a, C, rfl, T, hf, .inl ⟨ha, fun dx h1 h2 => ?_⟩⟩
  exact ⟨z, rfl, .ref a, rfl, a, C, rfl, T, hg, .inr ⟨dx, [(f, y)], upd_same, by rw [upd_ne h2, upd_same], by simp, h dx h1 h2⟩⟩
end
/-- what a raise of C needs -/
structure Xkc (P : Program) (w : World) (K : PySem.W.Frag) (mg : Str → Option Value) (base : Heap) (cA : Nat → Addr) (c : Nat) (sp : Sp) : Prop where
  ex : ∃ (fI : Addr) (fd : FuncData) (ps : List Str), OexC K (cA c) ∧ PySem.W.findIn K (.ref (cA c)) "__init__" = some (some (.ref fI)) ∧ PySem.W.typeIn K (.ref fI) = some (.type "function") ∧ FnOk P w K mg base (L2.CX P w) 1 fI fd ps sp ∧ Binds K fd ps []
@[simp] def dRaiseX (c : Nat) (fs : List Str) (ta : DTA) (xc : Exc → M → Prop) (_D : DEnds) (ρ : R) (μ : M) : Prop := ta ρ μ fun ws μ1 => match unD ws with
  | some ds => ds.length = fs.length ∧ xc ⟨c, fs, ds.reverse⟩ μ1
  | none => False
section
variable {X : Cx} {b : Bs} {x f g : Str} {c : Nat} {p p2 pos : Pos} {e : Expr} {es : List Expr} {ta : DTA}
theorem passes_no : Passes (L2.CX X.prog X.w) X (fun _ _ _ => False) := fun pins σ H s e s' I z => by
  obtain ⟨_, _, _, cls, d, _, _, _, _, _, _, _, z⟩ := z
  exact z.elim
theorem x_end {H H2 : Hp} {a dx : Addr} {o : HO} (ha : H a = none) (hd : H dx = none) (h2 : ∀ b, b ≠ a → b ≠ dx → H2 b = H b) : Sub H (upd (del H2 a) dx o) := fun b u e => by
  have n1 := ne_of_none e ha
  have n2 := ne_of_none e hd
  rw [upd_ne n2, del_ne n1, h2 b n1 n2]
  exact e
theorem ds_raiseX1 (B : Xkc X.prog X.w X.K X.mg X.base b.cA c (spX1 (b.cA c) f)) (hm : X.mg x = some (.ref (b.cA c))) (hr : Room 2 X.A) (hc : X.calm = true) (tk : ∀ W, (∀ cls d σ H, W cls d σ H → EX b cls d H) → Takes X W) (ha : DA X b (e :: es) ta) (hg : Gl X x)
    (hdb : (x == ("__debug__" : Str)) = false := by decide) (he : starEach (e :: es) X.env = (false, eval e X.env) :: starEach es X.env := by rfl) (hpl : (backTo p2 (starEach es X.env)).any (·.1) = false := by rfl) :
    DS X b (.Raise (some (.Call (.Name x p) (e :: es) [] p2)) none pos) (dRaiseX c [f] ta b.xc) := by
  obtain ⟨fI, fd, ps, T, iC, tI, F, hb⟩ := B.ex
  obtain ⟨t', pa, qa⟩ := ha.ex
  refine ⟨_, ps_raise hc (tk (fun cls d _ H => EX b cls d H) fun _ _ _ _ h => h) (pmk_oex T iC tI F hr hb .nil passes_no hg hm pa hdb he hpl), fun {G m ρ μ σ H D E} o r t k => ?_⟩
  refine qa o r t fun vs H1 G1 m1 ws μ1 l1 o1 r1 t1 => ?_
  split at t1
  · rename_i ds ed
    obtain ⟨hl, hx⟩ := t1
    have := unD_map ed
    subst this
    match ds, hl, r1, hx with
    | [d1], _, .cons (.d q1) .nil, hx =>
      rename_i y1
      refine ⟨by simp, fun a na => ?_⟩
      refine ⟨a, y1, rfl, upd_same, fun dx hd hn => ⟨rfl, dx, [(f, y1)], upd_same, by rw [upd_ne hn, upd_same], ?_, ?_⟩⟩
      · rw [upd_ne hn] at hd
        exact hd
      · have hd1 : H1 dx = none := by rw [upd_ne hn] at hd; exact hd
        have s : Sub H1 (upd (del (upd (upd (upd H1 a (exo a (b.cA c) none)) dx (exd dx [(f, y1)])) a (exo a (b.cA c) (some dx))) a) dx (.xd [(f, y1)])) := x_end na hd1 fun z h1 h2 => by rw [upd_ne h1, upd_ne h2, upd_ne h1]
        exact ⟨⟨c, [f], [d1]⟩, G1, m1, μ1, o1.le, o1.rel.grow s, ⟨rfl, .inr ⟨dx, [y1], rfl, upd_same, rfl, .cons q1 .nil⟩⟩, hx⟩
  · exact t1.elim
theorem ds_raiseX2 (B : Xkc X.prog X.w X.K X.mg X.base b.cA c (spX2 (b.cA c) f g)) (hm : X.mg x = some (.ref (b.cA c))) (hr : Room 2 X.A) (hc : X.calm = true) (tk : ∀ W, (∀ cls d σ H, W cls d σ H → EX b cls d H) → Takes X W) (ha : DA X b (e :: es) ta) (hg : Gl X x)
    (hdb : (x == ("__debug__" : Str)) = false := by decide) (he : starEach (e :: es) X.env = (false, eval e X.env) :: starEach es X.env := by rfl) (hpl : (backTo p2 (starEach es X.env)).any (·.1) = false := by rfl) :
    DS X b (.Raise (some (.Call (.Name x p) (e :: es) [] p2)) none pos) (dRaiseX c [g, f] ta b.xc) := by
  obtain ⟨fI, fd, ps, T, iC, tI, F, hb⟩ := B.ex
  obtain ⟨t', pa, qa⟩ := ha.ex
  refine ⟨_, ps_raise hc (tk (fun cls d _ H => EX b cls d H) fun _ _ _ _ h => h) (pmk_oex T iC tI F hr hb .nil passes_no hg hm pa hdb he hpl), fun {G m ρ μ σ H D E} o r t k => ?_⟩
  refine qa o r t fun vs H1 G1 m1 ws μ1 l1 o1 r1 t1 => ?_
  split at t1
  · rename_i ds ed
    obtain ⟨hl, hx⟩ := t1
    have := unD_map ed
    subst this
    match ds, hl, r1, hx with
    | [d1, d2], _, .cons (.d q1) (.cons (.d q2) .nil), hx =>
      rename_i y1 y2
      refine ⟨by simp, fun a na => ?_⟩
      refine ⟨a, y1, y2, rfl, upd_same, fun dx hd hn => ⟨rfl, dx, [(g, y2), (f, y1)], by rw [upd_ne (Ne.symm hn), upd_same], upd_same, ?_, ?_⟩⟩
      · rw [upd_ne hn] at hd
        exact hd
      · have hd1 : H1 dx = none := by rw [upd_ne hn] at hd; exact hd
        have s : Sub H1 (upd (del (upd (upd (upd (upd H1 a (exo a (b.cA c) none)) dx (exd dx [(f, y1)])) a (exo a (b.cA c) (some dx))) dx (exd dx [(g, y2), (f, y1)])) a) dx (.xd [(g, y2), (f, y1)])) := x_end na hd1 fun z h1 h2 => by rw [upd_ne h2, upd_ne h1, upd_ne h2, upd_ne h1]
        exact ⟨⟨c, [g, f], [d2, d1]⟩, G1, m1, μ1, o1.le, o1.rel.grow s, ⟨rfl, .inr ⟨dx, [y2, y1], rfl, upd_same, rfl, .cons q2 (.cons q1 .nil)⟩⟩, hx⟩
  · exact t1.elim
end
end DD
namespace DD
open PySem L2 RZ PySem.Spec PyProof.Rows
/-! ### l.index(k), l a list of ints that holds k -/
section
variable {X : Cx} {b : Bs} {pos p p2 q apos cpos : Pos} {o e : Expr} {to te : DTE} {ta : DTA}
@[simp] def dIndex (to : DTE) (ta : DTA) (ρ : R) (μ : M) (Q : W → M → Prop) : Prop := to ρ μ fun x μ1 => (∃ ds, rs μ1 x = some (.lst ds)) ∧ ta ρ μ1 fun ws μ2 => ∃ (ns : List Int) (k : Int) (j : Nat), rs μ2 x = some (.lst (ns.map .int)) ∧ rss μ2 ws = some [.int k] ∧ ns[j]? = some k ∧ (∀ m, m < j → ns[m]? ≠ some k) ∧ Q (.d (.int j)) μ2
theorem eqV_int (a c : Int) : eqV (.int a) (.int c) = decide (a = c) := by
  unfold eqV
  first | rfl | simp
theorem de_index (ho : DE X b o to) (ha : DA X b [e] ta)
    (hp : ∀ {to : TE} {ta : TA}, PE X o to → PA X [e] ta → PE X (.Call (.Attribute o "index" apos) [e] [] pos) (tBM X.K "list" (rIndex X.K) to ta)) : DE X b (.Call (.Attribute o "index" apos) [e] [] pos) (dIndex to ta) := by
  obtain ⟨to', po, qo⟩ := ho.ex
  obtain ⟨ta', pa, qa⟩ := ha.ex
  refine ⟨_, hp po pa, fun {G m ρ μ σ H Q K} ok rr t k => ?_⟩
  refine qo ok rr t fun v H1 G1 m1 w μ1 l1 o1 r1 t1 => ?_
  obtain ⟨⟨ds, e1⟩, t1⟩ := t1
  obtain ⟨p, us, rfl, h1, h2⟩ := rs_ok o1.rel r1 e1
  refine ⟨.inl ⟨rfl, us, SqL.of h1⟩, ?_⟩
  refine qa o1 (rr.mono l1) t1 fun vs H2 G2 m2 ws μ2 l2 o2 r2 t2 => ?_
  obtain ⟨ns, i, j, e2, e3, e4, e5, t2⟩ := t2
  obtain ⟨p2, us2, ep, g1, g2⟩ := rs_ok o2.rel (r1.mono l2) e2
  cases ep
  have := reps_ints_v g2
  subst this
  obtain ⟨v2, rfl, hv2⟩ := nows1 (rss_ok o2.rel r2 e3)
  cases hv2
  refine ⟨p, ns.map V.int, .int i, j, .int i, rfl, rfl, SqL.of g1, rfl, ?_, by rw [List.getElem?_map, e4]; rfl, by rw [eqV_int]; simp, fun m z hm hz => ?_, k _ H2 G2 m2 _ μ2 (l1.trans l2) o2 (.d (.int _)) t2⟩
  · exact List.all_eq_true.mpr fun x hx => by
      obtain ⟨y, _, rfl⟩ := List.mem_map.mp hx
      rfl
  · rw [List.getElem?_map] at hz
    cases hn : ns[m]? with
    | none => rw [hn] at hz; cases hz
    | some y =>
      rw [hn] at hz
      cases hz
      rw [eqV_int]
      have := e5 m hm
      rw [hn] at this
      simpa using this
end
/-! ### sorted(set(t)), t a tuple of ints -/
section
variable {X : Cx} {b : Bs} {pos p p2 q : Pos} {e : Expr} {te : DTE}
def rSoT (K : PySem.W.Frag) : List V → Hp → VK → Prop := fun vs H Q => ∃ (l : Addr) (ns : List Int), vs = [V.ref l] ∧ SqT K H l (ns.map V.int) ∧ ns.length + 1 < scanBound ∧
  ∀ (ms : List Int) (p : Addr), ms.Pairwise (· < ·) → (∀ k, k ∈ ms ↔ k ∈ ns) → H p = none → Q (.ref p) (upd H p (.lst (ms.map V.int)))
def tSoT (K : PySem.W.Frag) (ta : TE) : TE := fun σ H Q => ta σ H fun x H1 => rSoT K [x] H1 Q
theorem pe_sortSetT {ta : TE} (hc : X.calm = true) (hg : Gl X "sorted") (hm : X.mg "sorted" = none) (hg2 : Gl X "set") (hm2 : X.mg "set" = none) (ha : PE X e ta)
    (na : starEach [e] X.env = (false, eval e X.env) :: starEach [] X.env := by rfl) : PE X (.Call (.Name "sorted" p) [.Call (.Name "set" p2) [e] [] q] [] pos) (tSoT X.K ta) := by
  refine ⟨fun pins s σ H Q I h => ?_⟩
  refine Call_ (ld_blt I hg hm PyProof.Rows.boot_sorted ?_)
  refine PyProof.Rows.callWith_builtin1 (PyProof.Rows.args_cons ?_ rfl) rfl rfl
  refine Call_ (ld_blt I hg2 hm2 PyProof.Rows.boot_set ?_)
  refine PyProof.Rows.callWith_type1 (PyProof.Rows.args_cons (thn (ha.run pins s σ H _ I h) fun v s1 ⟨x, H1, I1, r1, q1⟩ => PyProof.Rows.args_nil ?_) na) na rfl
  obtain ⟨l, ns, ex, hq, hb, q1⟩ := q1
  cases ex
  cases r1
  obtain ⟨its, r, pl, hz⟩ := I1.tuple hq
  refine call_set_tupI ns (I1.ok.hd hc) pl (by simpa using r.ints) hb fun h' tk c R hcn keep => ?_
  refine PyProof.Rows.args_nil ?_
  have I2 : Inv X pins σ H1 { s1 with heap := h', toks := tk } := I1.kept fun b o e => keep b o e
  generalize hs2 : ({ s1 with heap := h', toks := tk } : Shared) = s2 at I2
  have R2 : SetR X.w s2.heap s1.heap.objs.size (fun j => decide (j ∈ ns)) c := by rw [← hs2]; exact R
  refine sorted_setI (s := s2) R2 (I2.ok.hd hc) fun s' p out c ms k g o hp hge hi hs hmem hl => ?_
  have hlen : (ms.map V.int).length ≤ sizeLine := by
    rw [List.length_map, hl]
    have := fits_of_scanBound hb
    omega
  have hn : H1 p = none := I2.hok.fresh hp
  have J : Inv X pins σ (upd H1 p (.lst (ms.map V.int))) { s2 with heap := s'.heap, gens := s'.gens, drawn := s'.drawn, toks := s'.toks } :=
    I2.call (ch := []) (Un.laid k hp hn) (I2.hok.laid k hp ⟨hlen, out.toList, c, vals_of_ints hi, hge⟩) (by rw [g]; exact I2.bare) (fun _ z => nomatch z)
  have e : s' = { s2 with heap := s'.heap, gens := s'.gens, drawn := s'.drawn, toks := s'.toks } := by
    cases s'
    cases s2
    cases o
    rfl
  rw [e]
  exact ⟨.ref p, _, J, rfl, q1 ms p hs (fun k => by rw [hmem k]; simp) hn⟩
@[simp] def fSoT (ds : List D) (q : D → Prop) : Prop := ∃ ns : List Int, ds = [.tup (ns.map .int)] ∧ ns.length + 1 < 4096 ∧ ∀ ms : List Int, ms.Pairwise (· < ·) → (∀ k, k ∈ ms ↔ k ∈ ns) → q (.lst (ms.map .int))
@[simp] def dSoT (te : DTE) (ρ : R) (μ : M) (Q : W → M → Prop) : Prop := te ρ μ fun w μ1 => match rss μ1 [w] with
  | some ds => fSoT ds fun d => Q (.d d) μ1
  | none => False
theorem on_sot {K : PySem.W.Frag} : OpN b (rSoT K) fSoT := by
  intro G m μ H vs ds q Kq w n f k
  obtain ⟨ns, rfl, hb, f⟩ := f
  obtain ⟨a, us, rfl, h, rp⟩ := seq_at (K := K) n rfl
  have h := h.resolve_left (by rintro ⟨_, z⟩; cases z)
  have := reps_ints_v rp
  subst this
  refine ⟨a, ns, rfl, h.1, hb, fun ms p h1 h2 hp => ?_⟩
  exact give_new w hp (fun G' s e => .lst e (reps_ints _)) (f ms h1 h2) k
theorem de_sot (hc : X.calm = true) (hm : X.mg "sorted" = none) (hm2 : X.mg "set" = none) (he : DE X b e te) (hg : Gl X "sorted") (hg2 : Gl X "set") (na : starEach [e] X.env = (false, eval e X.env) :: starEach [] X.env := by rfl) :
    DE X b (.Call (.Name "sorted" p) [.Call (.Name "set" p2) [e] [] q] [] pos) (dSoT te) := by
  obtain ⟨t', pa, qa⟩ := he.ex
  refine ⟨_, pe_sortSetT hc hg hm hg2 hm2 pa na, fun {G m ρ μ σ H Q K} o r t k => ?_⟩
  refine qa o r t fun v H1 G1 m1 w μ1 l1 o1 r1 t1 => ?_
  split at t1
  · rename_i ds e1
    exact on_sot o1 (rss_ok (vs := [v]) (ws := [w]) o1.rel (.cons r1 .nil) e1) t1 fun v' H' G' z l o' rp qz => k v' H' G' m1 _ μ1 (l1.trans l) o' (.d rp) qz
  · exact t1.elim
end
end DD
namespace DD
open PySem L2 RZ
abbrev xcNo : Exc → M → Prop := fun _ _ => False
/-- the fields of each class, in the order in which they are first stored -/
@[simp] def FL : Nat → List Str
  | 20 => ["heads"]
  | 11 => ["one", "other"]
  | 12 => ["one"]
  | 13 => ["one", "other"]
  | 14 => ["one", "other"]
  | 15 => ["people", "commands"]
  | 16 => ["classes", "dead"]
  | _ => []
def TF : Nat → Option (List Str)
  | _ => none
def kindOf : Nat → Str
  | _ => ""
@[simp] def isX_NoPerson : Nat → Option Bool
  | 2 => some true
  | _ => none
@[simp] def isX_RoomError : Nat → Option Bool
  | 2 => some true
  | _ => none
@[simp] def FLX : Nat → List Str
  | 2 => ["person"]
  | _ => []
@[simp] def isB_Join : String → Option Bool := fun _ => none
@[simp] def isO_Join : Nat → Option Bool
  | 11 => some true
  | 12 => some false
  | 13 => some false
  | 14 => some false
  | _ => none
@[simp] def isB_Free : String → Option Bool := fun _ => none
@[simp] def isO_Free : Nat → Option Bool
  | 11 => some false
  | 12 => some true
  | 13 => some false
  | 14 => some false
  | _ => none
@[simp] def isB_Swap : String → Option Bool := fun _ => none
@[simp] def isO_Swap : Nat → Option Bool
  | 11 => some false
  | 12 => some false
  | 13 => some true
  | 14 => some false
  | _ => none
def S_kind (c : Nat) (s : Str) : FS := fun ws μ P => ∃ ds, ws = [.d (.obj c (FL c) ds)] ∧ μ = [] ∧ P (.ret (.d (.str s))) []
def S_facts (c : Nat) : FS := fun ws μ P => ∃ ds, ws = [.d (.obj c (FL c) ds)] ∧ μ = [] ∧ ds.length = (FL c).length ∧ P (.ret (.d (.tup ds))) []
abbrev S_Join_facts := S_facts 11
abbrev S_Free_facts := S_facts 12
abbrev S_Swap_facts := S_facts 13
abbrev S_Move_facts := S_facts 14
abbrev S_Join := S_mk 11 ["one", "other"]
abbrev cf_Join : CF1 := fObj 11 ["one", "other"]
abbrev S_Free := S_mk 12 ["one"]
abbrev cf_Free : CF1 := fObj 12 ["one"]
abbrev S_Swap := S_mk 13 ["one", "other"]
abbrev cf_Swap : CF1 := fObj 13 ["one", "other"]
abbrev S_Move := S_mk 14 ["one", "other"]
abbrev cf_Move : CF1 := fObj 14 ["one", "other"]
section
variable {ws : List W} {w : W} {μ : M} {P : Res → M → Prop} {Q : W → M → Prop} {xc : Exc → M → Prop}
theorem le_Join (h : cf_Join ws μ Q xc) : fMk S_Join 11 finD ws μ Q xc := le_mk h
theorem le_Free (h : cf_Free ws μ Q xc) : fMk S_Free 12 finD ws μ Q xc := le_mk h
theorem le_Swap (h : cf_Swap ws μ Q xc) : fMk S_Swap 13 finD ws μ Q xc := le_mk h
theorem le_Move (h : cf_Move ws μ Q xc) : fMk S_Move 14 finD ws μ Q xc := le_mk h
/-- a command's class -/
def isCmd (c : Nat) : Bool := c == 11 || c == 12 || c == 13 || c == 14
def S_Command_persons : FS := fun ws μ P => ∃ c ds, ws = [.d (.obj c (FL c) ds)] ∧ μ = [] ∧ isCmd c = true ∧ ds.length = (FL c).length ∧ P (.ret (.d (.lst ds))) []
abbrev S_Join_persons := S_Command_persons
abbrev S_Free_persons := S_Command_persons
abbrev S_Swap_persons := S_Command_persons
abbrev S_Move_persons := S_Command_persons
@[simp] def cf_facts_cmd (w : W) (μ : M) (Q : W → M → Prop) (_xc : Exc → M → Prop) : Prop := match w with
  | .d (.obj c fs ds) => fs = FL c ∧ isCmd c = true ∧ ds.length = fs.length ∧ Q (.d (.tup ds)) μ
  | _ => False
@[simp] def cf_persons (w : W) (μ : M) (Q : W → M → Prop) (_xc : Exc → M → Prop) : Prop := match w with
  | .d (.obj c fs ds) => fs = FL c ∧ isCmd c = true ∧ ds.length = fs.length ∧ Q (.d (.lst ds)) μ
  | _ => False
theorem cmd_cases {c : Nat} (h : isCmd c = true) : c = 11 ∨ c = 12 ∨ c = 13 ∨ c = 14 := by
  simpa [isCmd, or_assoc] using h
theorem le_facts_cmd (h : cf_facts_cmd w μ Q xc) : fMe [(11, S_Join_facts), (12, S_Free_facts), (13, S_Swap_facts), (14, S_Move_facts)] "facts" w μ Q xc := by
  unfold cf_facts_cmd at h
  split at h
  · rename_i c fs ds
    obtain ⟨rfl, hc, hl, hq⟩ := h
    unfold fMe
    rcases cmd_cases hc with rfl | rfl | rfl | rfl
    all_goals exact ⟨by simp [FL, ofStr_inj], _, rfl, call0 rfl ⟨ds, rfl, rfl, hl, by simpa [th] using hq⟩⟩
  · exact h.elim
theorem le_persons (h : cf_persons w μ Q xc) : fMe [(11, S_Join_persons), (12, S_Free_persons), (13, S_Swap_persons), (14, S_Move_persons)] "persons" w μ Q xc := by
  unfold cf_persons at h
  split at h
  · rename_i c fs ds
    obtain ⟨rfl, hc, hl, hq⟩ := h
    unfold fMe
    rcases cmd_cases hc with rfl | rfl | rfl | rfl
    all_goals exact ⟨by simp [FL, ofStr_inj], _, rfl, call0 rfl ⟨_, ds, rfl, rfl, hc, hl, by simpa [th] using hq⟩⟩
  · exact h.elim
end
end DD
namespace DD
open PySem L2 RZ
/-! ### the law's draws -/
def F_l_draw : PG := fun ds q => match ds with
  | [.int n] => (0 < n ∧ n < 1073741824) ∧ ∀ v : Nat, (v : Int) < n → q (nat v)
  | _ => False
abbrev S_l_draw : FS := SSr 1 F_l_draw
abbrev cf_l_draw : CF1 := cfSr 1 F_l_draw
def S_l_rng : FS := fun ws μ P => ∃ x : Int, ws = [.d (.int x)] ∧ μ = [] ∧ ∀ a b c : Int, P (.ret (.r 0)) [.lst (src a b c)]
@[simp] def cf_l_rng (ws : List W) (μ : M) (Q : W → M → Prop) (_xc : Exc → M → Prop) : Prop := match ws with
  | [.d (.int _)] => ∀ a b c : Int, Q (.r μ.length) (μ ++ [.lst (src a b c)])
  | _ => False
def F_l_pick : PG := fun ds q => match ds with
  | [.lst ds] => (0 < ds.length ∧ ds.length < 1000000) ∧ ∀ d, isIn ds d → q d
  | _ => False
abbrev S_l_pick : FS := SSr 1 F_l_pick
abbrev cf_l_pick : CF1 := cfSr 1 F_l_pick
/-- a number of the script, or 0 -/
def S_l_cell (K : PySem.W.Frag) : FS := fun ws μ P => ∃ (ns : List Int) (k : Nat), ws = [.r 0, .d (nat k)] ∧ μ = [.scr ns (scrK K ns)] ∧ ∀ v : Int, P (.ret (.d (.int v))) μ
@[simp] def cf_l_cell (K : PySem.W.Frag) (ws : List W) (μ : M) (Q : W → M → Prop) (_xc : Exc → M → Prop) : Prop := match ws with
  | [.r 0, .d (.int k)] => match μ with
    | .scr ns S :: _ => S = scrK K ns ∧ 0 ≤ k ∧ ∀ v : Int, Q (.d (.int v)) μ
    | _ => False
  | _ => False
section
variable {ws : List W} {μ : M} {P : Res → M → Prop} {Q : W → M → Prop} {xc : Exc → M → Prop} {K : PySem.W.Frag}
theorem le_l_draw (h : cf_l_draw ws μ Q xc) : callS S_l_draw ws μ Q xc := le_sr h
theorem le_l_pick (h : cf_l_pick ws μ Q xc) : callS S_l_pick ws μ Q xc := le_sr h
theorem le_l_rng (h : cf_l_rng ws μ Q xc) : callS S_l_rng ws μ Q xc := by
  unfold cf_l_rng at h
  split at h
  · refine call0 rfl ⟨_, rfl, rfl, fun a b c => ?_⟩
    have := h a b c
    simpa [th, thI, renC] using this
  · exact h.elim
theorem le_l_cell (h : cf_l_cell K ws μ Q xc) : callS (S_l_cell K) ws μ Q xc := by
  unfold cf_l_cell at h
  split at h
  · rename_i k
    split at h
    · rename_i ns S rest
      obtain ⟨rfl, hk, hq⟩ := h
      obtain ⟨k, rfl⟩ := Int.eq_ofNat_of_zero_le hk
      refine callPre 1 (by simp) (by simp [reach, refsC, refsW]) (fun c hc j hj => by simp at hc; subst hc; simp [refsC] at hj) (by simp [refsW]) ⟨ns, k, rfl, by simp, fun v => ⟨by simp, ?_⟩⟩
      show Q (th (List.range 1) _ (.d _)) _
      have := hq v
      rw [mergePre (by simp) (by simp) (fun c hc j hj => by simp at hc; subst hc; simp [refsC] at hj)]
      simpa [th] using this
    · exact h.elim
  · exact h.elim
theorem len_l_draw (h : S_l_draw ws μ P) : ws.length = 2 := len_sr h
theorem len_l_pick (h : S_l_pick ws μ P) : ws.length = 2 := len_sr h
theorem len_l_rng (h : S_l_rng ws μ P) : ws.length = 1 := by obtain ⟨_, rfl, _⟩ := h; rfl
theorem len_l_cell (h : S_l_cell K ws μ P) : ws.length = 2 := by obtain ⟨_, _, rfl, _⟩ := h; rfl
end
/-! ### linked numbers -/
/-- where the chain of heads ends -/
def root (hs : List Nat) (i : Nat) : Nat := if h : hs.getD i i < i then root hs (hs.getD i i) else i
termination_by i
def linkH (hs : List Nat) (a b : Nat) : List Nat := hs.set (max (root hs a) (root hs b)) (min (root hs a) (root hs b))
/-- no head lies above its number -/
def HsOk (hs : List Nat) : Prop := ∀ i, i < hs.length → hs.getD i i ≤ i
@[simp] def lkC (hs : List Nat) : M := [.ins 20 ["heads"] [.r 1], .lst (nats hs)]
def SLk (n : Nat) (F : List Nat → List D → (List Nat → D → Prop) → Prop) : FS := fun ws μ P => ∃ (hs : List Nat) (ds : List D), ws = .r 0 :: ds.map W.d ∧ ds.length = n ∧ μ = lkC hs ∧ F hs ds (fun hs' d => P (.ret (.d d)) (lkC hs'))
@[simp] def cfLk (n : Nat) (F : List Nat → List D → (List Nat → D → Prop) → Prop) (ws : List W) (μ : M) (Q : W → M → Prop) (_xc : Exc → M → Prop) : Prop := match ws with
  | .r 0 :: ws' => match unD ws' with
    | some ds => ds.length = n ∧ ∃ hs rest, μ = lkC hs ++ rest ∧ F hs ds (fun hs' d => Q (.d d) (lkC hs' ++ rest))
    | none => False
  | _ => False
section
variable {n : Nat} {F : List Nat → List D → (List Nat → D → Prop) → Prop} {ws : List W} {μ : M} {Q : W → M → Prop} {xc : Exc → M → Prop} {P : Res → M → Prop}
theorem lkC_refs {hs : List Nat} {k : Nat} (hk : 2 ≤ k) : ∀ c ∈ lkC hs, ∀ j ∈ refsC c, j < k := fun c hc j hj => by
  simp [lkC] at hc
  rcases hc with rfl | rfl <;> simp [refsC, refsW] at hj
  omega
theorem le_lk (h : cfLk n F ws μ Q xc) : callS (SLk n F) ws μ Q xc := by
  unfold cfLk at h
  split at h
  · split at h
    · rename_i ws' ds e
      have := unD_map e
      subst this
      obtain ⟨hl, hs, rest, rfl, h⟩ := h
      have hlen : (lkC hs ++ rest).length = rest.length + 2 := by simp
      have rf : (W.r 0 :: ds.map W.d).flatMap refsW = [0] := by simp [refsW, refs_map]
      refine callPre 2 (by omega) ?_ ?_ ?_ ⟨hs, ds, rfl, hl, by simp, ?_⟩
      · rw [rf]; simp [reach, refsC, refsW]; rfl
      · intro c hc
        have : (lkC hs ++ rest).take 2 = lkC hs := by simp
        rw [this] at hc
        exact lkC_refs (by omega) c hc
      · rw [rf]; simp
      · have e3 : (fun (hs' : List Nat) (d : D) => 2 ≤ (lkC hs').length ∧ Q (th (List.range 2) (lkC hs ++ rest).length (.d d)) (merge (lkC hs ++ rest) (List.range 2) (lkC hs'))) = fun hs' d => Q (.d d) (lkC hs' ++ rest) := by
          funext hs' d
          rw [mergePre (by omega) (by simp) (lkC_refs (by omega))]
          simp [th]
        exact e3 ▸ h
    · exact h.elim
  · exact h.elim
theorem len_lk (h : SLk n F ws μ P) : ws.length = n + 1 := by
  obtain ⟨hs, ds, rfl, h, _⟩ := h
  simpa using h
end
def F_Links_head : List Nat → List D → (List Nat → D → Prop) → Prop := fun hs ds q => ∃ i : Nat, ds = [nat i] ∧ i < hs.length ∧ HsOk hs ∧ q hs (nat (root hs i))
def F_Links_link : List Nat → List D → (List Nat → D → Prop) → Prop := fun hs ds q => ∃ i j : Nat, ds = [nat i, nat j] ∧ (i < hs.length ∧ j < hs.length) ∧ HsOk hs ∧ q (linkH hs i j) .non
def F_Links_add : List Nat → List D → (List Nat → D → Prop) → Prop := fun hs ds q => ds = [] ∧ hs.length < 1000000 ∧ q (hs ++ [hs.length]) (nat hs.length)
abbrev S_Links_head : FS := SLk 1 F_Links_head
abbrev cf_Links_head : CF1 := cfLk 1 F_Links_head
theorem le_Links_head {ws : List W} {μ : M} {Q : W → M → Prop} {xc : Exc → M → Prop} (h : cf_Links_head ws μ Q xc) : callS S_Links_head ws μ Q xc := le_lk h
theorem len_Links_head {ws : List W} {μ : M} {P : Res → M → Prop} (h : S_Links_head ws μ P) : ws.length = 2 := len_lk h
abbrev S_Links_link : FS := SLk 2 F_Links_link
abbrev cf_Links_link : CF1 := cfLk 2 F_Links_link
theorem le_Links_link {ws : List W} {μ : M} {Q : W → M → Prop} {xc : Exc → M → Prop} (h : cf_Links_link ws μ Q xc) : callS S_Links_link ws μ Q xc := le_lk h
theorem len_Links_link {ws : List W} {μ : M} {P : Res → M → Prop} (h : S_Links_link ws μ P) : ws.length = 3 := len_lk h
abbrev S_Links_add : FS := SLk 0 F_Links_add
abbrev cf_Links_add : CF1 := cfLk 0 F_Links_add
theorem le_Links_add {ws : List W} {μ : M} {Q : W → M → Prop} {xc : Exc → M → Prop} (h : cf_Links_add ws μ Q xc) : callS S_Links_add ws μ Q xc := le_lk h
theorem len_Links_add {ws : List W} {μ : M} {P : Res → M → Prop} (h : S_Links_add ws μ P) : ws.length = 1 := len_lk h
def S_Links : FS := fun ws μ P => ∃ n : Nat, ws = [.r 0, .d (nat n)] ∧ μ = [.ins 20 [] []] ∧ n < 1000000 ∧ P (.ret (.d .non)) (lkC (List.range n))
@[simp] def cf_Links (ws : List W) (μ : M) (Q : W → M → Prop) (_xc : Exc → M → Prop) : Prop := ∃ n : Nat, ws = [.d (nat n)] ∧ n < 1000000 ∧ Q (.r μ.length) (μ ++ [.ins 20 ["heads"] [.r (μ.length + 1)], .lst (nats (List.range n))])
section
variable {ws : List W} {μ : M} {Q : W → M → Prop} {xc : Exc → M → Prop} {P : Res → M → Prop}
theorem len_Links_init (h : S_Links ws μ P) : ws.length = 2 := by obtain ⟨_, rfl, _⟩ := h; rfl
theorem le_Links (h : cf_Links ws μ Q xc) : fMk S_Links 20 finM ws μ Q xc := by
  obtain ⟨n, rfl, hn, hq⟩ := h
  refine call1 (n := μ.length) (c := .ins 20 [] []) (by simp) rfl (by simp [refsW]) (by simp [refsW]) ⟨n, by simp [ren], rfl, hn, by simp, ?_⟩
  refine ⟨rfl, ?_⟩
  unfold finM
  have e : merge (μ ++ [Cell.ins 20 [] []]) [μ.length] (lkC (List.range n)) = μ ++ [.ins 20 ["heads"] [.r (μ.length + 1)], .lst (nats (List.range n))] := by
    simp [merge, setAll, renC, th, thI]
  rw [e]
  exact hq
end
/-! ### commands -/
inductive Cm where
  | join (a b : Nat) | free (a : Nat) | swap (a b : Nat) | move (a b : Nat)
@[simp] def Cm.nums : Cm → List Nat
  | .join a b => [a, b]
  | .free a => [a]
  | .swap a b => [a, b]
  | .move a b => [a, b]
@[simp] def Cm.cid : Cm → Nat
  | .join _ _ => 11
  | .free _ => 12
  | .swap _ _ => 13
  | .move _ _ => 14
def Cm.ok (n : Nat) (c : Cm) : Prop := ∀ i ∈ c.nums, i < n
def cmdD (c : Cm) : D := .obj c.cid (FL c.cid) (nats c.nums)
/-- the law's own commands: a freed person stands beside a number that is not looked at -/
def trD : Cm × Nat → D
  | (.join a b, _) => .tup [.str "join", nat a, nat b]
  | (.free a, b) => .tup [.str "free", nat a, nat b]
  | (.swap a b, _) => .tup [.str "swap", nat a, nat b]
  | (.move a b, _) => .tup [.str "move", nat a, nat b]
/-! ### divisions -/
def F_check_people : PF := fun ds q _ => match ds with
  | [.int p] => (1 ≤ p ∧ p ≤ 16) ∧ q .non
  | _ => False
abbrev S_check_people : FS := SPu 1 F_check_people
abbrev cf_check_people : CF1 := cfPu 1 F_check_people
theorem le_check_people {ws : List W} {μ : M} {Q : W → M → Prop} {xc : Exc → M → Prop} (h : cf_check_people ws μ Q xc) : callS S_check_people ws μ Q xc := le_pu h
theorem len_check_people {ws : List W} {μ : M} {P : Res → M → Prop} (h : S_check_people ws μ P) : ws.length = 1 := len_pu h
def F_check_person : PF := fun ds q x => match ds with
  | [.int n, .int p] => ((0 ≤ p ∧ p < n) → q .non) ∧ (¬ (0 ≤ p ∧ p < n) → x ⟨2, ["person"], [.int p]⟩)
  | _ => False
abbrev S_check_person : FS := SPu 2 F_check_person
abbrev cf_check_person : CF1 := cfPu 2 F_check_person
theorem le_check_person {ws : List W} {μ : M} {Q : W → M → Prop} {xc : Exc → M → Prop} (h : cf_check_person ws μ Q xc) : callS S_check_person ws μ Q xc := le_pu h
theorem len_check_person {ws : List W} {μ : M} {P : Res → M → Prop} (h : S_check_person ws μ P) : ws.length = 2 := len_pu h
def tupsN (gs : List (List Nat)) : D := .tup (gs.map fun g => .tup (nats g))
def lstsN (gs : List (List Nat)) : D := .lst (gs.map fun g => .lst (nats g))
/-- a sequence of these numbers -/
def SeqN (x : D) (g : List Nat) : Prop := x = .lst (nats g) ∨ x = .tup (nats g)
/-- sequences of these numbers -/
def SeqsN : List D → List (List Nat) → Prop
  | [], [] => True
  | x :: xs, g :: gs => SeqN x g ∧ SeqsN xs gs
  | _, _ => False
def GrpsD (x : D) (gs : List (List Nat)) : Prop := ∃ xs, (x = .lst xs ∨ x = .tup xs) ∧ SeqsN xs gs
/-- the groups of those in one room, by their smallest people -/
def canonF (n : Nat) (r : Nat → Nat) : List (List Nat) := (List.range n).filterMap fun p => if (List.range p).all (fun q => r q != r p) then some ((List.range n).filter fun q => r q == r p) else none
def canonL (r : List Nat) : List (List Nat) := canonF r.length (r.getD · 0)
/-- the groups gs are those of the rooms r -/
structure Fits (n : Nat) (gs : List (List Nat)) (r : Nat → Nat) : Prop where
  ne : ∀ g ∈ gs, g ≠ []
  lt : ∀ g ∈ gs, ∀ i ∈ g, i < n
  nd : gs.flatten.Nodup
  eq : ∀ p q, p < n → q < n → (r p = r q ↔ p = q ∨ ∃ g ∈ gs, p ∈ g ∧ q ∈ g)
def sortN (g : List Nat) : List Nat := g.mergeSort fun a b => decide (a ≤ b)
def zI (g : List Nat) : List Int := g.map Int.ofNat
def divG (n : Nat) (gs : List (List Nat)) : List (List Nat) := (sortG ((gs.map fun g => zI (sortN g)) ++ (((List.range n).filter fun p => !(gs.flatten.contains p)).map fun p => zI [p]))).map fun g => g.map Int.toNat
def F_sorted_groups : PF := fun ds q _ => ∃ (xs : List D) (gs : List (List Nat)), ds = [.lst xs] ∧ SeqsN xs gs ∧ (∀ g ∈ gs, g ≠ []) ∧ gs.length < 10000 ∧ q (.tup ((sortG (gs.map fun g => zI (sortN g))).map tints))
abbrev S_sorted_groups : FS := SPu 1 F_sorted_groups
abbrev cf_sorted_groups : CF1 := cfPu 1 F_sorted_groups
theorem le_sorted_groups {ws : List W} {μ : M} {Q : W → M → Prop} {xc : Exc → M → Prop} (h : cf_sorted_groups ws μ Q xc) : callS S_sorted_groups ws μ Q xc := le_pu h
theorem len_sorted_groups {ws : List W} {μ : M} {P : Res → M → Prop} (h : S_sorted_groups ws μ P) : ws.length = 1 := len_pu h
def F_Division : List D → (List D → Prop) → Prop := fun ds q => ∃ (n : Nat) (x : D) (gs : List (List Nat)) (r : Nat → Nat), ds = [nat n, x] ∧ GrpsD x gs ∧ (1 ≤ n ∧ n ≤ 16) ∧ Fits n gs r ∧ q [nat n, tupsN (canonF n r)]
abbrev S_Division : FS := SMk 10 ["people", "groups"] 2 F_Division
abbrev cf_Division : CF1 := cfMk 10 ["people", "groups"] 2 F_Division
theorem le_Division {ws : List W} {μ : M} {Q : W → M → Prop} {xc : Exc → M → Prop} (h : cf_Division ws μ Q xc) : fMk S_Division 10 finD ws μ Q xc := le_Mk h
theorem len_Division_init {ws : List W} {μ : M} {P : Res → M → Prop} (h : S_Division ws μ P) : ws.length = 3 := len_Mk h
def divD (n : Nat) (gs : List (List Nat)) : D := .obj 10 ["people", "groups"] [nat n, tupsN gs]
/-! ### rows -/
def rowD (n : Nat) (cs : List Cm) : D := .obj 15 ["people", "commands"] [nat n, .tup (cs.map cmdD)]
def F_Row : List D → (List D → Prop) → Prop := fun ds q => ∃ (n : Nat) (cs : List Cm), (ds = [nat n, .lst (cs.map cmdD)] ∨ ds = [nat n, .tup (cs.map cmdD)]) ∧ (1 ≤ n ∧ n ≤ 16) ∧ cs.length ≤ 60 ∧ (∀ c ∈ cs, c.ok n) ∧ q [nat n, .tup (cs.map cmdD)]
abbrev S_Row : FS := SMk 15 ["people", "commands"] 2 F_Row
abbrev cf_Row : CF1 := cfMk 15 ["people", "commands"] 2 F_Row
theorem le_Row {ws : List W} {μ : M} {Q : W → M → Prop} {xc : Exc → M → Prop} (h : cf_Row ws μ Q xc) : fMk S_Row 15 finD ws μ Q xc := le_Mk h
theorem len_Row_init {ws : List W} {μ : M} {P : Res → M → Prop} (h : S_Row ws μ P) : ws.length = 3 := len_Mk h
/-- what a command does to links and places -/
def doC : Cm → List Nat → List Nat → List Nat × List Nat
  | .join a b, hs, pl => (linkH hs (pl.getD a 0) (pl.getD b 0), pl)
  | .free a, hs, pl => (hs ++ [hs.length], pl.set a hs.length)
  | .swap a b, hs, pl => (hs, (pl.set a (pl.getD b 0)).set b (pl.getD a 0))
  | .move a b, hs, pl => (hs, pl.set a (pl.getD b 0))
structure LpOk (n : Nat) (hs pl : List Nat) : Prop where
  ok : HsOk hs
  len : pl.length = n
  lt : ∀ i ∈ pl, i < hs.length
def S_do_command : FS := fun ws μ P => ∃ (n : Nat) (hs pl : List Nat) (c : Cm), ws = [.d (cmdD c), .r 0, .r 2] ∧ μ = lkC hs ++ [.lst (nats pl)] ∧ LpOk n hs pl ∧ c.ok n ∧ hs.length < 1000000 ∧ P (.ret (.d .non)) (lkC (doC c hs pl).1 ++ [.lst (nats (doC c hs pl).2)])
@[simp] def cf_do_command (ws : List W) (μ : M) (Q : W → M → Prop) (_xc : Exc → M → Prop) : Prop := ∃ (n : Nat) (hs pl : List Nat) (c : Cm), ws = [.d (cmdD c), .r 0, .r 2] ∧ μ = lkC hs ++ [.lst (nats pl)] ∧ LpOk n hs pl ∧ c.ok n ∧ hs.length < 1000000 ∧ Q (.d .non) (lkC (doC c hs pl).1 ++ [.lst (nats (doC c hs pl).2)])
section
variable {ws : List W} {μ : M} {Q : W → M → Prop} {xc : Exc → M → Prop} {P : Res → M → Prop}
theorem len_do_command (h : S_do_command ws μ P) : ws.length = 3 := by obtain ⟨_, _, _, _, rfl, _⟩ := h; rfl
theorem lp_refs {hs pl : List Nat} : ∀ c ∈ lkC hs ++ [.lst (nats pl)], ∀ j ∈ refsC c, j < 3 := fun c hc j hj => by
  simp at hc
  rcases hc with rfl | rfl | rfl <;> simp [refsC, refsW] at hj
  omega
theorem lp_reach {d : D} {hs pl : List Nat} : reach (lkC hs ++ [.lst (nats pl)]) 60 ([W.d d, .r 0, .r 2].flatMap refsW) [] = List.range 3 := by
  simp [reach, refsC, refsW]
  rfl
theorem le_do_command (h : cf_do_command ws μ Q xc) : callS S_do_command ws μ Q xc := by
  obtain ⟨n, hs, pl, c, rfl, rfl, h1, h2, h3, hq⟩ := h
  refine callPre 3 (by simp) lp_reach (fun c hc => lp_refs c (List.mem_of_mem_take hc)) (by simp [refsW]) ⟨n, hs, pl, c, rfl, by simp, h1, h2, h3, by simp, ?_⟩
  show Q (th (List.range 3) _ (.d .non)) _
  rw [mergePre (by simp) (by simp) lp_refs]
  simpa [th] using hq
end
/-- rooms behind a command -/
def doneR : Cm → List Nat → List Nat
  | .join a b, r => r.map fun x => if x = r.getD b 0 then r.getD a 0 else x
  | .free a, r => r.set a ((r.foldl max 0) + 1)
  | .swap a b, r => (r.set a (r.getD b 0)).set b (r.getD a 0)
  | .move a b, r => r.set a (r.getD b 0)
def afterR (cs : List Cm) (r : List Nat) : List Nat := cs.foldl (fun r c => doneR c r) r
def roundsR (cs : List Cm) : Nat → List Nat → List Nat
  | 0, r => r
  | k + 1, r => roundsR cs k (afterR cs r)
/-! ### pictures -/
/-- numbers below n are ends, from n on starts: the blocks with ends, and those without -/
def picC (n : Nat) (f : Nat → Nat) : List (List Nat × List Nat) := ((List.range n).filter fun p => (List.range p).all fun q => f q != f p).map fun p => ((List.range n).filter fun q => f q == f p, (List.range n).filter fun q => f (n + q) == f p)
def picX (n : Nat) (f : Nat → Nat) : List (List Nat) := ((List.range n).filter fun p => (List.range (n + p)).all fun q => f q != f (n + p)).map fun p => (List.range n).filter fun q => f (n + q) == f (n + p)
def picT (C : List (List Nat × List Nat)) (X : List (List Nat)) : D := .obj 16 ["classes", "dead"] [.tup (C.map pairT), tupsN X]
def pictD (n : Nat) (f : Nat → Nat) : D := picT (picC n f) (picX n f)
/-- pairs of sequences -/
def PairsN : List D → List (List Nat × List Nat) → Prop
  | [], [] => True
  | x :: xs, c :: cs => (∃ a b, x = .tup [a, b] ∧ SeqN a c.1 ∧ SeqN b c.2) ∧ PairsN xs cs
  | _, _ => False
def HeadsLt (m : List (List Nat × List Nat)) : Prop := m.Pairwise fun a b => ∃ x t y u, a.1 = x :: t ∧ b.1 = y :: u ∧ x < y
def F_Picture : List D → (List D → Prop) → Prop := fun ds q => ∃ (xs : List D) (C m : List (List Nat × List Nat)) (ys : List D) (gs : List (List Nat)), ds = [.lst xs, .lst ys] ∧ PairsN xs C ∧ SeqsN ys gs ∧ (∀ g ∈ gs, g ≠ []) ∧ (C.length < 10000 ∧ gs.length < 10000) ∧ m.Perm (C.map fun c => (sortN c.1, sortN c.2)) ∧ HeadsLt m ∧ q [.tup (m.map pairT), .tup ((sortG (gs.map fun g => zI (sortN g))).map tints)]
abbrev S_Picture : FS := SMk 16 ["classes", "dead"] 2 F_Picture
abbrev cf_Picture : CF1 := cfMk 16 ["classes", "dead"] 2 F_Picture
theorem le_Picture {ws : List W} {μ : M} {Q : W → M → Prop} {xc : Exc → M → Prop} (h : cf_Picture ws μ Q xc) : fMk S_Picture 16 finD ws μ Q xc := le_Mk h
theorem len_Picture_init {ws : List W} {μ : M} {P : Res → M → Prop} (h : S_Picture ws μ P) : ws.length = 3 := len_Mk h
def pf (n : Nat) (hs pl : List Nat) (i : Nat) : Nat := root hs ((pl ++ List.range n).getD i 0)
def S_picture_of : FS := fun ws μ P => ∃ (n : Nat) (hs pl : List Nat), ws = [.d (nat n), .r 0, .r 2] ∧ μ = lkC hs ++ [.lst (nats pl)] ∧ LpOk n hs pl ∧ n ≤ hs.length ∧ (1 ≤ n ∧ n ≤ 16) ∧ P (.ret (.d (pictD n (pf n hs pl)))) (lkC hs ++ [.lst (nats pl)])
@[simp] def cf_picture_of (ws : List W) (μ : M) (Q : W → M → Prop) (_xc : Exc → M → Prop) : Prop := ∃ (n : Nat) (hs pl : List Nat), ws = [.d (nat n), .r 0, .r 2] ∧ μ = lkC hs ++ [.lst (nats pl)] ∧ LpOk n hs pl ∧ n ≤ hs.length ∧ (1 ≤ n ∧ n ≤ 16) ∧ Q (.d (pictD n (pf n hs pl))) μ
section
variable {ws : List W} {μ : M} {Q : W → M → Prop} {xc : Exc → M → Prop} {P : Res → M → Prop}
theorem len_picture_of (h : S_picture_of ws μ P) : ws.length = 3 := by obtain ⟨_, _, _, rfl, _⟩ := h; rfl
theorem le_picture_of (h : cf_picture_of ws μ Q xc) : callS S_picture_of ws μ Q xc := by
  obtain ⟨n, hs, pl, rfl, rfl, h1, h2, h3, hq⟩ := h
  refine callPre 3 (by simp) lp_reach (fun c hc => lp_refs c (List.mem_of_mem_take hc)) (by simp [refsW]) ⟨n, hs, pl, rfl, by simp, h1, h2, h3, by simp, ?_⟩
  show Q (th (List.range 3) _ (.d _)) _
  rw [mergePre (by simp) (by simp) lp_refs]
  simpa [th] using hq
end
/-- rooms at the end and, behind them, at the beginning -/
def blkR (n : Nat) (cs : List Cm) : List Nat := afterR cs (List.range n ++ List.range n)
def F_picture : PF := fun ds q _ => ∃ (n : Nat) (cs : List Cm), ds = [rowD n cs] ∧ (1 ≤ n ∧ n ≤ 16) ∧ (∀ c ∈ cs, c.ok n) ∧ cs.length ≤ 60 ∧ q (pictD n ((blkR n cs).getD · 0))
abbrev S_picture : FS := SPu 1 F_picture
abbrev cf_picture : CF1 := cfPu 1 F_picture
theorem le_picture {ws : List W} {μ : M} {Q : W → M → Prop} {xc : Exc → M → Prop} (h : cf_picture ws μ Q xc) : callS S_picture ws μ Q xc := le_pu h
theorem len_picture {ws : List W} {μ : M} {P : Res → M → Prop} (h : S_picture ws μ P) : ws.length = 1 := len_pu h
/-! ### meetings -/
def staF (n : Nat) (f : Nat → Nat) (p : Nat) : List Nat := (List.range n).filter fun q => f (n + q) == f p
def endF (n : Nat) (f : Nat → Nat) (p : Nat) : List Nat := (List.range n).filter fun q => f q == f p
def F_class_of : PF := fun ds q _ => ∃ (n p : Nat) (f : Nat → Nat), ds = [pictD n f, nat p] ∧ (n ≤ 16 ∧ p < n) ∧ q (pairT (endF n f p, staF n f p))
abbrev S_class_of : FS := SPu 2 F_class_of
abbrev cf_class_of : CF1 := cfPu 2 F_class_of
theorem le_class_of {ws : List W} {μ : M} {Q : W → M → Prop} {xc : Exc → M → Prop} (h : cf_class_of ws μ Q xc) : callS S_class_of ws μ Q xc := le_pu h
theorem len_class_of {ws : List W} {μ : M} {P : Res → M → Prop} (h : S_class_of ws μ P) : ws.length = 2 := len_pu h
/-- whether two people meet -/
def meetW (n : Nat) (f : Nat → Nat) (a b : Nat) : Str := if f a = f b then "always" else if staF n f a = [] ∨ staF n f b = [] then "never" else "sometimes"
def OkP (n : Nat) (p : Int) : Prop := 0 ≤ p ∧ p < n
def F_meeting : PF := fun ds q x => ∃ (n : Nat) (cs : List Cm) (a b : Int), ds = [rowD n cs, .int a, .int b] ∧ ((1 ≤ n ∧ n ≤ 16) ∧ (∀ c ∈ cs, c.ok n) ∧ cs.length ≤ 60) ∧ (¬ OkP n a → x ⟨2, ["person"], [.int a]⟩) ∧ (OkP n a → ¬ OkP n b → x ⟨2, ["person"], [.int b]⟩) ∧ (OkP n a → OkP n b → q (.str (meetW n ((blkR n cs).getD · 0) a.toNat b.toNat)))
abbrev S_meeting : FS := SPu 3 F_meeting
abbrev cf_meeting : CF1 := cfPu 3 F_meeting
theorem le_meeting {ws : List W} {μ : M} {Q : W → M → Prop} {xc : Exc → M → Prop} (h : cf_meeting ws μ Q xc) : callS S_meeting ws μ Q xc := le_pu h
theorem len_meeting {ws : List W} {μ : M} {P : Res → M → Prop} (h : S_meeting ws μ P) : ws.length = 3 := len_pu h
/-! ### the law's own model -/
def TrOk (n : Nat) (ts : List (Cm × Nat)) : Prop := ∀ t ∈ ts, t.1.ok n ∧ t.2 < n
def cmsOf (ts : List (Cm × Nat)) : List Cm := ts.map (·.1)
def F_l_random_commands : PG := fun ds q => ∃ n k : Nat, ds = [nat n, nat k] ∧ (1 ≤ n ∧ n ≤ 16) ∧ k ≤ 60 ∧ ∀ ts : List (Cm × Nat), ts.length ≤ k → TrOk n ts → q (.lst (ts.map trD))
abbrev S_l_random_commands : FS := SSr 2 F_l_random_commands
abbrev cf_l_random_commands : CF1 := cfSr 2 F_l_random_commands
theorem le_l_random_commands {ws : List W} {μ : M} {Q : W → M → Prop} {xc : Exc → M → Prop} (h : cf_l_random_commands ws μ Q xc) : callS S_l_random_commands ws μ Q xc := le_sr h
theorem len_l_random_commands {ws : List W} {μ : M} {P : Res → M → Prop} (h : S_l_random_commands ws μ P) : ws.length = 3 := len_sr h
def F_l_row : PF := fun ds q _ => ∃ (n : Nat) (ts : List (Cm × Nat)), ds = [nat n, .lst (ts.map trD)] ∧ (1 ≤ n ∧ n ≤ 16) ∧ TrOk n ts ∧ ts.length ≤ 60 ∧ q (rowD n (cmsOf ts))
abbrev S_l_row : FS := SPu 2 F_l_row
abbrev cf_l_row : CF1 := cfPu 2 F_l_row
theorem le_l_row {ws : List W} {μ : M} {Q : W → M → Prop} {xc : Exc → M → Prop} (h : cf_l_row ws μ Q xc) : callS S_l_row ws μ Q xc := le_pu h
theorem len_l_row {ws : List W} {μ : M} {P : Res → M → Prop} (h : S_l_row ws μ P) : ws.length = 2 := len_pu h
/-- rooms by the first who is in them -/
def numR (r : List Nat) : List Nat := r.map fun x => r.idxOf x
def F_l_numbered : PF := fun ds q _ => ∃ r : List Nat, ds = [.lst (nats r)] ∧ r.length ≤ 1000 ∧ q (.tup (nats (numR r)))
abbrev S_l_numbered : FS := SPu 1 F_l_numbered
abbrev cf_l_numbered : CF1 := cfPu 1 F_l_numbered
theorem le_l_numbered {ws : List W} {μ : M} {Q : W → M → Prop} {xc : Exc → M → Prop} (h : cf_l_numbered ws μ Q xc) : callS S_l_numbered ws μ Q xc := le_pu h
theorem len_l_numbered {ws : List W} {μ : M} {P : Res → M → Prop} (h : S_l_numbered ws μ P) : ws.length = 1 := len_pu h
def F_l_after : PF := fun ds q _ => ∃ (n : Nat) (ts : List (Cm × Nat)) (x : D) (r : List Nat), ds = [.lst (ts.map trD), x] ∧ SeqN x r ∧ (1 ≤ n ∧ n ≤ 16) ∧ r.length = n ∧ TrOk n ts ∧ q (.tup (nats (numR (afterR (cmsOf ts) r))))
abbrev S_l_after : FS := SPu 2 F_l_after
abbrev cf_l_after : CF1 := cfPu 2 F_l_after
theorem le_l_after {ws : List W} {μ : M} {Q : W → M → Prop} {xc : Exc → M → Prop} (h : cf_l_after ws μ Q xc) : callS S_l_after ws μ Q xc := le_pu h
theorem len_l_after {ws : List W} {μ : M} {P : Res → M → Prop} (h : S_l_after ws μ P) : ws.length = 2 := len_pu h
/-- all ways to put n people into rooms -/
def allR : Nat → List (List Nat)
  | 0 => [[]]
  | k + 1 => (allR k).flatMap fun r => ((List.range k).filter (fun x => r.contains x) ++ [k]).map fun x => r ++ [x]
def F_l_all_rooms : PF := fun ds q _ => ∃ n : Nat, ds = [nat n] ∧ n ≤ 5 ∧ q (.lst ((allR n).map fun r => .tup (nats r)))
abbrev S_l_all_rooms : FS := SPu 1 F_l_all_rooms
abbrev cf_l_all_rooms : CF1 := cfPu 1 F_l_all_rooms
theorem le_l_all_rooms {ws : List W} {μ : M} {Q : W → M → Prop} {xc : Exc → M → Prop} (h : cf_l_all_rooms ws μ Q xc) : callS S_l_all_rooms ws μ Q xc := le_pu h
theorem len_l_all_rooms {ws : List W} {μ : M} {P : Res → M → Prop} (h : S_l_all_rooms ws μ P) : ws.length = 1 := len_pu h
def wordW (es : List (List Nat)) (a b : Nat) : Str := if ∀ e ∈ es, e.getD a 0 = e.getD b 0 then "always" else if ∀ e ∈ es, e.getD a 0 ≠ e.getD b 0 then "never" else "sometimes"
def F_l_word : PF := fun ds q _ => ∃ (n a b : Nat) (es : List (List Nat)), ds = [.lst (es.map fun e => .tup (nats e)), nat a, nat b] ∧ (a < n ∧ b < n) ∧ (∀ e ∈ es, e.length = n) ∧ es.length ≤ 1000 ∧ q (.str (wordW es a b))
abbrev S_l_word : FS := SPu 3 F_l_word
abbrev cf_l_word : CF1 := cfPu 3 F_l_word
theorem le_l_word {ws : List W} {μ : M} {Q : W → M → Prop} {xc : Exc → M → Prop} (h : cf_l_word ws μ Q xc) : callS S_l_word ws μ Q xc := le_pu h
theorem len_l_word {ws : List W} {μ : M} {P : Res → M → Prop} (h : S_l_word ws μ P) : ws.length = 3 := len_pu h
def F_l_all_hold : PF := fun ds q _ => ∃ (n : Nat) (cs : List Cm) (es : List (List Nat)), ds = [rowD n cs, .lst (es.map fun e => .tup (nats e)), nat n] ∧ ((1 ≤ n ∧ n ≤ 16) ∧ (∀ c ∈ cs, c.ok n) ∧ cs.length ≤ 60) ∧ (∀ e ∈ es, e.length = n) ∧ es.length ≤ 1000 ∧ (∀ a b, a < n → b < n → meetW n ((blkR n cs).getD · 0) a b = wordW es a b) ∧ q (.bl true)
abbrev S_l_all_hold : FS := SPu 3 F_l_all_hold
abbrev cf_l_all_hold : CF1 := cfPu 3 F_l_all_hold
theorem le_l_all_hold {ws : List W} {μ : M} {Q : W → M → Prop} {xc : Exc → M → Prop} (h : cf_l_all_hold ws μ Q xc) : callS S_l_all_hold ws μ Q xc := le_pu h
theorem len_l_all_hold {ws : List W} {μ : M} {P : Res → M → Prop} (h : S_l_all_hold ws μ P) : ws.length = 3 := len_pu h
def F_l_outcome : PF := fun ds q _ => ∃ (n : Nat) (cs : List Cm) (a b : Int), ds = [rowD n cs, .int a, .int b] ∧ ((1 ≤ n ∧ n ≤ 16) ∧ (∀ c ∈ cs, c.ok n) ∧ cs.length ≤ 60) ∧ (¬ OkP n a → q (.tup [.str "noperson", .int a])) ∧ (OkP n a → ¬ OkP n b → q (.tup [.str "noperson", .int b])) ∧ (OkP n a → OkP n b → q (.str "ok"))
abbrev S_l_outcome : FS := SPu 3 F_l_outcome
abbrev cf_l_outcome : CF1 := cfPu 3 F_l_outcome
theorem le_l_outcome {ws : List W} {μ : M} {Q : W → M → Prop} {xc : Exc → M → Prop} (h : cf_l_outcome ws μ Q xc) : callS S_l_outcome ws μ Q xc := le_pu h
theorem len_l_outcome {ws : List W} {μ : M} {P : Res → M → Prop} (h : S_l_outcome ws μ P) : ws.length = 3 := len_pu h
def blocksOf (n : Nat) (f : Nat → Nat) : List (List Nat × List Nat) := picC n f ++ (picX n f).map fun g => ([], g)
/-- rooms that are the same -/
def SameR (r r' : List Nat) : Prop := r'.length = r.length ∧ ∀ p q, p < r.length → q < r.length → (r'.getD p 0 = r'.getD q 0 ↔ r.getD p 0 = r.getD q 0)
def S_law (K : PySem.W.Frag) : FS := fun ws μ P => ∃ ns : List Int, ws = [.r 0] ∧ μ = [.scr ns (scrK K ns)] ∧ ns.length ≤ 63 ∧ P (.ret (.d (.bl true))) [.scr ns (scrK K ns)]
end DD
namespace DD
open PySem L2 RZ
def t_l_cell (xc : Exc → M → Prop) (KK : PySem.W.Frag) : DTS :=
  (dSeq (dIfS (dB (dOp fLt (dVar 1) (dLenS KK (dVar 0)))) (dRet (dIxS KK (dVar 0) (dVar 1))) dSkip)
  (dRet (dC (.int 0))))
def t_l_rng (xc : Exc → M → Prop) : DTS :=
  (dRet (dLstM (dCons (dFn (fI1 fun i => if i < 0 then -i else i) (dCons (dVar 0) dNil)) (dCons (dOp fMod (dVar 0) (dC (.int 2147483629))) (dCons (dC (.int 0)) dNil)))))
def t_l_draw (xc : Exc → M → Prop) : DTS :=
  (dSeq (dIfS (dB (dOp fGe (dIxA (dVar 0) (dC (.int 0))) (dOp fPow (dC (.int 10)) (dC (.int 18))))) (dSeq (dAsg (dOp fMod (dIxA (dVar 0) (dC (.int 0))) (dVar 1)) (gN 2))
  (dSeq (dAsg (dOp fDiv (dIxA (dVar 0) (dC (.int 0))) (dVar 1)) (dgIx (dVar 0) (dC (.int 0))))
  (dRet (dVar 2)))) dSkip)
  (dSeq (dAsg (dAddA (dIxA (dVar 0) (dC (.int 2))) (dC (.int 1))) (dgIx (dVar 0) (dC (.int 2))))
  (dSeq (dAsg (dOp fMod (dOp fMulA (dAddA (dAddA (dIxA (dVar 0) (dC (.int 1))) (dOp fMulA (dC (.int 7919)) (dIxA (dVar 0) (dC (.int 2))))) (dC (.int 1))) (dC (.int 48271))) (dC (.int 2147483647))) (gN 3))
  (dSeq (dAsg (dOp fMod (dOp fMulA (dVar 3) (dAddA (dOp fDiv (dVar 3) (dC (.int 1013))) (dC (.int 69621)))) (dC (.int 2147483587))) (gN 3))
  (dRet (dOp fMod (dOp fMod (dAddA (dOp fDiv (dVar 3) (dC (.int 7))) (dOp fMulA (dOp fMod (dVar 3) (dC (.int 7919))) (dC (.int 40692)))) (dC (.int 2147483399))) (dVar 1)))))))
def t_l_pick (xc : Exc → M → Prop) : DTS :=
  (dRet (dIxA (dVar 1) (dApp cf_l_draw xc (dCons (dVar 0) (dCons (dLen (dVar 1)) dNil)))))
def t_l_random_commands (xc : Exc → M → Prop) : DTS :=
  (dSeq (dAsg (dApp cf_l_pick xc (dCons (dVar 0) (dCons (dLet .lst (dCons (dLet .lst (dCons (dC (.str "join")) (dCons (dC (.str "free")) (dCons (dC (.str "swap")) (dCons (dC (.str "move")) dNil))))) (dCons (dLet .lst (dCons (dC (.str "swap")) (dCons (dC (.str "move")) dNil))) (dCons (dLet .lst (dCons (dC (.str "join")) (dCons (dC (.str "free")) (dCons (dC (.str "free")) dNil)))) (dCons (dLet .lst (dCons (dC (.str "swap")) dNil)) dNil))))) dNil))) (gN 3))
  (dSeq (dAsg (dLstM dNil) (gN 4))
  (dSeq (dFor (iR1 (dCons (dApp cf_l_draw xc (dCons (dVar 0) (dCons (dAddA (dVar 2) (dC (.int 1))) dNil))) dNil)) (gN 5) (dSeq (dAsg (dApp cf_l_pick xc (dCons (dVar 0) (dCons (dVar 3) dNil))) (gN 6))
  (dSeq (dIfS (dB (dOp fEq (dApp cf_l_draw xc (dCons (dVar 0) (dCons (dC (.int 5)) dNil))) (dC (.int 0)))) (dAsg (dApp cf_l_pick xc (dCons (dVar 0) (dCons (dLet .lst (dCons (dC (.str "join")) (dCons (dC (.str "free")) (dCons (dC (.str "swap")) (dCons (dC (.str "move")) dNil))))) dNil))) (gN 6)) dSkip)
  (dDrop (dAppA (dVar 4) (dLet .tup (dCons (dVar 6) (dCons (dApp cf_l_draw xc (dCons (dVar 0) (dCons (dVar 1) dNil))) (dCons (dApp cf_l_draw xc (dCons (dVar 0) (dCons (dVar 1) dNil))) dNil)))))))))
  (dRet (dVar 4)))))
def t_l_numbered (xc : Exc → M → Prop) : DTS :=
  (dRet (dTupOf (dCons (dLc false (iSeq (dVar 0)) (gN 1) dYes (dIndex (dVar 0) (dCons (dVar 1) dNil)) [1]) dNil)))
def t_l_after (xc : Exc → M → Prop) : DTS :=
  (dSeq (dAsg (dFnM seqIn (dCons (dVar 1) dNil)) (gN 1))
  (dSeq (dFor (iSeq (dVar 0)) (gTp 3 (gsCons (gN 2) (gsCons (gN 3) (gsCons (gN 4) gsNil)))) (dIfS (dB (dOp fEq (dVar 2) (dC (.str "join")))) (dSeq (dAsg (dLet .tup (dCons (dIxA (dVar 1) (dVar 4)) (dCons (dIxA (dVar 1) (dVar 3)) dNil))) (gTp 2 (gsCons (gN 5) (gsCons (gN 6) gsNil))))
  (dAsg (dLc true (iSeq (dVar 1)) (gN 7) dYes (dIf (dB (dOp fEq (dVar 7) (dVar 5))) (dVar 6) (dVar 7)) [7]) (gN 1))) (dIfS (dB (dOp fEq (dVar 2) (dC (.str "free")))) (dAsg (dAddA (dFn fMaxL (dCons (dVar 1) dNil)) (dC (.int 1))) (dgIx (dVar 1) (dVar 3))) (dIfS (dB (dOp fEq (dVar 2) (dC (.str "swap")))) (dAsg (dLet .tup (dCons (dIxA (dVar 1) (dVar 4)) (dCons (dIxA (dVar 1) (dVar 3)) dNil))) (gTp 2 (gsCons (dgIx (dVar 1) (dVar 3)) (gsCons (dgIx (dVar 1) (dVar 4)) gsNil)))) (dAsg (dIxA (dVar 1) (dVar 4)) (dgIx (dVar 1) (dVar 3)))))))
  (dRet (dApp cf_l_numbered xc (dCons (dEsc (dVar 1)) dNil)))))
def t_l_all_rooms (xc : Exc → M → Prop) : DTS :=
  (dSeq (dAsg (dLstM (dCons (dLet .tup dNil) dNil)) (gN 1))
  (dSeq (dFor (iR1 (dCons (dVar 0) dNil)) (gN 2) (dSeq (dAsg (dLstM dNil) (gN 3))
  (dSeq (dFor (iSeq (dVar 1)) (gN 4) (dDrop (dMut mExt (dVar 3) (dCons (dLc false (iSeq (dAddA (dSoT (dVar 4)) (dLet .lst (dCons (dVar 2) dNil)))) (gN 5) dYes (dAddA (dVar 4) (dLet .tup (dCons (dVar 5) dNil))) [5]) dNil))))
  (dAsg (dVar 3) (gN 1)))))
  (dRet (dVar 1))))
def t_check_person (xc : Exc → M → Prop) : DTS :=
  (dIfS (dNot (dB (dCh (fun i j => decide (i ≤ j)) (fun i j => decide (i < j)) (dC (.int 0)) (dVar 1) (dVar 0)))) (dRaiseX 2 ["person"] (dCons (dVar 1) dNil) xc) dSkip)
def t_Links_init (xc : Exc → M → Prop) : DTS :=
  (dFldSet FL "heads" (dVar 0) (dLRng1 true (dVar 1)))
def t_Links_head (xc : Exc → M → Prop) : DTS :=
  (dSeq (dWhile (dB (dOp fNe (dIxA (dFld FL "heads" (dVar 0)) (dVar 1)) (dVar 1))) (dAsg (dIxA (dFld FL "heads" (dVar 0)) (dVar 1)) (gN 1)))
  (dRet (dVar 1)))
def t_Links_link (xc : Exc → M → Prop) : DTS :=
  (dSeq (dPar 1 2 (dCons (dMeL 20 "head" cf_Links_head xc (dVar 0) (dCons (dVar 1) dNil)) (dCons (dMeL 20 "head" cf_Links_head xc (dVar 0) (dCons (dVar 2) dNil)) dNil)))
  (dAsg (dFn (fI2 fun i j => if j < i then j else i) (dCons (dVar 1) (dCons (dVar 2) dNil))) (dgIx (dFld FL "heads" (dVar 0)) (dFn (fI2 fun i j => if j > i then j else i) (dCons (dVar 1) (dCons (dVar 2) dNil))))))
def t_Links_add (xc : Exc → M → Prop) : DTS :=
  (dSeq (dDrop (dAppA (dFld FL "heads" (dVar 0)) (dLen (dFld FL "heads" (dVar 0)))))
  (dRet (dOp fSub (dLen (dFld FL "heads" (dVar 0))) (dC (.int 1)))))
def t_do_command (xc : Exc → M → Prop) : DTS :=
  (dIfS (dB (dIsi isB_Join isO_Join (dVar 0))) (dDrop (dMeL 20 "link" cf_Links_link xc (dVar 1) (dCons (dIxA (dVar 2) (dFld FL "one" (dVar 0))) (dCons (dIxA (dVar 2) (dFld FL "other" (dVar 0))) dNil)))) (dIfS (dB (dIsi isB_Free isO_Free (dVar 0))) (dAsg (dMeL 20 "add" cf_Links_add xc (dVar 1) dNil) (dgIx (dVar 2) (dFld FL "one" (dVar 0)))) (dIfS (dB (dIsi isB_Swap isO_Swap (dVar 0))) (dSeq (dPar 3 4 (dCons (dIxA (dVar 2) (dFld FL "one" (dVar 0))) (dCons (dIxA (dVar 2) (dFld FL "other" (dVar 0))) dNil)))
  (dAsg (dLet .tup (dCons (dVar 4) (dCons (dVar 3) dNil))) (gTp 2 (gsCons (dgIx (dVar 2) (dFld FL "one" (dVar 0))) (gsCons (dgIx (dVar 2) (dFld FL "other" (dVar 0))) gsNil))))) (dAsg (dIxA (dVar 2) (dFld FL "other" (dVar 0))) (dgIx (dVar 2) (dFld FL "one" (dVar 0)))))))
def t_sorted_groups (xc : Exc → M → Prop) : DTS :=
  (dRet (dTupOf (dCons (dFn fSortT (dCons (dLc false (iSeq (dVar 0)) (gN 1) dYes (dTupOf (dCons (dFn fSortI (dCons (dVar 1) dNil)) dNil)) [1]) dNil)) dNil)))
def t_Picture_init (xc : Exc → M → Prop) : DTS :=
  (dSeq (dFldSet FL "classes" (dVar 0) (dTupOf (dCons (dFn fSortD (dCons (dLc false (iSeq (dVar 1)) (gTp 2 (gsCons (gN 3) (gsCons (gN 4) gsNil))) dYes (dLet .tup (dCons (dTupOf (dCons (dFn fSortI (dCons (dVar 3) dNil)) dNil)) (dCons (dTupOf (dCons (dFn fSortI (dCons (dVar 4) dNil)) dNil)) dNil))) [3, 4]) dNil)) dNil)))
  (dFldSet FL "dead" (dVar 0) (dApp cf_sorted_groups xc (dCons (dVar 2) dNil))))
def t_picture_of (xc : Exc → M → Prop) : DTS :=
  (dSeq (dParN 2 (dCons dDNew (dCons dDNew dNil)) (gwCons (gN 3) (gwCons (gN 4) gwNil)))
  (dSeq (dFor (iR1 (dCons (dVar 0) dNil)) (gN 5) (dSeq (dPar 6 7 (dCons (dMeL 20 "head" cf_Links_head xc (dVar 1) (dCons (dIxA (dVar 2) (dVar 5)) dNil)) (dCons (dMeL 20 "head" cf_Links_head xc (dVar 1) (dCons (dVar 5) dNil)) dNil)))
  (dSeq (dDPut (dVar 3) (dVar 6) (dAddA (dDGet2 (dVar 3) (dVar 6) (dLet .lst dNil)) (dLet .lst (dCons (dVar 5) dNil))))
  (dDPut (dVar 4) (dVar 7) (dAddA (dDGet2 (dVar 4) (dVar 7) (dLet .lst dNil)) (dLet .lst (dCons (dVar 5) dNil)))))))
  (dSeq (dDLockS 3 fun n ks ds => (dAsg (dLc false (iLk (itemsD ks ds) 3 n) (gTp 2 (gsCons (gN 9) (gsCons (gN 10) gsNil))) dYes (dLet .tup (dCons (dVar 10) (dCons (dDGet2 (dVar 4) (dVar 9) (dLet .lst dNil)) dNil))) [9, 10]) (gN 8)))
  (dRet (dApp cf_Picture xc (dCons (dVar 8) (dCons (dDLock 4 fun n ks ds => (dLc false (iLk (itemsD ks ds) 4 n) (gTp 2 (gsCons (gN 9) (gsCons (gN 10) gsNil))) (dB (dDIn true (dVar 9) (dVar 3))) (dVar 10) [9, 10])) dNil)))))))
def t_picture (xc : Exc → M → Prop) : DTS :=
  (dSeq (dPar 1 2 (dCons (dApp cf_Links xc (dCons (dFld FL "people" (dVar 0)) dNil)) (dCons (dLRng1 true (dFld FL "people" (dVar 0))) dNil)))
  (dSeq (dFor (iSeq (dFld FL "commands" (dVar 0))) (gN 3) (dDrop (dApp cf_do_command xc (dCons (dVar 3) (dCons (dVar 1) (dCons (dVar 2) dNil))))))
  (dRet (dApp cf_picture_of xc (dCons (dFld FL "people" (dVar 0)) (dCons (dVar 1) (dCons (dVar 2) dNil)))))))
def t_class_of (xc : Exc → M → Prop) : DTS :=
  (dRet (dIxA (dLc false (iSeq (dFld FL "classes" (dVar 0))) (gN 2) (dB (dOp (fIn false) (dVar 1) (dIxA (dVar 2) (dC (.int 0))))) (dVar 2) [2]) (dC (.int 0))))
def t_meeting (xc : Exc → M → Prop) : DTS :=
  (dSeq (dDrop (dApp cf_check_person xc (dCons (dFld FL "people" (dVar 0)) (dCons (dVar 1) dNil))))
  (dSeq (dDrop (dApp cf_check_person xc (dCons (dFld FL "people" (dVar 0)) (dCons (dVar 2) dNil))))
  (dSeq (dAsg (dApp cf_picture xc (dCons (dVar 0) dNil)) (gN 3))
  (dSeq (dPar 4 5 (dCons (dApp cf_class_of xc (dCons (dVar 3) (dCons (dVar 1) dNil))) (dCons (dApp cf_class_of xc (dCons (dVar 3) (dCons (dVar 2) dNil))) dNil)))
  (dSeq (dIfS (dB (dOp fEq (dVar 4) (dVar 5))) (dRet (dC (.str "always"))) dSkip)
  (dRet (dIf (dOr (dB (dOp fEq (dIxA (dVar 4) (dC (.int 1))) (dLet .tup dNil))) (dB (dOp fEq (dIxA (dVar 5) (dC (.int 1))) (dLet .tup dNil)))) (dC (.str "never")) (dC (.str "sometimes")))))))))
def t_l_word (xc : Exc → M → Prop) : DTS :=
  (dSeq (dAsg (dLc false (iSeq (dVar 0)) (gN 4) (dB (dOp fEq (dIxA (dVar 4) (dVar 1)) (dIxA (dVar 4) (dVar 2)))) (dVar 4) [4]) (gN 3))
  (dSeq (dIfS (dB (dOp fEq (dLen (dVar 3)) (dLen (dVar 0)))) (dRet (dC (.str "always"))) dSkip)
  (dRet (dIf (dB (dOp fEq (dVar 3) (dLet .lst dNil))) (dC (.str "never")) (dC (.str "sometimes"))))))
def t_l_all_hold (xc : Exc → M → Prop) : DTS :=
  (dSeq (dFor (iR1 (dCons (dVar 2) dNil)) (gN 3) (dFor (iR1 (dCons (dVar 2) dNil)) (gN 4) (dIfS (dB (dOp fNe (dApp cf_meeting xc (dCons (dVar 0) (dCons (dVar 3) (dCons (dVar 4) dNil)))) (dApp cf_l_word xc (dCons (dVar 1) (dCons (dVar 3) (dCons (dVar 4) dNil)))))) (dRet (dC (.bl false))) dSkip)))
  (dRet (dC (.bl true))))
def t_Free_init (xc : Exc → M → Prop) : DTS :=
  (dFldSet FL "one" (dVar 0) (dVar 1))
def t_Join_init (xc : Exc → M → Prop) : DTS :=
  (dSeq (dFldSet FL "one" (dVar 0) (dVar 1))
  (dFldSet FL "other" (dVar 0) (dVar 2)))
def t_Swap_init (xc : Exc → M → Prop) : DTS :=
  (dSeq (dFldSet FL "one" (dVar 0) (dVar 1))
  (dFldSet FL "other" (dVar 0) (dVar 2)))
def t_Move_init (xc : Exc → M → Prop) : DTS :=
  (dSeq (dFldSet FL "one" (dVar 0) (dVar 1))
  (dFldSet FL "other" (dVar 0) (dVar 2)))
def t_check_people (xc : Exc → M → Prop) : DTS :=
  (dIfS (dNot (dB (dCh (fun i j => decide (i ≤ j)) (fun i j => decide (i ≤ j)) (dC (.int 1)) (dVar 0) (dC (.int 16))))) dNo dSkip)
def t_Join_facts (xc : Exc → M → Prop) : DTS :=
  (dRet (dLet .tup (dCons (dFld FL "one" (dVar 0)) (dCons (dFld FL "other" (dVar 0)) dNil))))
def t_Free_facts (xc : Exc → M → Prop) : DTS :=
  (dRet (dLet .tup (dCons (dFld FL "one" (dVar 0)) dNil)))
def t_Swap_facts (xc : Exc → M → Prop) : DTS :=
  (dRet (dLet .tup (dCons (dFld FL "one" (dVar 0)) (dCons (dFld FL "other" (dVar 0)) dNil))))
def t_Move_facts (xc : Exc → M → Prop) : DTS :=
  (dRet (dLet .tup (dCons (dFld FL "one" (dVar 0)) (dCons (dFld FL "other" (dVar 0)) dNil))))
def t_Command_persons (xc : Exc → M → Prop) : DTS :=
  (dRet (dFn fList (dCons (dAppM cf_facts_cmd xc (dVar 0)) dNil)))
def t_Row_init (xc : Exc → M → Prop) : DTS :=
  (dSeq (dDrop (dApp cf_check_people xc (dCons (dVar 1) dNil)))
  (dSeq (dFldSet FL "people" (dVar 0) (dVar 1))
  (dSeq (dFldSet FL "commands" (dVar 0) (dTupOf (dCons (dVar 2) dNil)))
  (dSeq (dIfS (dB (dOp fGt (dLen (dFld FL "commands" (dVar 0))) (dC (.int 60)))) dNo dSkip)
  (dFor (iSeq (dFld FL "commands" (dVar 0))) (gN 3) (dFor (iSeq (dAppM cf_persons xc (dVar 3))) (gN 4) (dDrop (dApp cf_check_person xc (dCons (dVar 1) (dCons (dVar 4) dNil))))))))))
def t_l_row (xc : Exc → M → Prop) : DTS :=
  (dSeq (dAsg (dLstM dNil) (gN 2))
  (dSeq (dFor (iSeq (dVar 1)) (gTp 3 (gsCons (gN 3) (gsCons (gN 4) (gsCons (gN 5) gsNil)))) (dIfS (dB (dOp fEq (dVar 3) (dC (.str "free")))) (dDrop (dAppA (dVar 2) (dApp cf_Free xc (dCons (dVar 4) dNil)))) (dIfS (dB (dOp fEq (dVar 3) (dC (.str "join")))) (dDrop (dAppA (dVar 2) (dApp cf_Join xc (dCons (dVar 4) (dCons (dVar 5) dNil))))) (dDrop (dAppA (dVar 2) (dIf (dB (dOp fEq (dVar 3) (dC (.str "swap")))) (dApp cf_Swap xc (dCons (dVar 4) (dCons (dVar 5) dNil))) (dApp cf_Move xc (dCons (dVar 4) (dCons (dVar 5) dNil)))))))))
  (dRet (dApp cf_Row xc (dCons (dVar 0) (dCons (dEsc (dVar 2)) dNil))))))
def t_l_outcome (xc : Exc → M → Prop) : DTS :=
  (dSeq (dTry xc 4 (fun xc => (dDrop (dApp cf_meeting xc (dCons (dVar 0) (dCons (dVar 1) (dCons (dVar 2) dNil)))))) [⟨isX_NoPerson, some 3, fun e k => (dRet (dLet .tup (dCons (dC (.str "noperson")) (dCons (dXf FLX e k 3 "person") dNil))))⟩, ⟨isX_RoomError, none, fun _ _ => (dRet (dC (.str "unexpected")))⟩])
  (dRet (dC (.str "ok"))))
def t_law (xc : Exc → M → Prop) (KK : PySem.W.Frag) : DTS :=
  (dSeq (dFor (iSeq (dAddA (dLet .lst (dCons (dApp (cf_l_cell KK) xc (dCons (dVar 0) (dCons (dC (.int 0)) dNil))) dNil)) (dSlS KK (dVar 0) (dPart (dC (.int 1))) (dPart (dC (.int 2)))))) (gN 1) (dSeq (dAsg (dApp cf_l_rng xc (dCons (dVar 1) dNil)) (gN 2))
  (dSeq (dAsg (dAddA (dC (.int 1)) (dApp cf_l_draw xc (dCons (dVar 2) (dCons (dC (.int 5)) dNil)))) (gN 3))
  (dSeq (dAsg (dApp cf_l_random_commands xc (dCons (dVar 2) (dCons (dVar 3) (dCons (dC (.int 12)) dNil)))) (gN 4))
  (dSeq (dAsg (dLc false (iSeq (dApp cf_l_all_rooms xc (dCons (dVar 3) dNil))) (gN 11) dYes (dApp cf_l_after xcNo (dCons (dVar 4) (dCons (dVar 11) dNil))) [11]) (gN 5))
  (dSeq (dIfS (dNot (dB (dApp cf_l_all_hold xc (dCons (dApp cf_l_row xc (dCons (dVar 3) (dCons (dVar 4) dNil))) (dCons (dVar 5) (dCons (dVar 3) dNil)))))) (dRet (dC (.bl false))) dSkip)
  (dSeq (dAsg (dAddA (dC (.int 1)) (dApp cf_l_draw xc (dCons (dVar 2) (dCons (dC (.int 16)) dNil)))) (gN 3))
  (dSeq (dAsg (dApp cf_l_random_commands xc (dCons (dVar 2) (dCons (dVar 3) (dCons (dC (.int 60)) dNil)))) (gN 4))
  (dSeq (dAsg (dApp cf_l_row xc (dCons (dVar 3) (dCons (dVar 4) dNil))) (gN 6))
  (dSeq (dAsg (dLet .lst (dCons (dApp cf_l_after xc (dCons (dVar 4) (dCons (dLRng1 false (dVar 3)) dNil))) (dCons (dApp cf_l_after xc (dCons (dVar 4) (dCons (dOp fMulA (dLet .lst (dCons (dC (.int 0)) dNil)) (dVar 3)) dNil))) dNil))) (gN 5))
  (dSeq (dIfS (dNot (dB (dApp cf_l_all_hold xc (dCons (dVar 6) (dCons (dVar 5) (dCons (dVar 3) dNil)))))) (dRet (dC (.bl false))) dSkip)
  (dSeq (dAsg (dLet .lst (dCons (dC (.int 0)) (dCons (dOp fSub (dVar 3) (dC (.int 1))) (dCons (dApp cf_l_draw xc (dCons (dVar 2) (dCons (dVar 3) dNil))) (dCons (dNeg (dC (.int 1))) (dCons (dVar 3) (dCons (dOp fSub (dC (.int 0)) (dVar 3)) (dCons (dOp fPow (dC (.int 10)) (dC (.int 9))) dNil)))))))) (gN 7))
  (dSeq (dPar 8 9 (dCons (dApp cf_l_pick xc (dCons (dVar 2) (dCons (dVar 7) dNil))) (dCons (dApp cf_l_pick xc (dCons (dVar 2) (dCons (dVar 7) dNil))) dNil)))
  (dSeq (dAsg (dLc false (iSeq (dLet .tup (dCons (dVar 8) (dCons (dVar 9) dNil)))) (gN 12) (dNot (dB (dCh (fun i j => decide (i ≤ j)) (fun i j => decide (i < j)) (dC (.int 0)) (dVar 12) (dVar 3)))) (dVar 12) [12]) (gN 10))
  (dIfS (dB (dOp fNe (dApp cf_l_outcome xc (dCons (dVar 6) (dCons (dVar 8) (dCons (dVar 9) dNil)))) (dIf (dB (dOp fNe (dVar 10) (dLet .lst dNil))) (dLet .tup (dCons (dC (.str "noperson")) (dCons (dIxA (dVar 10) (dC (.int 0))) dNil))) (dC (.str "ok"))))) (dRet (dC (.bl false))) dSkip)))))))))))))))
  (dRet (dC (.bl true))))
end DD
namespace DD
open PySem L2 RZ
section
variable {ws : List W} {μ : M} {P : Res → M → Prop} {Q : W → M → Prop} {xc : Exc → M → Prop}
theorem len1 {α : Type} {l : List α} (h : l.length = 1) : ∃ a, l = [a] := List.length_eq_one_iff.mp h
theorem len2 {α : Type} {l : List α} (h : l.length = 2) : ∃ a b, l = [a, b] := by
  match l, h with
  | [a, b], _ => exact ⟨a, b, rfl⟩
theorem len_facts {c : Nat} (h : S_facts c ws μ P) : ws.length = 1 := by obtain ⟨_, rfl, _⟩ := h; rfl
theorem len_kind {c : Nat} {s : Str} (h : S_kind c s ws μ P) : ws.length = 1 := by obtain ⟨_, rfl, _⟩ := h; rfl
theorem len_Join_facts (h : S_Join_facts ws μ P) : ws.length = 1 := len_facts h
theorem wp_Join_facts (h : S_Join_facts ws μ P) : t_Join_facts (xcOf μ.length P) (endsOf .d μ.length P) (ws.map some ++ List.replicate (1 - ws.length) none) μ := by
  obtain ⟨ds, rfl, rfl, hl, hP⟩ := h
  obtain ⟨a, c, rfl⟩ := len2 (l := ds) hl
  simpa [t_Join_facts, List.lookup] using hP
theorem len_Free_facts (h : S_Free_facts ws μ P) : ws.length = 1 := len_facts h
theorem wp_Free_facts (h : S_Free_facts ws μ P) : t_Free_facts (xcOf μ.length P) (endsOf .d μ.length P) (ws.map some ++ List.replicate (1 - ws.length) none) μ := by
  obtain ⟨ds, rfl, rfl, hl, hP⟩ := h
  obtain ⟨a, rfl⟩ := len1 (l := ds) hl
  simpa [t_Free_facts, List.lookup] using hP
theorem len_Swap_facts (h : S_Swap_facts ws μ P) : ws.length = 1 := len_facts h
theorem wp_Swap_facts (h : S_Swap_facts ws μ P) : t_Swap_facts (xcOf μ.length P) (endsOf .d μ.length P) (ws.map some ++ List.replicate (1 - ws.length) none) μ := by
  obtain ⟨ds, rfl, rfl, hl, hP⟩ := h
  obtain ⟨a, c, rfl⟩ := len2 (l := ds) hl
  simpa [t_Swap_facts, List.lookup] using hP
theorem len_Move_facts (h : S_Move_facts ws μ P) : ws.length = 1 := len_facts h
theorem wp_Move_facts (h : S_Move_facts ws μ P) : t_Move_facts (xcOf μ.length P) (endsOf .d μ.length P) (ws.map some ++ List.replicate (1 - ws.length) none) μ := by
  obtain ⟨ds, rfl, rfl, hl, hP⟩ := h
  obtain ⟨a, c, rfl⟩ := len2 (l := ds) hl
  simpa [t_Move_facts, List.lookup] using hP
theorem len_Join_init (h : S_Join ws μ P) : ws.length = 3 := by
  obtain ⟨ds, rfl, hl, _⟩ := h
  simpa using hl
theorem wp_Join_init (h : S_Join ws μ P) : t_Join_init (xcOf μ.length P) (endsOf .d μ.length P) (ws.map some ++ List.replicate (3 - ws.length) none) μ := by
  obtain ⟨ds, rfl, hl, rfl, hP⟩ := h
  obtain ⟨a, c, rfl⟩ := len2 (l := ds) hl
  simpa [t_Join_init] using hP
theorem len_Free_init (h : S_Free ws μ P) : ws.length = 2 := by
  obtain ⟨ds, rfl, hl, _⟩ := h
  simpa using hl
theorem wp_Free_init (h : S_Free ws μ P) : t_Free_init (xcOf μ.length P) (endsOf .d μ.length P) (ws.map some ++ List.replicate (2 - ws.length) none) μ := by
  obtain ⟨ds, rfl, hl, rfl, hP⟩ := h
  obtain ⟨a, rfl⟩ := len1 (l := ds) hl
  simpa [t_Free_init] using hP
theorem len_Swap_init (h : S_Swap ws μ P) : ws.length = 3 := by
  obtain ⟨ds, rfl, hl, _⟩ := h
  simpa using hl
theorem wp_Swap_init (h : S_Swap ws μ P) : t_Swap_init (xcOf μ.length P) (endsOf .d μ.length P) (ws.map some ++ List.replicate (3 - ws.length) none) μ := by
  obtain ⟨ds, rfl, hl, rfl, hP⟩ := h
  obtain ⟨a, c, rfl⟩ := len2 (l := ds) hl
  simpa [t_Swap_init] using hP
theorem len_Move_init (h : S_Move ws μ P) : ws.length = 3 := by
  obtain ⟨ds, rfl, hl, _⟩ := h
  simpa using hl
theorem wp_Move_init (h : S_Move ws μ P) : t_Move_init (xcOf μ.length P) (endsOf .d μ.length P) (ws.map some ++ List.replicate (3 - ws.length) none) μ := by
  obtain ⟨ds, rfl, hl, rfl, hP⟩ := h
  obtain ⟨a, c, rfl⟩ := len2 (l := ds) hl
  simpa [t_Move_init] using hP
theorem len_Command_persons (h : S_Command_persons ws μ P) : ws.length = 1 := by obtain ⟨_, _, rfl, _⟩ := h; rfl
theorem wp_Command_persons (h : S_Command_persons ws μ P) : t_Command_persons (xcOf μ.length P) (endsOf .d μ.length P) (ws.map some ++ List.replicate (1 - ws.length) none) μ := by
  obtain ⟨c, ds, rfl, rfl, hc, hl, hP⟩ := h
  simpa [t_Command_persons, hc, hl, -FL] using hP
end
end DD
namespace DD
open PySem L2 RZ
theorem atI_nat {α : Type} {l : List α} {i : Int} {j : Nat} {a : α} (h : i = (j : Int)) (e : l[j]? = some a) : atI l i = some a := by
  have hj := (List.getElem?_eq_some_iff.mp e).1
  unfold atI ixN
  rw [if_pos (by omega), if_pos (by omega)]
  simp [h, e]
section
variable {ws : List W} {μ : M} {P : Res → M → Prop} {Q : W → M → Prop} {xc : Exc → M → Prop} {K : PySem.W.Frag}
theorem wp_l_rng (h : S_l_rng ws μ P) : t_l_rng (xcOf μ.length P) (endsOf .l μ.length P) (ws.map some ++ List.replicate (1 - ws.length) none) μ := by
  obtain ⟨x, rfl, rfl, hP⟩ := h
  simpa [t_l_rng, src] using hP _ _ _
theorem wp_l_cell (h : S_l_cell K ws μ P) : t_l_cell (xcOf μ.length P) K (endsOf .d μ.length P) (ws.map some ++ List.replicate (2 - ws.length) none) μ := by
  obtain ⟨ns, k, rfl, rfl, hP⟩ := h
  simp [t_l_cell]
  split
  · rename_i hk
    rw [atI_nat rfl (List.getElem?_eq_getElem hk)]
    exact hP _
  · exact hP 0
theorem wp_l_draw (h : S_l_draw ws μ P) : t_l_draw (xcOf μ.length P) (endsOf .d μ.length P) (ws.map some ++ List.replicate (4 - ws.length) none) μ := by
  obtain ⟨a, b, c, ds, rfl, hl, rfl, hF⟩ := h
  unfold F_l_draw at hF
  split at hF
  · rename_i n
    obtain ⟨⟨h0, h1⟩, hP⟩ := hF
    have key : ∀ x a b c : Int, P (.ret (.d (.int (x % n)))) [.lst (src a b c)] := fun x a b c => by
      obtain ⟨v, hv⟩ := Int.eq_ofNat_of_zero_le (Int.emod_nonneg x (show n ≠ 0 by omega))
      have := Int.emod_lt_of_pos x h0
      rw [hv]
      exact hP v (by omega) a b c
    have i0 : ixN 3 0 = some 0 := by decide
    have i1 : ixN 3 1 = some 1 := by decide
    have i2 : ixN 3 2 = some 2 := by decide
    have e0 : ∀ x y z : D, atI [x, y, z] 0 = some x := fun x y z => by simp [atI, i0]
    have e1 : ∀ x y z : D, atI [x, y, z] 1 = some y := fun x y z => by simp [atI, i1]
    have e2 : ∀ x y z : D, atI [x, y, z] 2 = some z := fun x y z => by simp [atI, i2]
    simp [t_l_draw, src, e0, e1, e2, i0, i1, i2, CPow, CMul, h0, h1]
    split
    · exact key _ _ _ _
    · exact ⟨.inl ⟨by omega, by omega⟩, key _ _ _ _⟩
  · exact hF.elim
theorem wp_l_pick (h : S_l_pick ws μ P) : t_l_pick (xcOf μ.length P) (endsOf .d μ.length P) (ws.map some ++ List.replicate (2 - ws.length) none) μ := by
  obtain ⟨a, b, c, ds, rfl, hl, rfl, hF⟩ := h
  unfold F_l_pick at hF
  split at hF
  · rename_i ds
    obtain ⟨⟨h0, h1⟩, hP⟩ := hF
    simp [t_l_pick, src, F_l_draw]
    refine ⟨⟨h0, by omega⟩, fun v hv a' b' c' => ?_⟩
    have hj : v < ds.length := by omega
    simp [atI_nat rfl (List.getElem?_eq_getElem hj)]
    exact hP _ (List.getElem_mem hj) _ _ _
  · exact hF.elim
end
end DD
namespace DD
open PySem L2 RZ
/-! ### the mathematics of linked numbers -/
theorem root_step (hs : List Nat) (i : Nat) : root hs i = if hs.getD i i < i then root hs (hs.getD i i) else i := by
  rw [root]
  split <;> rfl
theorem root_le (hs : List Nat) (i : Nat) : root hs i ≤ i := by
  induction i using Nat.strongRecOn with
  | ind i ih =>
    rw [root_step]
    split
    · rename_i h
      have := ih _ h
      omega
    · omega
theorem root_lt {hs : List Nat} {i : Nat} (h : i < hs.length) : root hs i < hs.length := Nat.lt_of_le_of_lt (root_le hs i) h
theorem root_end (hs : List Nat) (i : Nat) : ¬ hs.getD (root hs i) (root hs i) < root hs i := by
  induction i using Nat.strongRecOn with
  | ind i ih =>
    rw [root_step]
    split
    · rename_i h
      exact ih _ h
    · assumption
theorem root_fix (hs : List Nat) (i : Nat) : root hs (root hs i) = root hs i := by
  rw [root_step, if_neg (root_end hs i)]
theorem getD_set {l : List Nat} {i j v d : Nat} : (l.set i v).getD j d = if i = j ∧ i < l.length then v else l.getD j d := by
  simp only [List.getD_eq_getElem?_getD, List.getElem?_set]
  by_cases h : i = j
  · subst h
    by_cases h2 : i < l.length
    · simp [h2]
    · simp [h2]
  · simp [h]
theorem hsOk_set {hs : List Nat} (h : HsOk hs) {m l : Nat} (hl : l ≤ m) : HsOk (hs.set m l) := fun i hi => by
  rw [getD_set]
  split
  · rename_i e
    omega
  · exact h i (by simpa using hi)
theorem root_set {hs : List Nat} (h : HsOk hs) {m l : Nat} (hm : m < hs.length) (hlm : l ≤ m) (em : root hs m = m) (el : root hs l = l) : ∀ x, root (hs.set m l) x = if root hs x = m then l else root hs x := by
  intro x
  induction x using Nat.strongRecOn with
  | ind x ih =>
    have gm : ¬ hs.getD m m < m := by have := root_end hs m; rwa [em] at this
    have gl : ¬ hs.getD l l < l := by have := root_end hs l; rwa [el] at this
    by_cases hx : x = m
    · subst hx
      have g : (hs.set x l).getD x x = l := by rw [getD_set, if_pos ⟨rfl, hm⟩]
      rw [em, if_pos rfl, root_step, g]
      by_cases hlt : l < x
      · rw [if_pos hlt, ih l hlt, el, if_neg (by omega)]
      · rw [if_neg hlt]; omega
    · have g : (hs.set m l).getD x x = hs.getD x x := by rw [getD_set, if_neg (fun e => hx e.1.symm)]
      rw [root_step, g, root_step hs x]
      by_cases hlt : hs.getD x x < x
      · rw [if_pos hlt, if_pos hlt]; exact ih _ hlt
      · rw [if_neg hlt, if_neg hlt, if_neg hx]
theorem linkH_len {hs : List Nat} {a b : Nat} : (linkH hs a b).length = hs.length := by simp [linkH]
theorem linkH_ok {hs : List Nat} (h : HsOk hs) {a b : Nat} : HsOk (linkH hs a b) := hsOk_set h (by omega)
theorem root_link {hs : List Nat} (h : HsOk hs) {a b : Nat} (ha : a < hs.length) (hb : b < hs.length) (x : Nat) : root (linkH hs a b) x = if root hs x = max (root hs a) (root hs b) then min (root hs a) (root hs b) else root hs x := by
  have := root_lt ha
  have := root_lt hb
  have e1 : root hs (max (root hs a) (root hs b)) = max (root hs a) (root hs b) := by
    rcases Nat.le_total (root hs a) (root hs b) with q | q
    · rw [Nat.max_eq_right q]; exact root_fix hs b
    · rw [Nat.max_eq_left q]; exact root_fix hs a
  have e2 : root hs (min (root hs a) (root hs b)) = min (root hs a) (root hs b) := by
    rcases Nat.le_total (root hs a) (root hs b) with q | q
    · rw [Nat.min_eq_left q]; exact root_fix hs a
    · rw [Nat.min_eq_right q]; exact root_fix hs b
  exact root_set h (by omega) (by omega) e1 e2 x
/-- who is linked behind a link -/
theorem linked_iff {hs : List Nat} (h : HsOk hs) {a b : Nat} (ha : a < hs.length) (hb : b < hs.length) (p q : Nat) :
    root (linkH hs a b) p = root (linkH hs a b) q ↔ root hs p = root hs q ∨ (root hs p = root hs a ∧ root hs q = root hs b) ∨ (root hs p = root hs b ∧ root hs q = root hs a) := by
  rw [root_link h ha hb, root_link h ha hb]
  generalize root hs p = P
  generalize root hs q = Q
  generalize root hs a = A
  generalize root hs b = B
  split <;> split <;> omega
theorem root_add {hs : List Nat} (h : HsOk hs) (x : Nat) : root (hs ++ [hs.length]) x = root hs x := by
  induction x using Nat.strongRecOn with
  | ind x ih =>
    have e : (hs ++ [hs.length]).getD x x = hs.getD x x := by
      simp only [List.getD_eq_getElem?_getD]
      by_cases hx : x < hs.length
      · rw [List.getElem?_append_left hx]
      · rw [List.getElem?_append_right (by omega)]
        by_cases e : x = hs.length
        · subst e; simp
        · rw [List.getElem?_eq_none (by simp; omega), List.getElem?_eq_none (by omega)]
    rw [root_step, e, root_step hs x]
    split
    · rename_i hlt; exact ih _ hlt
    · rfl
theorem hsOk_add {hs : List Nat} (h : HsOk hs) : HsOk (hs ++ [hs.length]) := fun i hi => by
  simp only [List.getD_eq_getElem?_getD]
  by_cases hx : i < hs.length
  · have := h i hx
    rw [List.getElem?_append_left hx]
    simpa [List.getD_eq_getElem?_getD] using this
  · have : i = hs.length := by simp at hi; omega
    subst this
    simp
theorem root_out {hs : List Nat} {x : Nat} (h : hs.length ≤ x) : root hs x = x := by
  rw [root_step]
  have : hs.getD x x = x := by simp [List.getD_eq_getElem?_getD, List.getElem?_eq_none h]
  rw [this, if_neg (by omega)]
theorem root_range (n x : Nat) : root (List.range n) x = x := by
  rw [root_step]
  have : (List.range n).getD x x = x := by
    simp only [List.getD_eq_getElem?_getD]
    by_cases h : x < n
    · simp [List.getElem?_range h]
    · simp [List.getElem?_eq_none (show (List.range n).length ≤ x by simp; omega)]
  rw [this, if_neg (by omega)]
theorem hsOk_range (n : Nat) : HsOk (List.range n) := fun i hi => by
  simp at hi
  simp [List.getD_eq_getElem?_getD, List.getElem?_range hi]
/-! ### the groups of rooms -/
def clsF (n : Nat) (r : Nat → Nat) (p : Nat) : List Nat := (List.range n).filter fun q => r q == r p
def isFirst (r : Nat → Nat) (p : Nat) : Bool := (List.range p).all fun q => r q != r p
theorem canonF_eq (n : Nat) (r : Nat → Nat) : canonF n r = (List.range n).filterMap fun p => if isFirst r p = true then some (clsF n r p) else none := rfl
theorem mem_cls {n : Nat} {r : Nat → Nat} {p q : Nat} : q ∈ clsF n r p ↔ q < n ∧ r q = r p := by simp [clsF]
theorem first_iff {r : Nat → Nat} {p : Nat} : isFirst r p = true ↔ ∀ q, q < p → r q ≠ r p := by simp [isFirst]
theorem fm_congr {α β : Type} {f g : α → Option β} : ∀ {l : List α}, (∀ a ∈ l, f a = g a) → l.filterMap f = l.filterMap g
  | [], _ => rfl
  | a :: l, h => by
    rw [List.filterMap_cons, List.filterMap_cons, h a (List.mem_cons_self ..), fm_congr fun b hb => h b (List.mem_cons_of_mem _ hb)]
theorem canonF_congr {n : Nat} {r s : Nat → Nat} (h : ∀ p q, p < n → q < n → (r p = r q ↔ s p = s q)) : canonF n r = canonF n s := by
  rw [canonF_eq, canonF_eq]
  refine fm_congr fun p hp => ?_
  have hp := List.mem_range.mp hp
  have e1 : isFirst r p = isFirst s p := by
    rw [Bool.eq_iff_iff, first_iff, first_iff]
    exact ⟨fun k q hq e => k q hq ((h q p (by omega) hp).mpr e), fun k q hq e => k q hq ((h q p (by omega) hp).mp e)⟩
  have e2 : clsF n r p = clsF n s p := by
    unfold clsF
    refine List.filter_congr fun q hq => ?_
    have hq := List.mem_range.mp hq
    have := h q p hq hp
    by_cases e : r q = r p
    · rw [e, this.mp e]; simp
    · have e2 : ¬ s q = s p := fun z => e (this.mpr z)
      rw [show (r q == r p) = false by simpa using e, show (s q == s p) = false by simpa using e2]
  rw [e1, e2]
theorem mem_canon {n : Nat} {r : Nat → Nat} {g : List Nat} : g ∈ canonF n r ↔ ∃ p, p < n ∧ isFirst r p = true ∧ g = clsF n r p := by
  rw [canonF_eq, List.mem_filterMap]
  constructor
  · rintro ⟨p, hp, h⟩
    split at h
    · cases h; exact ⟨p, List.mem_range.mp hp, by assumption, rfl⟩
    · cases h
  · rintro ⟨p, hp, h, rfl⟩
    exact ⟨p, List.mem_range.mpr hp, by simp [h]⟩
theorem first_ex {r : Nat → Nat} : ∀ x : Nat, ∃ p, p ≤ x ∧ r p = r x ∧ isFirst r p = true := by
  intro x
  induction x using Nat.strongRecOn with
  | ind x ih =>
    by_cases h : ∃ q, q < x ∧ r q = r x
    · obtain ⟨q, h1, h2⟩ := h
      obtain ⟨p, k1, k2, k3⟩ := ih q h1
      exact ⟨p, by omega, by omega, k3⟩
    · exact ⟨x, Nat.le_refl _, rfl, first_iff.mpr fun q hq e => h ⟨q, hq, e⟩⟩
theorem cls_cons {n : Nat} {r : Nat → Nat} {p : Nat} (hp : p < n) (hf : isFirst r p = true) : ∃ t, clsF n r p = p :: t := by
  obtain ⟨k, rfl⟩ : ∃ k, n = p + (k + 1) := ⟨n - p - 1, by omega⟩
  unfold clsF
  rw [List.range_add, List.filter_append]
  have e1 : (List.range p).filter (fun q => r q == r p) = [] := by
    rw [List.filter_eq_nil_iff]
    intro q hq
    simpa using first_iff.mp hf q (List.mem_range.mp hq)
  rw [e1, List.range_succ_eq_map]
  simp
theorem cls_sorted {n : Nat} {r : Nat → Nat} {p : Nat} : (clsF n r p).Pairwise (· < ·) := List.pairwise_lt_range.filter _
theorem sortN_perm (g : List Nat) : (sortN g).Perm g := List.mergeSort_perm g _
theorem sortN_sorted (g : List Nat) : (sortN g).Pairwise (· ≤ ·) := by
  have := List.pairwise_mergeSort (le := fun a b : Nat => decide (a ≤ b)) (fun a b c h1 h2 => by simp at *; omega) (fun a b => by simp; omega) g
  exact this.imp fun h => by simpa using h
theorem sortN_uniq {l g : List Nat} (p : l.Perm g) (h : l.Pairwise (· ≤ ·)) : l = sortN g :=
  perm_sorted (fun a b h1 h2 => by omega) (p.trans (sortN_perm g).symm) h (sortN_sorted g) fun a _ => Nat.le_refl a
theorem sortI_zI (g : List Nat) : sortI (zI g) = zI (sortN g) := by
  refine (sortI_uniq ?_ ?_).symm
  · exact (sortN_perm g).map _
  · unfold zI
    rw [List.pairwise_map]
    exact (sortN_sorted g).imp fun h => by simpa using h
theorem tints_zI (g : List Nat) : tints (zI g) = .tup (nats g) := by simp [tints, zI, nats]
theorem nodup_of_lt {l : List Nat} (h : l.Pairwise (· < ·)) : l.Nodup := h.imp fun h => by omega
section
variable {n : Nat} {gs : List (List Nat)} {r : Nat → Nat}
theorem flat_nd : ∀ {gs : List (List Nat)}, gs.flatten.Nodup → (∀ g ∈ gs, g.Nodup) ∧ gs.Pairwise fun a b => ∀ x ∈ a, x ∉ b
  | [], _ => ⟨fun _ h => absurd h List.not_mem_nil, List.Pairwise.nil⟩
  | g :: gs, h => by
    rw [List.flatten_cons, List.nodup_append] at h
    obtain ⟨h1, h2, h3⟩ := h
    obtain ⟨k1, k2⟩ := flat_nd h2
    refine ⟨fun g' hg => ?_, List.pairwise_cons.mpr ⟨fun g' hg x hx hx' => ?_, k2⟩⟩
    · rcases List.mem_cons.mp hg with rfl | hg
      · exact h1
      · exact k1 _ hg
    · exact h3 x hx x (List.mem_flatten.mpr ⟨g', hg, hx'⟩) rfl
theorem same_group : ∀ {gs : List (List Nat)}, gs.flatten.Nodup → ∀ {g g' : List Nat} {x : Nat}, g ∈ gs → g' ∈ gs → x ∈ g → x ∈ g' → g = g'
  | g0 :: gs, h, g, g', x, hg, hg', hx, hx' => by
    obtain ⟨k1, k2⟩ := flat_nd h
    obtain ⟨p1, p2⟩ := List.pairwise_cons.mp k2
    have h2 : gs.flatten.Nodup := by rw [List.flatten_cons, List.nodup_append] at h; exact h.2.1
    rcases List.mem_cons.mp hg with rfl | hg <;> rcases List.mem_cons.mp hg' with rfl | hg'
    · rfl
    · exact absurd hx' (p1 _ hg' x hx)
    · rename_i q1; exact absurd hx (p1 _ q1 x hx')
    · exact same_group h2 hg hg' hx hx'
theorem cls_group (F : Fits n gs r) {g : List Nat} (hg : g ∈ gs) {x p : Nat} (hx : x ∈ g) (hp : p < n) (e : r p = r x) : clsF n r p = sortN g := by
  have hxn := F.lt g hg x hx
  have key : ∀ y, y < n → (r y = r p ↔ y ∈ g) := fun y hy => by
    rw [e, F.eq y x hy hxn]
    constructor
    · rintro (rfl | ⟨g', h1, h2, h3⟩)
      · exact hx
      · rw [same_group F.nd hg h1 hx h3]; exact h2
    · exact fun h => .inr ⟨g, hg, h, hx⟩
  refine sortN_uniq ((List.perm_ext_iff_of_nodup (nodup_of_lt cls_sorted) ((flat_nd F.nd).1 g hg)).mpr fun y => ?_) (cls_sorted.imp fun h => by omega)
  rw [mem_cls]
  exact ⟨fun ⟨h1, h2⟩ => (key y h1).mp h2, fun h => ⟨F.lt g hg y h, (key y (F.lt g hg y h)).mpr h⟩⟩
theorem cls_single (F : Fits n gs r) {p : Nat} (hp : p < n) (h : p ∉ gs.flatten) : clsF n r p = [p] := by
  have key : ∀ y, y < n → (r y = r p ↔ y = p) := fun y hy => by
    rw [F.eq y p hy hp]
    constructor
    · rintro (rfl | ⟨g', h1, h2, h3⟩)
      · rfl
      · exact absurd (List.mem_flatten.mpr ⟨g', h1, h3⟩) h
    · exact .inl
  refine (perm_sorted (le := (· ≤ ·)) (fun a b h1 h2 => by omega) ((List.perm_ext_iff_of_nodup (nodup_of_lt cls_sorted) (by simp)).mpr fun y => ?_) (cls_sorted.imp fun h => by omega) (by simp) fun a _ => Nat.le_refl a)
  rw [mem_cls]
  exact ⟨fun ⟨h1, h2⟩ => by simp [(key y h1).mp h2], fun h => by simp at h; subst h; exact ⟨hp, rfl⟩⟩
def singles (n : Nat) (gs : List (List Nat)) : List Nat := (List.range n).filter fun p => !(gs.flatten.contains p)
theorem mem_singles {p : Nat} : p ∈ singles n gs ↔ p < n ∧ p ∉ gs.flatten := by simp [singles]
theorem heads_lt {n : Nat} {r : Nat → Nat} : (canonF n r).Pairwise fun a b => ∃ x t y u, a = x :: t ∧ b = y :: u ∧ x < y := by
  rw [canonF_eq, List.pairwise_filterMap]
  refine List.Pairwise.imp_of_mem (fun {p q} hp hq hpq => ?_) (List.pairwise_lt_range (n := n))
  intro a ha b hb
  split at ha
  · split at hb
    · cases ha
      cases hb
      rename_i h1 h2
      obtain ⟨t, e1⟩ := cls_cons (List.mem_range.mp hp) h1
      obtain ⟨u, e2⟩ := cls_cons (List.mem_range.mp hq) h2
      exact ⟨p, t, q, u, e1, e2, hpq⟩
    · cases hb
  · cases ha
theorem fits_perm (F : Fits n gs r) : (gs.map sortN ++ (singles n gs).map fun p => [p]).Perm (canonF n r) := by
  refine (List.perm_ext_iff_of_nodup ?_ ?_).mpr fun a => ?_
  · rw [List.nodup_append]
    refine ⟨?_, ?_, ?_⟩
    · refine List.pairwise_map.mpr (List.Pairwise.imp_of_mem (fun {a b} ha hb h => ?_) (flat_nd F.nd).2)
      intro e
      obtain ⟨x, hx⟩ := List.exists_mem_of_ne_nil _ (F.ne a ha)
      have h1 := (sortN_perm a).mem_iff.mpr hx
      rw [e] at h1
      exact h x hx ((sortN_perm b).mem_iff.mp h1)
    · refine List.pairwise_map.mpr ((List.nodup_range.filter _).imp fun h e => h (by simpa using e))
    · intro a ha b hb e
      subst e
      obtain ⟨g, hg, rfl⟩ := List.mem_map.mp ha
      obtain ⟨p, hp, e⟩ := List.mem_map.mp hb
      have : p ∈ sortN g := by rw [← e]; simp
      exact (mem_singles.mp hp).2 (List.mem_flatten.mpr ⟨g, hg, (sortN_perm g).mem_iff.mp this⟩)
  · refine heads_lt.imp ?_
    rintro a b ⟨x, t, y, u, rfl, rfl, h⟩ e
    simp at e
    omega
  · rw [List.mem_append, mem_canon]
    constructor
    · rintro (h | h)
      · obtain ⟨g, hg, rfl⟩ := List.mem_map.mp h
        obtain ⟨x, hx⟩ := List.exists_mem_of_ne_nil _ (F.ne g hg)
        obtain ⟨p, h1, h2, h3⟩ := first_ex (r := r) x
        have hp : p < n := by have := F.lt g hg x hx; omega
        exact ⟨p, hp, h3, (cls_group F hg hx hp h2).symm⟩
      · obtain ⟨p, hp, rfl⟩ := List.mem_map.mp h
        obtain ⟨h1, h2⟩ := mem_singles.mp hp
        refine ⟨p, h1, first_iff.mpr fun q hq e => ?_, (cls_single F h1 h2).symm⟩
        rcases (F.eq q p (by omega) h1).mp e with rfl | ⟨g, k1, _, k3⟩
        · omega
        · exact h2 (List.mem_flatten.mpr ⟨g, k1, k3⟩)
    · rintro ⟨p, hp, hf, rfl⟩
      by_cases h : p ∈ gs.flatten
      · obtain ⟨g, hg, hx⟩ := List.mem_flatten.mp h
        exact .inl (List.mem_map.mpr ⟨g, hg, (cls_group F hg hx hp rfl).symm⟩)
      · exact .inr (List.mem_map.mpr ⟨p, mem_singles.mpr ⟨hp, h⟩, (cls_single F hp h).symm⟩)
theorem canon_sorted : ((canonF n r).map zI).Pairwise fun a b => lexI b a = false := by
  refine List.pairwise_map.mpr (heads_lt.imp ?_)
  rintro a b ⟨x, t, y, u, rfl, rfl, h⟩
  have h1 : ¬ (y : Int) = x := by omega
  have h2 : ¬ (y : Int) < x := by omega
  simp [zI, lexI, h1, h2]
theorem fits_sort (F : Fits n gs r) : sortG ((gs.map fun g => zI (sortN g)) ++ ((singles n gs).map fun p => zI [p])) = (canonF n r).map zI := by
  refine (sortG_uniq ?_ canon_sorted).symm
  have := (fits_perm F).map zI
  rw [List.map_append, List.map_map, List.map_map] at this
  exact this.symm
end
section
variable {ws : List W} {μ : M} {P : Res → M → Prop} {Q : W → M → Prop} {xc : Exc → M → Prop}
theorem wp_Links_init (h : S_Links ws μ P) : t_Links_init (xcOf μ.length P) (endsOf .i μ.length P) (ws.map some ++ List.replicate (2 - ws.length) none) μ := by
  obtain ⟨n, rfl, rfl, hn, hP⟩ := h
  simp [t_Links_init, dLRng1]
  refine ⟨by omega, ?_⟩
  simpa [rngD_nats] using hP
theorem wp_Links_head (h : S_Links_head ws μ P) : t_Links_head (xcOf μ.length P) (endsOf .d μ.length P) (ws.map some ++ List.replicate (2 - ws.length) none) μ := by
  obtain ⟨hs, ds, rfl, hl, rfl, i, rfl, hi, ho, hP⟩ := h
  simp [t_Links_head]
  unfold dWhile
  refine ⟨fun k ρ' μ' => ∃ j : Nat, ρ' = [some (.r 0), some (.d (nat j))] ∧ μ' = lkC hs ∧ j < hs.length ∧ root hs j = root hs i ∧ k = j, ⟨i, i, rfl, rfl, hi, rfl, rfl⟩, ?_⟩
  rintro k ρ' μ' ⟨j, rfl, rfl, hj, hr, rfl⟩
  have e : hs.getD k k = hs[k] := by simp [List.getD_eq_getElem?_getD, hj]
  have h1 := ho k hj
  simp [List.lookup, atI_nats hj, fNe, deq]
  by_cases q : hs[k] = k
  · simp [q]
    have : root hs k = k := by rw [root_step, e, if_neg (by omega)]
    rw [← hr, this] at hP
    simpa using hP
  · simp [q]
    have hlt : hs[k] < k := by omega
    exact ⟨_, hlt, by omega, by rw [← hr, root_step hs k, e, if_pos hlt], rfl⟩
theorem ixN_nat {n i : Nat} (h : i < n) : ixN n (i : Int) = some i := by
  unfold ixN
  rw [if_pos (by omega), if_pos (by omega)]
  simp
theorem wp_Links_link (h : S_Links_link ws μ P) : t_Links_link (xcOf μ.length P) (endsOf .d μ.length P) (ws.map some ++ List.replicate (3 - ws.length) none) μ := by
  obtain ⟨hs, ds, rfl, hl, rfl, i, j, rfl, ⟨hi, hj⟩, ho, hP⟩ := h
  have a := root_lt hi
  have b := root_lt hj
  simp [t_Links_link, F_Links_head, hi, hj, ho, List.lookup]
  unfold linkH at hP
  by_cases q : root hs i < root hs j
  · rw [if_pos q, ixN_nat b, if_neg (by omega)]
    rw [Nat.max_eq_right (by omega), Nat.min_eq_left (by omega)] at hP
    simpa using hP
  · rw [if_neg q, ixN_nat a]
    rw [Nat.max_eq_left (by omega), Nat.min_eq_right (by omega)] at hP
    by_cases q2 : root hs j < root hs i
    · rw [if_pos q2]; simpa using hP
    · have : root hs i = root hs j := by omega
      rw [if_neg q2]
      simpa [this] using hP
theorem wp_Links_add (h : S_Links_add ws μ P) : t_Links_add (xcOf μ.length P) (endsOf .d μ.length P) (ws.map some ++ List.replicate (1 - ws.length) none) μ := by
  obtain ⟨hs, ds, rfl, hl, rfl, rfl, hn, hP⟩ := h
  simp [t_Links_add, List.lookup]
  exact ⟨by omega, hP⟩
end
end DD
namespace DD
open PySem L2 RZ
section
variable {ws : List W} {μ : M} {P : Res → M → Prop} {Q : W → M → Prop} {xc : Exc → M → Prop}
theorem wp_check_people (h : S_check_people ws μ P) : t_check_people (xcOf μ.length P) (endsOf .d μ.length P) (ws.map some ++ List.replicate (1 - ws.length) none) μ := by
  obtain ⟨ds, rfl, hl, rfl, hF⟩ := h
  unfold F_check_people at hF
  split at hF
  · obtain ⟨⟨h1, h2⟩, hP⟩ := hF
    simpa [t_check_people, h1, h2] using hP
  · exact hF.elim
theorem wp_check_person (h : S_check_person ws μ P) : t_check_person (xcOf μ.length P) (endsOf .d μ.length P) (ws.map some ++ List.replicate (2 - ws.length) none) μ := by
  obtain ⟨ds, rfl, hl, rfl, hF⟩ := h
  unfold F_check_person at hF
  split at hF
  · rename_i n p
    obtain ⟨h1, h2⟩ := hF
    by_cases e : 0 ≤ p ∧ p < n
    · have := h1 e
      simpa [t_check_person, e.1, e.2] using this
    · have := h2 e
      simp [t_check_person]
      by_cases e1 : 0 ≤ p
      · have e2 : n ≤ p := Int.not_lt.mp fun z => e ⟨e1, z⟩
        simpa [e1, e2, closedB] using this
      · simpa [e1, closedB] using this
  · exact hF.elim
/-- what is told of a sequence of numbers -/
def decN (x : D) : List Int := match x with
  | .lst ds => (intsD ds).getD []
  | .tup ds => (intsD ds).getD []
  | _ => []
theorem intsD_nats (g : List Nat) : intsD (nats g) = some (zI g) := by
  have : nats g = (zI g).map D.int := by simp [nats, zI]
  rw [this, intsD_map]
theorem nats_zI (g : List Nat) : nats g = (zI g).map D.int := by simp [nats, zI]
theorem decN_seq {x : D} {g : List Nat} (h : SeqN x g) : decN x = zI g := by
  rcases h with rfl | rfl <;> simp [decN, intsD_nats]
theorem seqsN_map {β : Type} (f : D → β) (k : List Nat → β) (hk : ∀ x g, SeqN x g → f x = k g) : ∀ {xs : List D} {gs : List (List Nat)}, SeqsN xs gs → xs.map f = gs.map k
  | [], [], _ => rfl
  | x :: xs, g :: gs, h => by rw [List.map_cons, List.map_cons, hk x g h.1, seqsN_map f k hk h.2]
  | [], _ :: _, h => h.elim
  | _ :: _, [], h => h.elim
theorem seqsN_mem : ∀ {xs : List D} {gs : List (List Nat)}, SeqsN xs gs → ∀ x ∈ xs, ∃ g ∈ gs, SeqN x g
  | [], [], _, x, hx => by cases hx
  | x :: xs, g :: gs, h, y, hy => by
    rcases List.mem_cons.mp hy with rfl | hy
    · exact ⟨g, List.mem_cons_self .., h.1⟩
    · obtain ⟨g', h1, h2⟩ := seqsN_mem h.2 y hy
      exact ⟨g', List.mem_cons_of_mem _ h1, h2⟩
  | [], _ :: _, h, _, _ => h.elim
  | _ :: _, [], h, _, _ => h.elim
theorem seqsN_get : ∀ {xs : List D} {gs : List (List Nat)}, SeqsN xs gs → ∀ {i : Nat} {x : D}, xs[i]? = some x → ∃ g, gs[i]? = some g ∧ SeqN x g
  | x :: xs, g :: gs, h, 0, y, hy => by simp at hy; subst hy; exact ⟨g, rfl, h.1⟩
  | x :: xs, g :: gs, h, i + 1, y, hy => by simpa using seqsN_get h.2 (i := i) (by simpa using hy)
  | [], [], _, i, y, hy => by simp at hy
  | [], _ :: _, h, _, _, _ => h.elim
  | _ :: _, [], h, _, _, _ => h.elim
theorem seqsN_len : ∀ {xs : List D} {gs : List (List Nat)}, SeqsN xs gs → xs.length = gs.length
  | [], [], _ => rfl
  | x :: xs, g :: gs, h => by simp [seqsN_len h.2]
  | [], _ :: _, h => h.elim
  | _ :: _, [], h => h.elim
theorem seqsN_app : ∀ {xs ys : List D} {gs hs : List (List Nat)}, SeqsN xs gs → SeqsN ys hs → SeqsN (xs ++ ys) (gs ++ hs)
  | [], _, [], _, _, h => h
  | x :: xs, _, g :: gs, _, h, h' => ⟨h.1, seqsN_app h.2 h'⟩
  | [], _, _ :: _, _, h, _ => h.elim
  | _ :: _, _, [], _, h, _ => h.elim
theorem wp_sorted_groups (h : S_sorted_groups ws μ P) : t_sorted_groups (xcOf μ.length P) (endsOf .d μ.length P) (ws.map some ++ List.replicate (2 - ws.length) none) μ := by
  obtain ⟨ds, rfl, hl, rfl, xs, gs, rfl, hx, hne, hlen, hP⟩ := h
  have hxl := seqsN_len hx
  simp [t_sorted_groups]
  rw [dLc_eq]
  simp
  refine lc_fm (fun w => match w with
    | .d d => some (tints (sortI (decN d)))
    | _ => none) (fun _ => trivial) (by simp) (by simp; omega) (fun w hw acc K N hk => ?_) ?_
  · simp at hw
    obtain ⟨x, hx2, rfl⟩ := hw
    obtain ⟨g, hg, hs⟩ := seqsN_mem hx x hx2
    have e := decN_seq hs
    simp only [e] at hk
    rcases hs with rfl | rfl
    all_goals
      simp [fSortI]
      exact ⟨zI g, nats_zI g, by simpa [lints, tints] using hk⟩
  · have e : (List.filterMap (fun w => match w with
        | W.d d => some (tints (sortI (decN d)))
        | _ => none) (xs.map W.d)) = (gs.map fun g => zI (sortN g)).map tints := by
      rw [List.filterMap_map, List.map_map]
      have : (fun d => some (tints (sortI (decN d)))) = some ∘ fun d => tints (sortI (decN d)) := rfl
      show List.filterMap (fun d => some (tints (sortI (decN d)))) xs = _
      rw [this, List.filterMap_eq_map]
      exact seqsN_map _ _ (fun x g h => by simp [decN_seq h, sortI_zI]) hx
    simp only [e]
    simp [fSortT]
    refine ⟨gs.map fun g => zI (sortN g), by simp, fun g hg => ?_, by simpa using hP⟩
    obtain ⟨g0, h0, rfl⟩ := List.mem_map.mp hg
    intro e
    have := (sortN_perm g0).length_eq
    simp [zI] at e
    rw [e] at this
    exact hne g0 h0 (List.eq_nil_of_length_eq_zero this.symm)
theorem okD_nat {n i : Nat} : okD n (.int (i : Int)) = true := by cases n <;> rfl
theorem okDs_nats {n : Nat} (l : List Nat) : okDs n (nats l) = true := by
  rw [okDs_all]
  refine List.all_eq_true.mpr fun x hx => ?_
  obtain ⟨i, _, rfl⟩ := List.mem_map.mp hx
  exact okD_nat
theorem any_nats {l : List Nat} {i : Nat} : ((nats l).any fun d => deq d (.int (i : Int))) = l.contains i := by
  induction l with
  | nil => rfl
  | cons a l ih =>
    rw [nats_cons, List.any_cons, ih, List.contains_cons]
    congr 1
    show decide ((a : Int) = i) = _
    by_cases h : a = i
    · simp [h]
    · have : ¬ i = a := fun e => h e.symm
      simp [h, this]
theorem sortN_one (p : Nat) : sortN [p] = [p] := by
  have := sortN_perm [p]
  exact List.perm_singleton.mp this
theorem notin_before {gs : List (List Nat)} {g : List Nat} {i j p : Nat} (nd : gs.flatten.Nodup) (hg : gs[i]? = some g) (hp : g[j]? = some p) : p ∉ (gs.take i).flatten ++ g.take j := by
  have h1 := (List.getElem?_eq_some_iff.mp hg)
  have h2 := (List.getElem?_eq_some_iff.mp hp)
  obtain ⟨hi, rfl⟩ := h1
  obtain ⟨hj, rfl⟩ := h2
  have e1 : gs = gs.take i ++ gs[i] :: gs.drop (i + 1) := by rw [← List.drop_eq_getElem_cons hi, List.take_append_drop]
  have e2 : gs[i] = gs[i].take j ++ gs[i][j] :: gs[i].drop (j + 1) := by rw [← List.drop_eq_getElem_cons hj, List.take_append_drop]
  have e3 : gs.flatten = ((gs.take i).flatten ++ gs[i].take j) ++ (gs[i][j] :: (gs[i].drop (j + 1) ++ (gs.drop (i + 1)).flatten)) := by
    have := congrArg List.flatten e1
    rw [List.flatten_append, List.flatten_cons] at this
    rw [this]
    have := congrArg (fun l => (gs.take i).flatten ++ (l ++ (gs.drop (i + 1)).flatten)) e2
    rw [this]
    simp only [List.append_assoc, List.cons_append]
  rw [e3, List.nodup_append] at nd
  intro h
  exact nd.2.2 _ h _ (List.mem_cons_self ..) rfl
theorem flat_take {gs : List (List Nat)} {g : List Nat} {i : Nat} (hg : gs[i]? = some g) : (gs.take i).flatten ++ g = (gs.take (i + 1)).flatten := by
  rw [List.take_succ, hg]
  simp
theorem fits_small {n : Nat} {gs : List (List Nat)} {r : Nat → Nat} (F : Fits n gs r) : gs.flatten.length ≤ n ∧ gs.length ≤ n := by
  have fl : gs.flatten.length ≤ n := by
    have : gs.flatten.length ≤ (List.range n).length := by
      refine L2.nat_nodup_len gs.flatten (List.range n) F.nd fun x hx => ?_
      obtain ⟨g, hg, hx⟩ := List.mem_flatten.mp hx
      exact List.mem_range.mpr (F.lt g hg x hx)
    rw [List.length_range] at this
    omega
  refine ⟨fl, ?_⟩
  have : gs.length ≤ gs.flatten.length := by
    have hne := F.ne
    clear fl F
    induction gs with
    | nil => simp
    | cons g gs ih =>
      have h0 := hne g (List.mem_cons_self ..)
      have := ih fun g' hg' => hne g' (List.mem_cons_of_mem _ hg')
      have : 0 < g.length := List.length_pos_iff.mpr h0
      rw [List.flatten_cons, List.length_append, List.length_cons]
      omega
  omega
theorem rng_fm {n : Nat} {f : W → Option D} {k : Nat → D} {c : Nat → Bool} (h : ∀ i : Nat, i < n → f (.d (.int (i : Int))) = if c i = true then some (k i) else none) : (rng 0 n).filterMap f = ((List.range n).filter c).map k := by
  unfold rng
  rw [List.filterMap_map, ← List.filterMap_eq_map, ← List.filterMap_eq_filter, List.filterMap_filterMap]
  refine fm_congr fun i hi => ?_
  have := h i (List.mem_range.mp hi)
  simp only [Function.comp_apply, Int.zero_add]
  rw [this]
  by_cases hc : c i = true
  · simp [hc, Option.guard]
  · simp [hc, Option.guard]
end
end DD
namespace DD
open PySem L2 RZ
section
variable {ws : List W} {μ : M} {P : Res → M → Prop} {Q : W → M → Prop} {xc : Exc → M → Prop}
theorem cmd_isCmd (c : Cm) : isCmd c.cid = true := by cases c <;> rfl
theorem cmd_len (c : Cm) : c.nums.length = (FL c.cid).length := by cases c <;> rfl
theorem wp_Row_init (h : S_Row ws μ P) : t_Row_init (xcOf μ.length P) (endsOf .d μ.length P) (ws.map some ++ List.replicate (5 - ws.length) none) μ := by
  obtain ⟨ds, rfl, hl, rfl, n, cs, hds, ⟨hn1, hn2⟩, hc, hcs, hP⟩ := h
  have h1n : (1 : Int) ≤ n := by omega
  have h2n : (n : Int) ≤ 16 := by omega
  rcases hds with rfl | rfl
  all_goals
    simp [-dSeq, t_Row_init]
    rw [dSeq]
    simp [-dSeq, F_check_people, h1n, h2n]
    rw [dSeq]
    simp [-dSeq]
    rw [dSeq]
    simp [-dSeq]
    rw [dSeq]
    simp [-dSeq, List.lookup]
    refine ⟨by omega, ?_⟩
    rw [dFor_eq]
    simp [-dSeq, List.lookup]
    refine ⟨fun _ ρ' μ' => (∃ y z, ρ' = [some (.r 0), some (.d (nat n)), some (.d _), y, z]) ∧ μ' = [.ins 15 ["people", "commands"] [.d (nat n), .d (.tup (cs.map cmdD))]], ⟨⟨_, _, rfl⟩, rfl⟩, fun _ _ _ _ _ => trivial, fun i w ρ' μ' e h => ?_, fun ρ' μ' h => ?_⟩
    · obtain ⟨⟨y, z, rfl⟩, rfl⟩ := h
      simp at e
      obtain ⟨c, hci, rfl⟩ := e
      have hok := hcs c (List.mem_of_getElem? hci)
      rw [show (gN 3 (W.d (cmdD c)) = fun ρ μ Q => Q (ρ.set 3 (some (W.d (cmdD c)))) μ) from rfl]
      simp only [List.set_cons_succ, List.set_cons_zero]
      rw [dFor_eq]
      have e1 : ∀ (xx : Option W) (z : Option W), iSeq (dAppM cf_persons (xcOf 1 P) (dVar 3)) [some (.r 0), some (.d (nat n)), xx, some (W.d (cmdD c)), z] [.ins 15 ["people", "commands"] [.d (nat n), .d (.tup (cs.map cmdD))]] = fun Q => Q ⟨(nats c.nums).map .d, fun _ => True⟩ [.ins 15 ["people", "commands"] [.d (nat n), .d (.tup (cs.map cmdD))]] := by
        intro xx z
        funext Q
        cases c <;> simp [cmdD, isCmd]
      rw [e1]
      refine ⟨fun _ ρ' μ' => (∃ y z, ρ' = [some (.r 0), some (.d (nat n)), some (.d _), y, z]) ∧ μ' = [.ins 15 ["people", "commands"] [.d (nat n), .d (.tup (cs.map cmdD))]], ⟨⟨_, _, rfl⟩, rfl⟩, fun _ _ _ _ _ => trivial, fun i w ρ' μ' e h => ?_, fun ρ' μ' h => ?_⟩
      · obtain ⟨⟨y, z, rfl⟩, rfl⟩ := h
        simp [nats_get] at e
        obtain ⟨x, hx, rfl⟩ := e
        have := hok x (List.mem_of_getElem? hx)
        simp [F_check_person, this]
      · obtain ⟨⟨y, z, rfl⟩, rfl⟩ := h
        exact ⟨⟨_, _, rfl⟩, rfl⟩
    · obtain ⟨⟨y, z, rfl⟩, rfl⟩ := h
      simpa using hP
theorem getD_lt {l : List Nat} {i : Nat} (h : i < l.length) : l.getD i 0 = l[i] := by simp [List.getD_eq_getElem?_getD, h]
theorem wp_do_command (h : S_do_command ws μ P) : t_do_command (xcOf μ.length P) (endsOf .d μ.length P) (ws.map some ++ List.replicate (5 - ws.length) none) μ := by
  obtain ⟨n, hs, pl, c, rfl, rfl, ⟨ho, hl, hlt⟩, hc, hh, hP⟩ := h
  have get : ∀ {a : Nat}, a ∈ c.nums → ∃ h : a < pl.length, atI (nats pl) (a : Int) = some (D.int ((pl[a] : Nat) : Int)) ∧ pl.getD a 0 = pl[a] ∧ pl[a] < hs.length ∧ ixN pl.length (a : Int) = some a := fun {a} ha => by
    have h1 : a < pl.length := by rw [hl]; exact hc a ha
    exact ⟨h1, atI_nats h1, getD_lt h1, hlt _ (List.getElem_mem h1), ixN_nat h1⟩
  cases c with
  | join a b =>
    obtain ⟨ha, a1, a2, a3, a4⟩ := get (a := a) (by simp)
    obtain ⟨hb, b1, b2, b3, b4⟩ := get (a := b) (by simp)
    simp only [doC, a2, b2] at hP
    simpa [t_do_command, cmdD, List.lookup, nats_cons, a1, b1, F_Links_link, a3, b3, ho, and_assoc] using hP
  | free a =>
    obtain ⟨ha, a1, a2, a3, a4⟩ := get (a := a) (by simp)
    simp only [doC] at hP
    simpa [t_do_command, cmdD, List.lookup, nats_cons, a1, F_Links_add, hh, a4, and_assoc] using hP
  | swap a b =>
    obtain ⟨ha, a1, a2, a3, a4⟩ := get (a := a) (by simp)
    obtain ⟨hb, b1, b2, b3, b4⟩ := get (a := b) (by simp)
    simp only [doC, a2, b2] at hP
    simpa [t_do_command, cmdD, List.lookup, nats_cons, a1, b1, a4, b4] using hP
  | move a b =>
    obtain ⟨ha, a1, a2, a3, a4⟩ := get (a := a) (by simp)
    obtain ⟨hb, b1, b2, b3, b4⟩ := get (a := b) (by simp)
    simp only [doC, b2] at hP
    simpa [t_do_command, cmdD, List.lookup, nats_cons, a1, b1, a4, b4] using hP
end
end DD
namespace DD
open PySem L2 RZ
/-! ### the groups that a dict collects -/
section
variable {n : Nat} {r : Nat → Nat}
def firsts (r : Nat → Nat) (i : Nat) : List Nat := (List.range i).filter (isFirst r)
def ksF (r : Nat → Nat) (i : Nat) : List Key := (firsts r i).map fun p => .inl (r p : Int)
def dsF (r : Nat → Nat) (i : Nat) : List D := (firsts r i).map fun p => .lst (nats (clsF i r p))
theorem firsts_succ (r : Nat → Nat) (i : Nat) : firsts r (i + 1) = if isFirst r i = true then firsts r i ++ [i] else firsts r i := by
  unfold firsts
  rw [List.range_succ, List.filter_append]
  by_cases h : isFirst r i = true <;> simp [h]
theorem cls_succ (r : Nat → Nat) (i p : Nat) : clsF (i + 1) r p = if r i = r p then clsF i r p ++ [i] else clsF i r p := by
  unfold clsF
  rw [List.range_succ, List.filter_append]
  by_cases h : r i = r p <;> simp [h]
theorem mem_firsts {i p : Nat} : p ∈ firsts r i ↔ p < i ∧ isFirst r p = true := by simp [firsts]
theorem first_inj {p q : Nat} (hp : isFirst r p = true) (hq : isFirst r q = true) (e : r p = r q) : p = q := by
  rcases Nat.lt_trichotomy p q with h | h | h
  · exact absurd e (first_iff.mp hq p h)
  · exact h
  · exact absurd e.symm (first_iff.mp hp q h)
theorem dmapL_map {α : Type} {l : List Nat} {k : Nat → Key} {v : Nat → α} {key : Key} {d : α} : dmapL (l.map k) (l.map v) key d = l.map fun p => if k p = key then d else v p := by
  induction l with
  | nil => rfl
  | cons a l ih => simp [dmapL, ih]
theorem dgetL_map {α : Type} {l : List Nat} {k : Nat → Key} {v : Nat → α} {key : Key} : dgetL (l.map k) (l.map v) key = (l.find? fun p => decide (k p = key)).map v := by
  induction l with
  | nil => rfl
  | cons a l ih =>
    simp only [List.map_cons, dgetL, List.find?_cons]
    by_cases e : k a = key <;> simp [e, ih]
theorem hasK_map {l : List Nat} {k : Nat → Key} {key : Key} : hasK (l.map k) key = l.any fun p => decide (k p = key) := by
  simp [hasK, List.any_map, Function.comp_def]
theorem key_inj {a b : Nat} : ((Sum.inl (a : Int) : Key) = Sum.inl (b : Int)) ↔ a = b := by simp
theorem dict_first {i : Nat} (h : isFirst r i = true) : dgetL (ksF r i) (dsF r i) (.inl (r i : Int)) = none ∧ dputK (ksF r i) (.inl (r i : Int)) = ksF r (i + 1) ∧ dputL (ksF r i) (dsF r i) (.inl (r i : Int)) (.lst (nats [i])) = dsF r (i + 1) := by
  have no : ∀ p ∈ firsts r i, ¬ r p = r i := fun p hp e => first_iff.mp h p (mem_firsts.mp hp).1 e
  have hk : hasK (ksF r i) (.inl (r i : Int)) = false := by
    unfold ksF
    rw [hasK_map, List.any_eq_false]
    intro p hp
    simpa using no p hp
  refine ⟨?_, ?_, ?_⟩
  · unfold ksF dsF
    rw [dgetL_map, List.find?_eq_none.mpr (fun p hp => by simpa using no p hp)]
    rfl
  · unfold dputK
    rw [hk, if_neg Bool.false_ne_true]
    unfold ksF
    rw [firsts_succ, if_pos h]
    simp
  · unfold dputL
    rw [hk, if_neg Bool.false_ne_true]
    unfold dsF
    rw [firsts_succ, if_pos h, List.map_append]
    congr 1
    · refine List.map_congr_left fun p hp => ?_
      rw [cls_succ, if_neg (fun e => no p hp e.symm)]
    · have : clsF i r i = [] := by
        unfold clsF
        rw [List.filter_eq_nil_iff]
        intro q hq
        simpa using first_iff.mp h q (List.mem_range.mp hq)
      simp [cls_succ, this]
theorem dict_next {i : Nat} (h : ¬ isFirst r i = true) : ∃ p, dgetL (ksF r i) (dsF r i) (.inl (r i : Int)) = some (.lst (nats (clsF i r p))) ∧ dputK (ksF r i) (.inl (r i : Int)) = ksF r (i + 1) ∧ dputL (ksF r i) (dsF r i) (.inl (r i : Int)) (.lst (nats (clsF i r p ++ [i]))) = dsF r (i + 1) := by
  obtain ⟨p, h1, h2, h3⟩ := first_ex (r := r) i
  have hp : p < i := by
    rcases Nat.lt_or_ge p i with q | q
    · exact q
    · have : p = i := by omega
      subst this
      exact absurd h3 h
  have hm : p ∈ firsts r i := mem_firsts.mpr ⟨hp, h3⟩
  have uni : ∀ q ∈ firsts r i, (r q = r i ↔ q = p) := fun q hq => ⟨fun e => first_inj (mem_firsts.mp hq).2 h3 (e.trans h2.symm), fun e => by subst e; exact h2⟩
  have hk : hasK (ksF r i) (.inl (r i : Int)) = true := by
    unfold ksF
    rw [hasK_map, List.any_eq_true]
    exact ⟨p, hm, by simpa using h2⟩
  refine ⟨p, ?_, ?_, ?_⟩
  · unfold ksF dsF
    rw [dgetL_map]
    have : (firsts r i).find? (fun q => decide ((Sum.inl (r q : Int) : Key) = Sum.inl (r i : Int))) = some p := by
      cases e : (firsts r i).find? (fun q => decide ((Sum.inl (r q : Int) : Key) = Sum.inl (r i : Int))) with
      | none =>
        have := List.find?_eq_none.mp e p hm
        simp at this
        exact absurd h2 this
      | some q =>
        have h4 := List.find?_some e
        have h5 := List.mem_of_find?_eq_some e
        simp at h4
        rw [(uni q h5).mp h4]
    rw [this]
    rfl
  · unfold dputK
    rw [hk, if_pos rfl]
    unfold ksF
    rw [firsts_succ, if_neg h]
  · unfold dputL
    rw [hk, if_pos rfl]
    unfold ksF dsF
    rw [dmapL_map, firsts_succ, if_neg h]
    refine List.map_congr_left fun q hq => ?_
    rw [cls_succ]
    by_cases e : r q = r i
    · have := (uni q hq).mp e
      subst this
      rw [if_pos (key_inj.mpr e), if_pos e.symm]
    · rw [if_neg (fun z => e (key_inj.mp z)), if_neg (fun z => e z.symm)]
theorem firsts_map (n : Nat) (r : Nat → Nat) : (firsts r n).map (clsF n r) = canonF n r := by
  rw [canonF_eq]
  unfold firsts
  generalize List.range n = l
  induction l with
  | nil => rfl
  | cons a l ih => by_cases h : isFirst r a = true <;> simp [h, ih]
theorem fits_canon (n : Nat) (r : Nat → Nat) : Fits n (canonF n r) r := by
  refine ⟨fun g hg => ?_, fun g hg i hi => ?_, ?_, fun p q hp hq => ⟨fun e => ?_, fun h => ?_⟩⟩
  · obtain ⟨p, h1, h2, rfl⟩ := mem_canon.mp hg
    obtain ⟨t, e⟩ := cls_cons h1 h2
    rw [e]
    simp
  · obtain ⟨p, h1, h2, rfl⟩ := mem_canon.mp hg
    exact (mem_cls.mp hi).1
  · rw [← firsts_map]
    have nd : (firsts r n).Nodup := List.nodup_range.filter _
    have hf : ∀ p ∈ firsts r n, isFirst r p = true := fun p hp => (mem_firsts.mp hp).2
    generalize firsts r n = l at nd hf
    induction l with
    | nil => simp
    | cons a l ih =>
      obtain ⟨n1, n2⟩ := List.nodup_cons.mp nd
      rw [List.map_cons, List.flatten_cons, List.nodup_append]
      refine ⟨nodup_of_lt cls_sorted, ih n2 fun p hp => hf p (List.mem_cons_of_mem _ hp), fun x hx y hy e => ?_⟩
      subst e
      obtain ⟨g, hg, hx2⟩ := List.mem_flatten.mp hy
      obtain ⟨b, hb, rfl⟩ := List.mem_map.mp hg
      have e1 := (mem_cls.mp hx).2
      have e2 := (mem_cls.mp hx2).2
      have := first_inj (hf a (List.mem_cons_self ..)) (hf b (List.mem_cons_of_mem _ hb)) (e1.symm.trans e2)
      subst this
      exact n1 hb
  · obtain ⟨f, h1, h2, h3⟩ := first_ex (r := r) p
    exact .inr ⟨clsF n r f, mem_canon.mpr ⟨f, by omega, h3, rfl⟩, mem_cls.mpr ⟨hp, h2.symm⟩, mem_cls.mpr ⟨hq, by omega⟩⟩
  · rcases h with rfl | ⟨g, hg, h1, h2⟩
    · rfl
    · obtain ⟨f, _, _, rfl⟩ := mem_canon.mp hg
      have := (mem_cls.mp h1).2
      have := (mem_cls.mp h2).2
      omega
end
section
variable {ws : List W} {μ : M} {P : Res → M → Prop} {Q : W → M → Prop} {xc : Exc → M → Prop}
/-! ### a row's run -/
/-- links and places stand for rooms -/
structure Rl (n : Nat) (hs pl r : List Nat) : Prop where
  len : r.length = n
  iff : ∀ p q, p < n → q < n → (root hs (pl.getD p 0) = root hs (pl.getD q 0) ↔ r.getD p 0 = r.getD q 0)
theorem le_foldl_max {l : List Nat} : ∀ {x a : Nat}, (x ∈ l ∨ x ≤ a) → x ≤ l.foldl max a := by
  induction l with
  | nil => intro x a h; simpa using h
  | cons b l ih =>
    intro x a h
    rw [List.foldl_cons]
    refine ih ?_
    rcases h with h | h
    · rcases List.mem_cons.mp h with rfl | h
      · exact .inr (by omega)
      · exact .inl h
    · exact .inr (by omega)
theorem getD_mem {l : List Nat} {i : Nat} (h : i < l.length) : l.getD i 0 ∈ l := by rw [getD_lt h]; exact List.getElem_mem h
theorem done_len (c : Cm) (r : List Nat) : (doneR c r).length = r.length := by cases c <;> simp [doneR]
theorem do_step {n : Nat} {hs pl r : List Nat} {c : Cm} (h : LpOk n hs pl) (k : Rl n hs pl r) (hc : c.ok n) : LpOk n (doC c hs pl).1 (doC c hs pl).2 ∧ Rl n (doC c hs pl).1 (doC c hs pl).2 (doneR c r) ∧ (doC c hs pl).1.length ≤ hs.length + 1 := by
  obtain ⟨ho, hl, hlt⟩ := h
  have pm : ∀ {i}, i < n → pl.getD i 0 < hs.length := fun {i} hi => hlt _ (getD_mem (by omega))
  cases c with
  | join a b =>
    have ha : a < n := hc a (by simp)
    have hb : b < n := hc b (by simp)
    refine ⟨⟨linkH_ok ho, hl, fun i hi => by rw [doC]; simp only [linkH_len]; exact hlt i hi⟩, ⟨by simp [doneR, k.len], fun p q hp hq => ?_⟩, by simp [doC, linkH_len]⟩
    have e : ∀ p, p < n → (doneR (.join a b) r).getD p 0 = if r.getD p 0 = r.getD b 0 then r.getD a 0 else r.getD p 0 := fun p hp => by
      have hp2 : p < r.length := by rw [k.len]; exact hp
      rw [getD_lt (by simpa [doneR] using hp2), getD_lt hp2]
      simp [doneR]
    simp only [doC]
    rw [linked_iff ho (pm ha) (pm hb), e p hp, e q hq, k.iff p q hp hq, k.iff p a hp ha, k.iff q b hq hb, k.iff p b hp hb, k.iff q a hq ha]
    generalize r.getD p 0 = A
    generalize r.getD q 0 = B
    generalize r.getD a 0 = C
    generalize r.getD b 0 = E
    split <;> split <;> omega
  | free a =>
    have ha : a < n := hc a (by simp)
    have out : ∀ {i}, i < n → root (hs ++ [hs.length]) (pl.getD i 0) < hs.length := fun {i} hi => by rw [root_add ho]; exact root_lt (pm hi)
    have new : root (hs ++ [hs.length]) hs.length = hs.length := by rw [root_add ho]; exact root_out (Nat.le_refl _)
    refine ⟨⟨hsOk_add ho, by simp [doC, hl], fun i hi => ?_⟩, ⟨by simp [doneR, k.len], fun p q hp hq => ?_⟩, by simp [doC]⟩
    · simp only [doC] at hi ⊢
      rw [List.length_append, List.length_singleton]
      rcases List.mem_or_eq_of_mem_set hi with h | rfl
      · have := hlt i h; omega
      · omega
    · simp only [doC, doneR, getD_set, hl, k.len, ha, and_true]
      have mx : ∀ i, i < n → r.getD i 0 ≤ r.foldl max 0 := fun i hi => le_foldl_max (.inl (getD_mem (by rw [k.len]; exact hi)))
      by_cases h1 : a = p <;> by_cases h2 : a = q
      · rw [if_pos h1, if_pos h2, if_pos h1, if_pos h2]; simp
      · rw [if_pos h1, if_neg h2, if_pos h1, if_neg h2, new]
        have := out hq
        have := mx q hq
        constructor <;> intro h <;> omega
      · rw [if_neg h1, if_pos h2, if_neg h1, if_pos h2, new]
        have := out hp
        have := mx p hp
        constructor <;> intro h <;> omega
      · rw [if_neg h1, if_neg h2, if_neg h1, if_neg h2, root_add ho, root_add ho]
        exact k.iff p q hp hq
  | swap a b =>
    have ha : a < n := hc a (by simp)
    have hb : b < n := hc b (by simp)
    refine ⟨⟨ho, by simp [doC, hl], fun i hi => ?_⟩, ⟨by simp [doneR, k.len], fun p q hp hq => ?_⟩, by simp [doC]⟩
    · simp only [doC] at hi ⊢
      rcases List.mem_or_eq_of_mem_set hi with h | rfl
      · rcases List.mem_or_eq_of_mem_set h with h | rfl
        · exact hlt i h
        · exact pm hb
      · exact pm ha
    · have f : ∀ p, p < n → ∃ p', p' < n ∧ (doC (.swap a b) hs pl).2.getD p 0 = pl.getD p' 0 ∧ (doneR (.swap a b) r).getD p 0 = r.getD p' 0 := fun p hp => by
        simp only [doC, doneR, getD_set, List.length_set, hl, k.len, ha, hb, and_true]
        by_cases h1 : b = p
        · exact ⟨a, ha, by simp [h1], by simp [h1]⟩
        · by_cases h2 : a = p
          · exact ⟨b, hb, by simp [h1, h2], by simp [h1, h2]⟩
          · exact ⟨p, hp, by simp [h1, h2], by simp [h1, h2]⟩
      obtain ⟨p', k1, k2, k3⟩ := f p hp
      obtain ⟨q', l1, l2, l3⟩ := f q hq
      rw [k2, k3, l2, l3]
      exact k.iff p' q' k1 l1
  | move a b =>
    have ha : a < n := hc a (by simp)
    have hb : b < n := hc b (by simp)
    refine ⟨⟨ho, by simp [doC, hl], fun i hi => ?_⟩, ⟨by simp [doneR, k.len], fun p q hp hq => ?_⟩, by simp [doC]⟩
    · simp only [doC] at hi ⊢
      rcases List.mem_or_eq_of_mem_set hi with h | rfl
      · exact hlt i h
      · exact pm hb
    · have f : ∀ p, p < n → ∃ p', p' < n ∧ (doC (.move a b) hs pl).2.getD p 0 = pl.getD p' 0 ∧ (doneR (.move a b) r).getD p 0 = r.getD p' 0 := fun p hp => by
        simp only [doC, doneR, getD_set, hl, k.len, ha, and_true]
        by_cases h2 : a = p
        · exact ⟨b, hb, by simp [h2], by simp [h2]⟩
        · exact ⟨p, hp, by simp [h2], by simp [h2]⟩
      obtain ⟨p', k1, k2, k3⟩ := f p hp
      obtain ⟨q', l1, l2, l3⟩ := f q hq
      rw [k2, k3, l2, l3]
      exact k.iff p' q' k1 l1
theorem after_len (cs : List Cm) : ∀ r : List Nat, (afterR cs r).length = r.length := by
  unfold afterR
  induction cs with
  | nil => intro r; rfl
  | cons c cs ih => intro r; rw [List.foldl_cons, ih, done_len]
theorem after_take {cs : List Cm} {c : Cm} {i : Nat} (h : cs[i]? = some c) (r : List Nat) : afterR (cs.take (i + 1)) r = doneR c (afterR (cs.take i) r) := by
  unfold afterR
  rw [List.take_succ, h]
  simp
theorem rounds_succ (cs : List Cm) : ∀ (k : Nat) (r : List Nat), roundsR cs (k + 1) r = afterR cs (roundsR cs k r)
  | 0, r => rfl
  | k + 1, r => rounds_succ cs k (afterR cs r)
theorem rounds_len (cs : List Cm) : ∀ (k : Nat) (r : List Nat), (roundsR cs k r).length = r.length
  | 0, r => rfl
  | k + 1, r => by rw [roundsR, rounds_len cs k, after_len]
end
end DD
namespace DD
open PySem L2 RZ
section
variable {ws : List W} {μ : M} {P : Res → M → Prop} {Q : W → M → Prop} {xc : Exc → M → Prop}
theorem cutL1 {α : Type} (l : List α) : cutL l (some 1) none = l.drop 1 := by
  cases l with
  | nil => rfl
  | cons a l =>
    unfold cutL HT.sIx
    simp
theorem once_links {n : Nat} {r : List Nat} {gs : List (List Nat)} {hs : List Nat} (hg : gs = canonL r) (hl : r.length = n) (h1 : ∀ p q, p < n → q < n → root hs p = root hs q → r.getD p 0 = r.getD q 0)
    (h2 : ∀ g ∈ gs, ∀ x ∈ g, root hs (g.headD 0) = root hs x) : Rl n hs (List.range n) r := by
  have e : ∀ p, p < n → (List.range n).getD p 0 = p := fun p hp => by simp [List.getD_eq_getElem?_getD, List.getElem?_range hp]
  refine ⟨hl, fun p q hp hq => ?_⟩
  rw [e p hp, e q hq]
  refine ⟨h1 p q hp hq, fun h => ?_⟩
  have F := fits_canon n (r.getD · 0)
  rw [canonL, hl] at hg
  rcases (F.eq p q hp hq).mp h with rfl | ⟨g, k1, k2, k3⟩
  · rfl
  · rw [← hg] at k1
    rw [← h2 g k1 p k2, ← h2 g k1 q k3]
/-- what is linked so far -/
structure OI (n : Nat) (r : List Nat) (gs : List (List Nat)) (hs : List Nat) : Prop where
  ok : HsOk hs
  len : hs.length = n
  sound : ∀ p q, p < n → q < n → root hs p = root hs q → r.getD p 0 = r.getD q 0
  all : ∀ g ∈ gs, ∀ x ∈ g, root hs (g.headD 0) = root hs x
theorem oi_link {n : Nat} {r : List Nat} {gs : List (List Nat)} {hs : List Nat} (h : OI n r gs hs) (hl : r.length = n) {t : List Nat} {p q j : Nat} (ht : (p :: t) ∈ canonF n (r.getD · 0)) (hq : t[j]? = some q) (hgs : ∀ g ∈ gs, g ∈ canonF n (r.getD · 0))
    (h3 : ∀ x ∈ t.take j, root hs p = root hs x) : OI n r gs (linkH hs p q) ∧ ∀ x ∈ t.take (j + 1), root (linkH hs p q) p = root (linkH hs p q) x := by
  have F := fits_canon n (r.getD · 0)
  obtain ⟨ho, hlen, s1, s2⟩ := h
  have hpn := F.lt _ ht p (List.mem_cons_self ..)
  have hqm : q ∈ p :: t := List.mem_cons_of_mem _ (List.mem_of_getElem? hq)
  have hqn := F.lt _ ht q hqm
  have same : r.getD p 0 = r.getD q 0 := (F.eq p q hpn hqn).mpr (.inr ⟨_, ht, List.mem_cons_self .., hqm⟩)
  have hpl : p < hs.length := by omega
  have hql : q < hs.length := by omega
  have keep : ∀ x y, root hs x = root hs y → root (linkH hs p q) x = root (linkH hs p q) y := fun x y e => (linked_iff ho hpl hql x y).mpr (.inl e)
  refine ⟨⟨linkH_ok ho, by rw [linkH_len, hlen], fun x y hx hy e => ?_, fun g hg x hx => keep _ _ (s2 g hg x hx)⟩, fun x hx => ?_⟩
  · rcases (linked_iff ho hpl hql x y).mp e with e | ⟨e1, e2⟩ | ⟨e1, e2⟩
    · exact s1 x y hx hy e
    · have k1 := s1 x p hx hpn e1
      have k2 := s1 y q hy hqn e2
      omega
    · have k1 := s1 x q hx hqn e1
      have k2 := s1 y p hy hpn e2
      omega
  · rw [List.take_succ, hq] at hx
    rcases List.mem_append.mp hx with hx | hx
    · exact keep _ _ (h3 x hx)
    · simp at hx
      subst hx
      exact (linked_iff ho hpl hql p x).mpr (.inr (.inl ⟨rfl, rfl⟩))
end
end DD
namespace DD
open PySem L2 RZ
section
variable {ws : List W} {μ : M} {P : Res → M → Prop} {Q : W → M → Prop} {xc : Exc → M → Prop}
theorem cutL0 {α : Type} {l : List α} {i : Nat} (h : i ≤ l.length) : cutL l none (some (i : Int)) = l.take i := by
  unfold cutL HT.sIx
  have : ¬ ((i : Int) < 0) := by omega
  simp [this]
theorem atm1 {α : Type} {a : α} : atI [a] (-1) = some a := rfl
theorem atm2 {α : Type} {a b : α} : atI [a, b] (-1) = some b := rfl
theorem deq_nat {a b : Nat} : deq (nat a) (nat b) = decide (a = b) := by
  show decide ((a : Int) = b) = _
  by_cases h : a = b
  · simp [h]
  · simp [h]
theorem fm_some {α : Type} {k : α → W} {f : W → Option D} {g : α → D} : ∀ {l : List α}, (∀ x ∈ l, f (k x) = some (g x)) → (l.map k).filterMap f = l.map g
  | [], _ => rfl
  | a :: l, h => by
    rw [List.map_cons, List.filterMap_cons, h a (List.mem_cons_self ..), List.map_cons, fm_some fun x hx => h x (List.mem_cons_of_mem _ hx)]
section
variable {mu : Bool} {g : DTG} {tt : DTT} {te : DTE} {vs : List Nat} {ρ : R}
theorem lc_map {α : Type} {s : Src} (l : List α) (kk : α → W) (gg : α → D) (he : s.items = l.map kk) (hok : ∀ acc, s.ok (μ ++ [.lst acc])) (hc : closedB μ.length μ = true) (hz : l.length ≤ sizeLine)
    (hstep : ∀ x ∈ l, ∀ acc (K : D → M → Prop) (N : M → Prop), K (gg x) (μ ++ [.lst acc]) → g (kk x) (wipeR ρ vs) (μ ++ [.lst acc]) fun ρ2 μ2 => tt ρ2 μ2 fun c μ3 => lcE te K N ρ2 c μ3)
    (hQ : if mu then Q (.r μ.length) (μ ++ [.lst (l.map gg)]) else Q (.d (.lst (l.map gg))) μ) : lcB mu s g tt te vs ρ μ Q := by
  refine ⟨fun i acc μ' => μ' = μ ∧ acc = (l.take i).map gg, ⟨rfl, by simp⟩, fun i acc μ' _ h => by rw [h.1]; exact hok acc, fun i w acc μ' e h => ?_, fun acc μ' h => ?_⟩
  · obtain ⟨rfl, rfl⟩ := h
    rw [he, List.getElem?_map] at e
    cases hx : l[i]? with
    | none => rw [hx] at e; cases e
    | some x =>
      rw [hx] at e
      cases e
      have hi := (List.getElem?_eq_some_iff.mp hx).1
      refine ⟨?_, hstep x (List.mem_of_getElem? hx) _ (fun d' μ5 => closeL μ'.length ((l.take i).map gg) μ5 ∧ μ5.dropLast = μ' ∧ (l.take i).map gg ++ [d'] = (l.take (i + 1)).map gg) (fun μ3 => closeL μ'.length ((l.take i).map gg) μ3 ∧ μ3.dropLast = μ' ∧ (l.take i).map gg = (l.take (i + 1)).map gg) ?_⟩
      · rw [List.length_map, List.length_take]
        omega
      · rw [List.take_succ, hx]
        exact ⟨closeL_app.mpr ⟨rfl, rfl, hc⟩, by simp, by simp⟩
  · obtain ⟨rfl, rfl⟩ := h
    rw [he, List.length_map, List.take_length]
    exact hQ
end
theorem okD_tups (j : Nat) (gs : List (List Nat)) : okD (j + 2) (tupsN gs) = true := by
  unfold tupsN
  simp only [okD, okDs_all, List.all_eq_true]
  intro d hd
  obtain ⟨g, _, rfl⟩ := List.mem_map.mp hd
  simp only [okD]
  exact okDs_nats g
end
/-- what chains of links connect -/
def Conn (ls : List (Nat × Nat)) (a b : Nat) : Prop := ∀ g : Nat → Nat, (∀ p ∈ ls, g p.1 = g p.2) → g a = g b
section
variable {n : Nat} {r : Nat → Nat}
def dsT (r : Nat → Nat) (i : Nat) : List D := (firsts r i).map fun p => .tup (nats (clsF i r p))
theorem dictT_first {i : Nat} (h : isFirst r i = true) : dgetL (ksF r i) (dsT r i) (.inl (r i : Int)) = none ∧ dputK (ksF r i) (.inl (r i : Int)) = ksF r (i + 1) ∧ dputL (ksF r i) (dsT r i) (.inl (r i : Int)) (.tup (nats [i])) = dsT r (i + 1) := by
  have no : ∀ p ∈ firsts r i, ¬ r p = r i := fun p hp e => first_iff.mp h p (mem_firsts.mp hp).1 e
  have hk : hasK (ksF r i) (.inl (r i : Int)) = false := by
    unfold ksF
    rw [hasK_map, List.any_eq_false]
    intro p hp
    simpa using no p hp
  refine ⟨?_, ?_, ?_⟩
  · unfold ksF dsT
    rw [dgetL_map, List.find?_eq_none.mpr (fun p hp => by simpa using no p hp)]
    rfl
  · unfold dputK
    rw [hk, if_neg Bool.false_ne_true]
    unfold ksF
    rw [firsts_succ, if_pos h]
    simp
  · unfold dputL
    rw [hk, if_neg Bool.false_ne_true]
    unfold dsT
    rw [firsts_succ, if_pos h, List.map_append]
    congr 1
    · refine List.map_congr_left fun p hp => ?_
      rw [cls_succ, if_neg (fun e => no p hp e.symm)]
    · have : clsF i r i = [] := by
        unfold clsF
        rw [List.filter_eq_nil_iff]
        intro q hq
        simpa using first_iff.mp h q (List.mem_range.mp hq)
      simp [cls_succ, this]
theorem dictT_next {i : Nat} (h : ¬ isFirst r i = true) : ∃ p, dgetL (ksF r i) (dsT r i) (.inl (r i : Int)) = some (.tup (nats (clsF i r p))) ∧ dputK (ksF r i) (.inl (r i : Int)) = ksF r (i + 1) ∧ dputL (ksF r i) (dsT r i) (.inl (r i : Int)) (.tup (nats (clsF i r p ++ [i]))) = dsT r (i + 1) := by
  obtain ⟨p, h1, h2, h3⟩ := first_ex (r := r) i
  have hp : p < i := by
    rcases Nat.lt_or_ge p i with q | q
    · exact q
    · have : p = i := by omega
      subst this
      exact absurd h3 h
  have hm : p ∈ firsts r i := mem_firsts.mpr ⟨hp, h3⟩
  have uni : ∀ q ∈ firsts r i, (r q = r i ↔ q = p) := fun q hq => ⟨fun e => first_inj (mem_firsts.mp hq).2 h3 (e.trans h2.symm), fun e => by subst e; exact h2⟩
  have hk : hasK (ksF r i) (.inl (r i : Int)) = true := by
    unfold ksF
    rw [hasK_map, List.any_eq_true]
    exact ⟨p, hm, by simpa using h2⟩
  refine ⟨p, ?_, ?_, ?_⟩
  · unfold ksF dsT
    rw [dgetL_map]
    have : (firsts r i).find? (fun q => decide ((Sum.inl (r q : Int) : Key) = Sum.inl (r i : Int))) = some p := by
      cases e : (firsts r i).find? (fun q => decide ((Sum.inl (r q : Int) : Key) = Sum.inl (r i : Int))) with
      | none =>
        have := List.find?_eq_none.mp e p hm
        simp at this
        exact absurd h2 this
      | some q =>
        have h4 := List.find?_some e
        have h5 := List.mem_of_find?_eq_some e
        simp at h4
        rw [(uni q h5).mp h4]
    rw [this]
    rfl
  · unfold dputK
    rw [hk, if_pos rfl]
    unfold ksF
    rw [firsts_succ, if_neg h]
  · unfold dputL
    rw [hk, if_pos rfl]
    unfold ksF dsT
    rw [dmapL_map, firsts_succ, if_neg h]
    refine List.map_congr_left fun q hq => ?_
    rw [cls_succ]
    by_cases e : r q = r i
    · have := (uni q hq).mp e
      subst this
      rw [if_pos (key_inj.mpr e), if_pos e.symm]
    · rw [if_neg (fun z => e (key_inj.mp z)), if_neg (fun z => e z.symm)]
end
/-! ### chains of links -/
structure CI (hs : List Nat) (ls : List (Nat × Nat)) : Prop where
  ok : HsOk hs
  con : ∀ a b, root hs a = root hs b ↔ Conn ls a b
  bd : ∀ p ∈ ls, p.1 < hs.length ∧ p.2 < hs.length
theorem ci_range (n : Nat) : CI (List.range n) [] := ⟨hsOk_range n, fun a b => by
  rw [root_range, root_range]
  exact ⟨fun h g _ => by rw [h], fun h => h id (by simp)⟩, by simp⟩
theorem ci_link {hs : List Nat} {ls : List (Nat × Nat)} (h : CI hs ls) {x y : Nat} (hx : x < hs.length) (hy : y < hs.length) : CI (linkH hs x y) (ls ++ [(x, y)]) := by
  refine ⟨linkH_ok h.ok, fun a b => ?_, fun p hp => ?_⟩
  · have L := linked_iff h.ok hx hy
    constructor
    · intro e g hg
      have old : ∀ u v, root hs u = root hs v → g u = g v := fun u v e => (h.con u v).mp e g fun p hp => hg p (List.mem_append.mpr (.inl hp))
      have new : g x = g y := hg (x, y) (List.mem_append.mpr (.inr (List.mem_singleton.mpr rfl)))
      rcases (L a b).mp e with e | ⟨e1, e2⟩ | ⟨e1, e2⟩
      · exact old _ _ e
      · rw [old _ _ e1, old _ _ e2, new]
      · rw [old _ _ e1, old _ _ e2, new]
    · intro c
      refine c (root (linkH hs x y)) fun p hp => ?_
      rcases List.mem_append.mp hp with hp | hp
      · exact (L _ _).mpr (.inl ((h.con _ _).mpr fun g hg => hg p hp))
      · simp at hp
        subst hp
        exact (L _ _).mpr (.inr (.inl ⟨rfl, rfl⟩))
  · rw [linkH_len]
    rcases List.mem_append.mp hp with hp | hp
    · exact h.bd p hp
    · simp at hp
      subst hp
      exact ⟨hx, hy⟩
theorem ci_add {hs : List Nat} {ls : List (Nat × Nat)} (h : CI hs ls) : CI (hs ++ [hs.length]) ls := by
  refine ⟨hsOk_add h.ok, fun a b => by rw [root_add h.ok, root_add h.ok]; exact h.con a b, fun p hp => ?_⟩
  have := h.bd p hp
  rw [List.length_append, List.length_singleton]
  omega
theorem ci_many : ∀ (ms : List (Nat × Nat)) {hs : List Nat} {ls : List (Nat × Nat)}, CI hs ls → (∀ p ∈ ms, p.1 < hs.length ∧ p.2 < hs.length) → ∃ hs', CI hs' (ls ++ ms) ∧ hs'.length = hs.length
  | [], hs, ls, h, _ => ⟨hs, by simpa using h, rfl⟩
  | (x, y) :: ms, hs, ls, h, hb => by
    obtain ⟨h1, h2⟩ := hb (x, y) (List.mem_cons_self ..)
    obtain ⟨hs', c, e⟩ := ci_many ms (ci_link h h1 h2) fun p hp => by rw [linkH_len]; exact hb p (List.mem_cons_of_mem _ hp)
    exact ⟨hs', by simpa using c, by rw [e, linkH_len]⟩
def ls0 (gs : List (List Nat)) : List (Nat × Nat) := gs.flatMap fun g => g.map fun k => (g.headD 0, k)
theorem head_mem {g : List Nat} (h : g ≠ []) (d : Nat) : g.headD d ∈ g := by
  cases g with
  | nil => exact absurd rfl h
  | cons a g => simp
theorem deqs_natsN (l : List Nat) : deqs (nats l) (nats l) = true := by
  induction l with
  | nil => rfl
  | cons a l ih => rw [nats_cons, deqs, deq_nat, ih]; simp
theorem deq_tupsN (gs : List (List Nat)) : deq (tupsN gs) (tupsN gs) = true := by
  unfold tupsN
  rw [deq]
  induction gs with
  | nil => rfl
  | cons g gs ih => rw [List.map_cons, deqs, deq, deqs_natsN, ih]; rfl
/-! ### pictures -/
theorem zip_fst : ∀ {α β : Type} {xs : List α} {ps : List β}, xs.length = ps.length → (xs.zip ps).map (·.1) = xs
  | _, _, [], [], _ => rfl
  | _, _, _ :: xs, _ :: ps, h => by simp [zip_fst (xs := xs) (ps := ps) (by simpa using h)]
  | _, _, [], _ :: _, h => by simp at h
  | _, _, _ :: _, [], h => by simp at h
theorem pairsN_len : ∀ {xs : List D} {C : List (List Nat × List Nat)}, PairsN xs C → xs.length = C.length
  | [], [], _ => rfl
  | _ :: _, _ :: _, h => by simp [pairsN_len h.2]
  | [], _ :: _, h => h.elim
  | _ :: _, [], h => h.elim
theorem pairsN_mem : ∀ {xs : List D} {C : List (List Nat × List Nat)}, PairsN xs C → ∀ z ∈ xs.zip C, ∃ a b, z.1 = .tup [a, b] ∧ SeqN a z.2.1 ∧ SeqN b z.2.2
  | [], [], _, z, hz => by cases hz
  | x :: xs, c :: C, h, z, hz => by
    rw [List.zip_cons_cons] at hz
    rcases List.mem_cons.mp hz with rfl | hz
    · exact h.1
    · exact pairsN_mem h.2 z hz
  | [], _ :: _, h, _, _ => h.elim
  | _ :: _, [], h, _, _ => h.elim
theorem pairsN_map {α : Type} (k1 k2 : α → D) (c : α → List Nat × List Nat) (h : ∀ x, SeqN (k1 x) (c x).1 ∧ SeqN (k2 x) (c x).2) : ∀ l : List α, PairsN (l.map fun x => .tup [k1 x, k2 x]) (l.map c)
  | [] => trivial
  | x :: l => ⟨⟨_, _, rfl, h x⟩, pairsN_map k1 k2 c h l⟩
theorem seqsN_lists : ∀ gs : List (List Nat), SeqsN (gs.map fun g => .lst (nats g)) gs
  | [] => trivial
  | g :: gs => ⟨.inl rfl, seqsN_lists gs⟩
theorem seqsN_tups : ∀ gs : List (List Nat), SeqsN (gs.map fun g => .tup (nats g)) gs
  | [] => trivial
  | g :: gs => ⟨.inr rfl, seqsN_tups gs⟩
theorem sortN_id {l : List Nat} (h : l.Pairwise (· < ·)) : sortN l = l := (sortN_uniq (List.Perm.refl l) (h.imp fun h => by omega)).symm
theorem sorted_heads {gs : List (List Nat)} (h1 : ∀ g ∈ gs, g.Pairwise (· < ·)) (h2 : gs.Pairwise fun a b => ∃ x t y u, a = x :: t ∧ b = y :: u ∧ x < y) : (sortG (gs.map fun g => zI (sortN g))).map tints = gs.map fun g => .tup (nats g) := by
  have e1 : (gs.map fun g => zI (sortN g)) = gs.map zI := List.map_congr_left fun g hg => by rw [sortN_id (h1 g hg)]
  have e2 : (gs.map zI).Pairwise fun a b => lexI b a = false := by
    rw [List.pairwise_map]
    refine h2.imp ?_
    rintro a b ⟨x, t, y, u, rfl, rfl, h⟩
    have h1 : ¬ (y : Int) = x := by omega
    have h2 : ¬ (y : Int) < x := by omega
    simp [zI, lexI, h1, h2]
  rw [e1, ← sortG_uniq (List.Perm.refl _) e2, List.map_map]
  exact List.map_congr_left fun g _ => tints_zI g
section
variable {n : Nat} {f : Nat → Nat}
theorem picC_eq : picC n f = (firsts f n).map fun p => (clsF n f p, (List.range n).filter fun q => f (n + q) == f p) := rfl
theorem picX_eq : picX n f = ((List.range n).filter fun p => isFirst f (n + p)).map fun p => (List.range n).filter fun q => f (n + q) == f (n + p) := rfl
theorem picC_heads : HeadsLt (picC n f) := by
  unfold HeadsLt
  rw [picC_eq, List.pairwise_map]
  have h : (firsts f n).Pairwise (· < ·) := List.pairwise_lt_range.filter _
  refine h.imp_of_mem fun {p q} hp hq hpq => ?_
  obtain ⟨hp1, hp2⟩ := mem_firsts.mp hp
  obtain ⟨hq1, hq2⟩ := mem_firsts.mp hq
  obtain ⟨t, e1⟩ := cls_cons hp1 hp2
  obtain ⟨u, e2⟩ := cls_cons hq1 hq2
  exact ⟨p, t, q, u, e1, e2, hpq⟩
theorem filt_sorted {c : Nat → Bool} : ((List.range n).filter c).Pairwise (· < ·) := List.pairwise_lt_range.filter _
theorem picC_sorted : (picC n f).map (fun c => (sortN c.1, sortN c.2)) = picC n f := by
  refine (List.map_congr_left fun c hc => ?_).trans (List.map_id _)
  rw [picC_eq] at hc
  obtain ⟨p, _, rfl⟩ := List.mem_map.mp hc
  show (sortN _, sortN _) = _
  rw [sortN_id cls_sorted, sortN_id filt_sorted]
  rfl
theorem starts_cons {p : Nat} (hp : p < n) (hf : ∀ q, q < p → f (n + q) ≠ f (n + p)) : ∃ t, ((List.range n).filter fun q => f (n + q) == f (n + p)) = p :: t := by
  have := cls_cons (r := fun q => f (n + q)) hp (first_iff.mpr hf)
  exact this
theorem mem_deads {p : Nat} : p ∈ ((List.range n).filter fun p => isFirst f (n + p)) ↔ p < n ∧ isFirst f (n + p) = true := by simp
theorem picX_heads : (picX n f).Pairwise fun a b => ∃ x t y u, a = x :: t ∧ b = y :: u ∧ x < y := by
  rw [picX_eq, List.pairwise_map]
  refine filt_sorted.imp_of_mem fun {p q} hp hq hpq => ?_
  obtain ⟨hp1, hp2⟩ := mem_deads.mp hp
  obtain ⟨hq1, hq2⟩ := mem_deads.mp hq
  obtain ⟨t, e1⟩ := starts_cons (f := f) hp1 fun q hq e => first_iff.mp hp2 (n + q) (by omega) e
  obtain ⟨u, e2⟩ := starts_cons (f := f) hq1 fun q hq e => first_iff.mp hq2 (n + q) (by omega) e
  exact ⟨p, t, q, u, e1, e2, hpq⟩
theorem picX_each : ∀ g ∈ picX n f, g.Pairwise (· < ·) := fun g hg => by
  rw [picX_eq] at hg
  obtain ⟨p, _, rfl⟩ := List.mem_map.mp hg
  exact filt_sorted
theorem picX_ne : ∀ g ∈ picX n f, g ≠ [] := fun g hg => by
  rw [picX_eq] at hg
  obtain ⟨p, hp, rfl⟩ := List.mem_map.mp hg
  obtain ⟨hp1, hp2⟩ := mem_deads.mp hp
  obtain ⟨t, e1⟩ := starts_cons (f := f) hp1 fun q hq e => first_iff.mp hp2 (n + q) (by omega) e
  rw [e1]
  simp
theorem filt_len {c : Nat → Bool} : ((List.range n).filter c).length ≤ n := by
  have := List.length_filter_le c (List.range n)
  rwa [List.length_range] at this
theorem picC_len : (picC n f).length ≤ n := by
  rw [picC_eq, List.length_map]
  exact filt_len
theorem picX_len : (picX n f).length ≤ n := by
  rw [picX_eq, List.length_map]
  exact filt_len
/-- pictures of the same rooms -/
theorem pict_congr {g : Nat → Nat} (h : ∀ p q, p < n + n → q < n + n → (f p = f q ↔ g p = g q)) : picC n f = picC n g ∧ picX n f = picX n g := by
  have be : ∀ p q, p < n + n → q < n + n → (f p == f q) = (g p == g q) := fun p q hp hq => by
    have := h p q hp hq
    by_cases e : f p = f q
    · rw [e, this.mp e]; simp
    · have e2 : ¬ g p = g q := fun z => e (this.mpr z)
      rw [show (f p == f q) = false by simpa using e, show (g p == g q) = false by simpa using e2]
  have fe : ∀ p, p < n + n → isFirst f p = isFirst g p := fun p hp => by
    rw [Bool.eq_iff_iff, first_iff, first_iff]
    exact ⟨fun k q hq e => k q hq ((h q p (by omega) hp).mpr e), fun k q hq e => k q hq ((h q p (by omega) hp).mp e)⟩
  constructor
  · have e1 : firsts f n = firsts g n := List.filter_congr fun p hp => fe p (by have := List.mem_range.mp hp; omega)
    rw [picC_eq, picC_eq, e1]
    refine List.map_congr_left fun p hp => ?_
    have hp := (mem_firsts.mp hp).1
    refine Prod.ext ?_ ?_
    · exact List.filter_congr fun q hq => be q p (by have := List.mem_range.mp hq; omega) (by omega)
    · exact List.filter_congr fun q hq => be (n + q) p (by have := List.mem_range.mp hq; omega) (by omega)
  · have e1 : ((List.range n).filter fun p => isFirst f (n + p)) = (List.range n).filter fun p => isFirst g (n + p) := List.filter_congr fun p hp => fe (n + p) (by have := List.mem_range.mp hp; omega)
    rw [picX_eq, picX_eq, e1]
    refine List.map_congr_left fun p hp => ?_
    have hp := (mem_deads.mp hp).1
    exact List.filter_congr fun q hq => be (n + q) (n + p) (by have := List.mem_range.mp hq; omega) (by omega)
end
section
variable {ws : List W} {μ : M} {P : Res → M → Prop} {Q : W → M → Prop} {xc : Exc → M → Prop}
section
variable {mu : Bool} {g : DTG} {tt : DTT} {te : DTE} {vs : List Nat} {ρ : R}
theorem lc_mapF {α : Type} {s : Src} (l : List α) (kk : α → W) (c : α → Bool) (gg : α → D) (he : s.items = l.map kk) (hok : ∀ acc, s.ok (μ ++ [.lst acc])) (hc : closedB μ.length μ = true) (hz : l.length ≤ sizeLine)
    (hstep : ∀ x ∈ l, ∀ acc (K : D → M → Prop) (N : M → Prop), (if c x = true then K (gg x) (μ ++ [.lst acc]) else N (μ ++ [.lst acc])) → g (kk x) (wipeR ρ vs) (μ ++ [.lst acc]) fun ρ2 μ2 => tt ρ2 μ2 fun c μ3 => lcE te K N ρ2 c μ3)
    (hQ : if mu then Q (.r μ.length) (μ ++ [.lst ((l.filter c).map gg)]) else Q (.d (.lst ((l.filter c).map gg))) μ) : lcB mu s g tt te vs ρ μ Q := by
  refine ⟨fun i acc μ' => μ' = μ ∧ acc = ((l.take i).filter c).map gg, ⟨rfl, by simp⟩, fun i acc μ' _ h => by rw [h.1]; exact hok acc, fun i w acc μ' e h => ?_, fun acc μ' h => ?_⟩
  · obtain ⟨rfl, rfl⟩ := h
    rw [he, List.getElem?_map] at e
    cases hx : l[i]? with
    | none => rw [hx] at e; cases e
    | some x =>
      rw [hx] at e
      cases e
      have hi := (List.getElem?_eq_some_iff.mp hx).1
      have hle : ((l.take i).filter c).length ≤ i := Nat.le_trans (List.length_filter_le _ _) (by rw [List.length_take]; omega)
      refine ⟨by rw [List.length_map]; omega, hstep x (List.mem_of_getElem? hx) _ (fun d' μ5 => closeL μ'.length (((l.take i).filter c).map gg) μ5 ∧ μ5.dropLast = μ' ∧ ((l.take i).filter c).map gg ++ [d'] = ((l.take (i + 1)).filter c).map gg) (fun μ3 => closeL μ'.length (((l.take i).filter c).map gg) μ3 ∧ μ3.dropLast = μ' ∧ ((l.take i).filter c).map gg = ((l.take (i + 1)).filter c).map gg) ?_⟩
      rw [List.take_succ, hx]
      by_cases hcx : c x = true
      · rw [if_pos hcx]
        exact ⟨closeL_app.mpr ⟨rfl, rfl, hc⟩, by simp, by simp [List.filter_append, hcx]⟩
      · rw [if_neg hcx]
        exact ⟨closeL_app.mpr ⟨rfl, rfl, hc⟩, by simp, by simp [List.filter_append, hcx]⟩
  · obtain ⟨rfl, rfl⟩ := h
    rw [he, List.length_map, List.take_length]
    exact hQ
end
theorem wp_Picture_init (h : S_Picture ws μ P) : t_Picture_init (xcOf μ.length P) (endsOf .d μ.length P) (ws.map some ++ List.replicate (5 - ws.length) none) μ := by
  obtain ⟨ds, rfl, hl, rfl, xs, C, m, ys, gs, rfl, hx, hy, hne, ⟨hCl, hgl⟩, hm, hh, hP⟩ := h
  have hxl := pairsN_len hx
  simp [-dSeq, t_Picture_init]
  rw [dSeq]
  simp [-dSeq, dLc_eq]
  refine lc_map (xs.zip C) (fun z => W.d z.1) (fun z => pairT (sortN z.2.1, sortN z.2.2)) ?_ (fun _ => trivial) (by rfl) (by simp; omega) (fun z hz acc K N hK => ?_) ?_
  · show xs.map W.d = (xs.zip C).map fun z => W.d z.1
    conv => lhs; rw [← zip_fst hxl]
    rw [List.map_map]
    rfl
  · obtain ⟨a, b, e, ha, hb⟩ := pairsN_mem hx z hz
    rw [e]
    rcases ha with rfl | rfl <;> rcases hb with rfl | rfl
    all_goals
      simp [fSortI]
      refine ⟨zI z.2.1, nats_zI _, zI z.2.2, nats_zI _, ?_⟩
      simpa [lints, pairT, sortI_zI, ← nats_zI] using hK
  · rw [if_neg Bool.false_ne_true]
    have e : (xs.zip C).map (fun z => pairT (sortN z.2.1, sortN z.2.2)) = (C.map fun c => (sortN c.1, sortN c.2)).map pairT := by
      have := zip_snd hxl
      rw [List.map_map]
      conv => rhs; rw [← this]
      rw [List.map_map]
      rfl
    rw [e]
    simp [-List.map_map]
    refine sortD_pairs hm hh ?_
    simp [F_sorted_groups]
    exact ⟨gs, hy, hne, hgl, by simpa using hP⟩

/-- what a dict that collects by rooms holds for a room -/
theorem dget_cls {r : Nat → Nat} {n v : Nat} : (dgetL (ksF r n) (dsF r n) (.inl (v : Int)) = none ∧ ((List.range n).filter fun q => r q == v) = []) ∨ dgetL (ksF r n) (dsF r n) (.inl (v : Int)) = some (.lst (nats ((List.range n).filter fun q => r q == v))) := by
  unfold ksF dsF
  rw [dgetL_map]
  cases e : (firsts r n).find? (fun q => decide ((Sum.inl (r q : Int) : Key) = Sum.inl (v : Int))) with
  | none =>
    refine .inl ⟨rfl, ?_⟩
    rw [List.filter_eq_nil_iff]
    intro q hq hv
    have hv : r q = v := by simpa using hv
    obtain ⟨p, h1, h2, h3⟩ := first_ex (r := r) q
    have := List.find?_eq_none.mp e p (mem_firsts.mpr ⟨by have := List.mem_range.mp hq; omega, h3⟩)
    simp at this
    omega
  | some p =>
    have h4 := List.find?_some e
    simp at h4
    refine .inr ?_
    subst h4
    rfl
theorem hasK_firsts {r : Nat → Nat} {n v : Nat} : hasK (ksF r n) (.inl (v : Int)) = (List.range n).any fun q => r q == v := by
  unfold ksF
  rw [hasK_map, Bool.eq_iff_iff, List.any_eq_true, List.any_eq_true]
  constructor
  · rintro ⟨p, hp, h⟩
    exact ⟨p, List.mem_range.mpr (mem_firsts.mp hp).1, by simpa using h⟩
  · rintro ⟨q, hq, h⟩
    obtain ⟨p, h1, h2, h3⟩ := first_ex (r := r) q
    have hq := List.mem_range.mp hq
    exact ⟨p, mem_firsts.mpr ⟨by omega, h3⟩, by simp at h ⊢; omega⟩
theorem items_dict (r : Nat → Nat) (n : Nat) : itemsD (ksF r n) (dsF r n) = (firsts r n).map fun p => W.d (.tup [nat (r p), .lst (nats (clsF n r p))]) := by
  unfold itemsD ksF dsF
  rw [List.zip_map', List.map_map]
  rfl
theorem firsts_len (r : Nat → Nat) (n : Nat) : (firsts r n).length ≤ n := filt_len
theorem closed_lk {hs pl : List Nat} {a b : Cell} (ha : closedC 5 a = true) (hb : closedC 5 b = true) : closedB 5 (lkC hs ++ [.lst (nats pl), a, b]) = true := by
  simp [closedB, closedC] at ha hb ⊢
  exact ⟨ha, hb⟩
theorem wp_picture_of (h : S_picture_of ws μ P) : t_picture_of (xcOf μ.length P) (endsOf .d μ.length P) (ws.map some ++ List.replicate (11 - ws.length) none) μ := by
  obtain ⟨n, hs, pl, rfl, rfl, ⟨ho, hl, hlt⟩, hnh, ⟨hn1, hn2⟩, hP⟩ := h
  generalize hr : (fun p => root hs (pl.getD p 0)) = r
  have hrr : ∀ i, r i = root hs (pl.getD i 0) := fun i => by rw [← hr]
  generalize hq : (fun p => root hs p) = s
  have hss : ∀ i, s i = root hs i := fun i => by rw [← hq]
  have flen : ∀ (r : Nat → Nat) i, (ksF r i).length ≤ i := fun r i => by
    unfold ksF
    rw [List.length_map]
    exact firsts_len r i
  have flen2 : ∀ (r : Nat → Nat) i, (dsF r i).length ≤ i := fun r i => by
    unfold dsF
    rw [List.length_map]
    exact firsts_len r i
  simp [-dSeq, t_picture_of]
  rw [dSeq]
  simp [-dSeq]
  rw [dSeq, dFor_eq]
  simp [-dSeq]
  refine ⟨by omega, ?_⟩
  refine ⟨fun i ρ' μ' => (∃ a b c d e f, ρ' = [some (.d (nat n)), some (.r 0), some (.r 2), some (.r 3), some (.r 4), a, b, c, d, e, f]) ∧ μ' = lkC hs ++ [.lst (nats pl), .dic (ksF r i) (dsF r i), .dic (ksF s i) (dsF s i)], ⟨⟨_, _, _, _, _, _, rfl⟩, by simp [ksF, dsF, firsts]⟩, fun _ _ _ _ _ => trivial, fun i w ρ' μ' e h => ?_, fun ρ' μ' h => ?_⟩
  · obtain ⟨⟨a, b, c, d, e', f, rfl⟩, rfl⟩ := h
    have hi := (List.getElem?_eq_some_iff.mp e).1
    simp [rng] at hi
    simp [rng, hi] at e
    subst e
    have hi2 : i < pl.length := by omega
    have g1 := getD_lt hi2
    have g2 := hlt _ (List.getElem_mem hi2)
    have hri : root hs pl[i] = r i := by rw [hrr, g1]
    have hsi : root hs i = s i := by rw [hss]
    have hih : i < hs.length := by omega
    simp [-dSeq]
    rw [dSeq]
    simp [-dSeq, atI_nats hi2, F_Links_head, g2, hih, ho, and_assoc, hri, hsi]
    rw [dSeq]
    simp [-dSeq]
    have l1 := flen r i
    have l2 := flen s i
    have cl : ∀ (r : Nat → Nat) p, (clsF i r p).length ≤ i := fun r p => filt_len
    by_cases hf : isFirst r i = true
    · obtain ⟨d1, d2, d3⟩ := dict_first hf
      rw [d1]
      by_cases hf2 : isFirst s i = true
      · obtain ⟨c1, c2, c3⟩ := dict_first hf2
        rw [c1]
        exact ⟨by omega, by omega, ⟨d2, d3⟩, c2, c3⟩
      · obtain ⟨p2, c1, c2, c3⟩ := dict_next hf2
        rw [c1]
        have := cl s p2
        simp
        exact ⟨by omega, by omega, by omega, ⟨d2, d3⟩, c2, c3⟩
    · obtain ⟨p, d1, d2, d3⟩ := dict_next hf
      rw [d1]
      have := cl r p
      by_cases hf2 : isFirst s i = true
      · obtain ⟨c1, c2, c3⟩ := dict_first hf2
        rw [c1]
        simp
        exact ⟨by omega, by omega, by omega, ⟨d2, d3⟩, c2, c3⟩
      · obtain ⟨p2, c1, c2, c3⟩ := dict_next hf2
        rw [c1]
        have := cl s p2
        simp
        exact ⟨by omega, by omega, by omega, by omega, ⟨d2, d3⟩, c2, c3⟩
  · obtain ⟨⟨a, b, c, d, e', f, rfl⟩, rfl⟩ := h
    simp [-dSeq, rng]
    rw [dSeq]
    simp only [dDLockS]
    refine ⟨3, ksF r n, dsF r n, rfl, by simp, ?_⟩
    simp [-dSeq, dLc_eq]
    refine lc_map (firsts r n) (fun p => W.d (.tup [nat (r p), .lst (nats (clsF n r p))])) (fun p => .tup [.lst (nats (clsF n r p)), .lst (nats ((List.range n).filter fun q => s q == r p))]) (items_dict r n) (fun _ => trivial) (by simp [closedB, closedC, dead]) (by have := firsts_len r n; have : sizeLine = 16777216 := rfl; omega) (fun p hp acc K N hK => ?_) ?_
    · simp [dead]
      rcases dget_cls (r := s) (n := n) (v := r p) with ⟨e1, e2⟩ | e1
      · rw [e1]
        rw [e2] at hK
        simpa [dead] using hK
      · rw [e1]
        simpa [dead] using hK
    · rw [if_neg Bool.false_ne_true]
      refine ⟨by simp, ?_⟩
      simp only [dDLock]
      refine ⟨4, ksF s n, dsF s n, rfl, by simp, ?_⟩
      simp [-dSeq, dLc_eq]
      refine lc_mapF (firsts s n) (fun p => W.d (.tup [nat (s p), .lst (nats (clsF n s p))])) (fun p => !((List.range n).any fun q => r q == s p)) (fun p => .lst (nats (clsF n s p))) (items_dict s n) (fun _ => trivial) (by simp [closedB, closedC, dead]) (by have := firsts_len s n; have : sizeLine = 16777216 := rfl; omega) (fun p hp acc K N hK => ?_) ?_
      · simp [dead, hasK_firsts] at hK ⊢
        exact hK
      · rw [if_neg Bool.false_ne_true]
        simp [dead]
        have f1 : ∀ i, i < n → pf n hs pl i = r i := fun i hi => by
          unfold pf
          rw [hrr, List.getD_eq_getElem?_getD, List.getElem?_append_left (by omega), ← List.getD_eq_getElem?_getD]
        have f2 : ∀ i, i < n → pf n hs pl (n + i) = s i := fun i hi => by
          unfold pf
          rw [hss, List.getD_eq_getElem?_getD, List.getElem?_append_right (by omega), hl, show n + i - n = i by omega, List.getElem?_range hi]
          rfl
        generalize pf n hs pl = f at f1 f2 hP
        have eC : ((firsts r n).map fun p => (clsF n r p, (List.range n).filter fun q => s q == r p)) = picC n f := by
          rw [picC_eq]
          have e1 : firsts r n = firsts f n := List.filter_congr fun p hp => by
            have hp := List.mem_range.mp hp
            rw [Bool.eq_iff_iff, first_iff, first_iff]
            exact ⟨fun k q hq => by rw [f1 q (by omega), f1 p hp]; exact k q hq, fun k q hq => by rw [← f1 q (by omega), ← f1 p hp]; exact k q hq⟩
          rw [e1]
          refine List.map_congr_left fun p hp => ?_
          have hp := (mem_firsts.mp hp).1
          refine Prod.ext ?_ ?_
          · exact List.filter_congr fun q hq => by rw [f1 q (List.mem_range.mp hq), f1 p hp]
          · exact List.filter_congr fun q hq => by rw [f2 q (List.mem_range.mp hq), f1 p hp]
        have eX : ((firsts s n).filter fun p => !(List.range n).any fun q => r q == s p).map (clsF n s) = picX n f := by
          rw [picX_eq]
          have e1 : ((firsts s n).filter fun p => !(List.range n).any fun q => r q == s p) = (List.range n).filter fun p => isFirst f (n + p) := by
            unfold firsts
            rw [List.filter_filter]
            refine List.filter_congr fun p hp => ?_
            have hp := List.mem_range.mp hp
            rw [Bool.eq_iff_iff, first_iff, Bool.and_eq_true, first_iff, f2 p hp]
            simp
            constructor
            · rintro ⟨k1, k2⟩ q hq
              by_cases hqn : q < n
              · rw [f1 q hqn]; exact k1 q hqn
              · obtain ⟨j, rfl⟩ : ∃ j, q = n + j := ⟨q - n, by omega⟩
                rw [f2 j (by omega)]
                exact k2 j (by omega)
            · intro k
              exact ⟨fun q hq => by rw [← f1 q hq]; exact k q (by omega), fun q hq => by rw [← f2 q (by omega)]; exact k (n + q) (by omega)⟩
          rw [e1]
          refine List.map_congr_left fun p hp => ?_
          have hp := (mem_deads.mp hp).1
          exact List.filter_congr fun q hq => by rw [f2 q (List.mem_range.mp hq), f2 p hp]
        refine ⟨_, picC n f, picC n f, _, picX n f, rfl, ?_, ?_, picX_ne, ⟨by have := picC_len (n := n) (f := f); omega, by have := picX_len (n := n) (f := f); omega⟩, ?_, picC_heads, ?_⟩
        · rw [← eC]
          exact pairsN_map (fun p => .lst (nats (clsF n r p))) (fun p => .lst (nats ((List.range n).filter fun q => s q == r p))) (fun p => (clsF n r p, (List.range n).filter fun q => s q == r p)) (fun p => ⟨.inl rfl, .inl rfl⟩) _
        · rw [← eX]
          have := seqsN_lists (((firsts s n).filter fun p => !(List.range n).any fun q => r q == s p).map (clsF n s))
          rwa [List.map_map] at this
        · rw [picC_sorted]
        · rw [sorted_heads picX_each picX_heads]
          simpa [pictD, picT, tupsN] using hP
theorem getD_app {l s : List Nat} {i d : Nat} (h : i < l.length) : (l ++ s).getD i d = l.getD i d := by
  rw [List.getD_eq_getElem?_getD, List.getElem?_append_left h, ← List.getD_eq_getElem?_getD]
theorem doC_app {n : Nat} {hs pl s : List Nat} {c : Cm} (hl : pl.length = n) (hc : c.ok n) : doC c hs (pl ++ s) = ((doC c hs pl).1, (doC c hs pl).2 ++ s) := by
  have get : ∀ {a : Nat}, a ∈ c.nums → a < pl.length := fun {a} ha => by rw [hl]; exact hc a ha
  cases c with
  | join a b =>
    have ha := get (a := a) (by simp)
    have hb := get (a := b) (by simp)
    simp only [doC, getD_app ha, getD_app hb]
  | free a =>
    have ha := get (a := a) (by simp)
    simp only [doC, List.set_append_left _ _ ha]
  | swap a b =>
    have ha := get (a := a) (by simp)
    have hb := get (a := b) (by simp)
    simp only [doC, getD_app ha, getD_app hb, List.set_append_left _ _ ha]
    rw [List.set_append_left _ _ (by simpa using hb)]
  | move a b =>
    have ha := get (a := a) (by simp)
    have hb := get (a := b) (by simp)
    simp only [doC, getD_app hb, List.set_append_left _ _ ha]
theorem doC_plen {hs pl : List Nat} (c : Cm) : (doC c hs pl).2.length = pl.length := by cases c <;> simp [doC]
theorem doC_hlen {hs pl : List Nat} (c : Cm) : hs.length ≤ (doC c hs pl).1.length := by cases c <;> simp [doC, linkH_len]
theorem lp_front {n k : Nat} {hs pl s : List Nat} (h : LpOk k hs (pl ++ s)) (hl : pl.length = n) : LpOk n hs pl := ⟨h.ok, hl, fun i hi => h.lt i (List.mem_append.mpr (.inl hi))⟩
theorem wp_picture (h : S_picture ws μ P) : t_picture (xcOf μ.length P) (endsOf .d μ.length P) (ws.map some ++ List.replicate (4 - ws.length) none) μ := by
  obtain ⟨ds, rfl, hl, rfl, n, cs, rfl, ⟨hn1, hn2⟩, hcs, hc, hP⟩ := h
  simp [-dSeq, t_picture]
  rw [dSeq]
  simp [-dSeq, rowD, List.lookup, dLRng1, rngD_nats]
  refine ⟨by omega, by omega, ?_⟩
  rw [dSeq, dFor_eq]
  simp [-dSeq, List.lookup]
  have g0 : ∀ p, p < n + n → (List.range n ++ List.range n).getD p 0 = if p < n then p else p - n := fun p hp => by
    by_cases h : p < n
    · rw [List.getD_eq_getElem?_getD, List.getElem?_append_left (by simpa using h), List.getElem?_range h, if_pos h]
      rfl
    · rw [List.getD_eq_getElem?_getD, List.getElem?_append_right (by simp; omega), List.length_range, List.getElem?_range (by omega), if_neg h]
      rfl
  have R0 : Rl (n + n) (List.range n) (List.range n ++ List.range n) (List.range n ++ List.range n) := ⟨by simp, fun p q hp hq => by rw [root_range, root_range]⟩
  have L0 : LpOk (n + n) (List.range n) (List.range n ++ List.range n) := ⟨hsOk_range n, by simp, fun i hi => by
    rw [List.length_range]
    rcases List.mem_append.mp hi with h | h <;> exact List.mem_range.mp h⟩
  refine ⟨fun i ρ' μ' => (∃ a, ρ' = [some (.d _), some (.r 0), some (.r 2), a]) ∧ ∃ hs pl, μ' = lkC hs ++ [.lst (nats pl)] ∧ LpOk n hs pl ∧ LpOk (n + n) hs (pl ++ List.range n) ∧ Rl (n + n) hs (pl ++ List.range n) (afterR (cs.take i) (List.range n ++ List.range n)) ∧ n ≤ hs.length ∧ hs.length ≤ n + i,
    ⟨⟨_, rfl⟩, List.range n, List.range n, by simp, ⟨hsOk_range n, by simp, fun i hi => by rw [List.length_range]; exact List.mem_range.mp hi⟩, L0, by simpa [afterR] using R0, by simp, by simp⟩, fun _ _ _ _ _ => trivial, fun i w ρ' μ' e h => ?_, fun ρ' μ' h => ?_⟩
  · obtain ⟨⟨a, rfl⟩, hs, pl, rfl, k0, k1, k2, k3, k4⟩ := h
    simp at e
    obtain ⟨c, hci, rfl⟩ := e
    have hi := (List.getElem?_eq_some_iff.mp hci).1
    have hok := hcs c (List.mem_of_getElem? hci)
    have hok2 : c.ok (n + n) := fun i hi => by have := hok i hi; omega
    obtain ⟨q1, q2, q3⟩ := do_step k1 k2 hok2
    rw [doC_app k0.len hok] at q1 q2 q3
    have k5 := doC_hlen (hs := hs) (pl := pl) c
    have q3 : (doC c hs pl).1.length ≤ hs.length + 1 := q3
    simp [-dSeq, -lkC]
    exact ⟨n, hs, pl, c, rfl, ⟨rfl, rfl⟩, k0, hok, by omega, _, _, ⟨rfl, rfl⟩, lp_front q1 (by rw [doC_plen, k0.len]), q1, by rw [after_take hci]; exact q2, by omega, by omega⟩
  · obtain ⟨⟨a, rfl⟩, hs, pl, rfl, k0, k1, k2, k3, k4⟩ := h
    simp [-dSeq, -lkC, List.lookup]
    refine ⟨hs, pl, ⟨rfl, rfl⟩, k0, k3, ⟨hn1, hn2⟩, ?_⟩
    have k2 : Rl (n + n) hs (pl ++ List.range n) (blkR n cs) := by simpa [blkR] using k2
    have e : pictD n (pf n hs pl) = pictD n ((blkR n cs).getD · 0) := by
      obtain ⟨e1, e2⟩ := pict_congr (n := n) (f := pf n hs pl) (g := ((blkR n cs).getD · 0)) fun p q hp hq => k2.iff p q hp hq
      unfold pictD
      rw [e1, e2]
    rw [e]
    exact hP
end
end DD
namespace DD
open PySem L2 RZ
/-! ### the law's own rooms -/
def doF : Cm → Nat → List Nat → List Nat
  | .free a, F, R => R.set a F
  | c, _, R => doneR c R
def nextF : Cm → Nat → Nat
  | .free _, F => F + 1
  | _, F => F
theorem doF_len (c : Cm) (F : Nat) (R : List Nat) : (doF c F R).length = R.length := by cases c <;> simp [doF, doneR]
theorem join_get {a b p : Nat} {r : List Nat} (hp : p < r.length) : (doneR (.join a b) r).getD p 0 = if r.getD p 0 = r.getD b 0 then r.getD a 0 else r.getD p 0 := by
  rw [getD_lt (by simpa [doneR] using hp), getD_lt hp]
  simp [doneR]
theorem same_step {r R : List Nat} {F : Nat} {c : Cm} (h : SameR r R) (hF : ∀ x ∈ R, x < F) (hc : c.ok r.length) : SameR (doneR c r) (doF c F R) ∧ ∀ x ∈ doF c F R, x < nextF c F := by
  obtain ⟨hl, hk⟩ := h
  have mem : ∀ {i}, i < r.length → R.getD i 0 < F := fun {i} hi => hF _ (getD_mem (by omega))
  cases c with
  | join a b =>
    have ha : a < r.length := hc a (by simp)
    have hb : b < r.length := hc b (by simp)
    refine ⟨⟨by simp [doF, doneR, hl], fun p q hp hq => ?_⟩, fun x hx => ?_⟩
    · simp only [done_len] at hp hq
      show (doneR (.join a b) R).getD p 0 = (doneR (.join a b) R).getD q 0 ↔ _
      rw [join_get (by omega), join_get (by omega), join_get hp, join_get hq]
      have h1 := hk p q hp hq
      have h2 := hk p b hp hb
      have h3 := hk q b hq hb
      have h4 := hk p a hp ha
      have h5 := hk q a hq ha
      generalize R.getD p 0 = A at *
      generalize R.getD q 0 = B at *
      generalize R.getD a 0 = C at *
      generalize R.getD b 0 = E at *
      generalize r.getD p 0 = A' at *
      generalize r.getD q 0 = B' at *
      generalize r.getD a 0 = C' at *
      generalize r.getD b 0 = E' at *
      split <;> split <;> split <;> split <;> omega
    · have hx : x ∈ doneR (.join a b) R := hx
      simp only [doneR, List.mem_map] at hx
      obtain ⟨y, hy, rfl⟩ := hx
      have := hF y hy
      have := mem ha
      show (if y = R.getD b 0 then R.getD a 0 else y) < F
      split <;> omega
  | free a =>
    have ha : a < r.length := hc a (by simp)
    refine ⟨⟨by simp [doF, doneR, hl], fun p q hp hq => ?_⟩, fun x hx => ?_⟩
    · simp only [done_len] at hp hq
      have mx : ∀ i, i < r.length → r.getD i 0 ≤ r.foldl max 0 := fun i hi => le_foldl_max (.inl (getD_mem hi))
      have h1 := hk p q hp hq
      have m1 := mem hp
      have m2 := mem hq
      have x1 := mx p hp
      have x2 := mx q hq
      simp only [doF, doneR, getD_set, hl, ha, and_true]
      by_cases e1 : a = p <;> by_cases e2 : a = q
      · rw [if_pos e1, if_pos e2, if_pos e1, if_pos e2]; simp
      · rw [if_pos e1, if_neg e2, if_pos e1, if_neg e2]; omega
      · rw [if_neg e1, if_pos e2, if_neg e1, if_pos e2]; omega
      · rw [if_neg e1, if_neg e2, if_neg e1, if_neg e2]; exact h1
    · simp only [doF, nextF] at hx ⊢
      rcases List.mem_or_eq_of_mem_set hx with h | rfl
      · have := hF x h; omega
      · omega
  | swap a b =>
    have ha : a < r.length := hc a (by simp)
    have hb : b < r.length := hc b (by simp)
    refine ⟨⟨by simp [doF, doneR, hl], fun p q hp hq => ?_⟩, fun x hx => ?_⟩
    · simp only [done_len] at hp hq
      have f : ∀ p, p < r.length → ∃ p', p' < r.length ∧ (doneR (.swap a b) R).getD p 0 = R.getD p' 0 ∧ (doneR (.swap a b) r).getD p 0 = r.getD p' 0 := fun p hp => by
        simp only [doneR, getD_set, List.length_set, hl, ha, hb, and_true]
        by_cases h1 : b = p
        · exact ⟨a, ha, by simp [h1], by simp [h1]⟩
        · by_cases h2 : a = p
          · exact ⟨b, hb, by simp [h1, h2], by simp [h1, h2]⟩
          · exact ⟨p, hp, by simp [h1, h2], by simp [h1, h2]⟩
      obtain ⟨p', k1, k2, k3⟩ := f p hp
      obtain ⟨q', l1, l2, l3⟩ := f q hq
      show (doneR (.swap a b) R).getD p 0 = (doneR (.swap a b) R).getD q 0 ↔ _
      rw [k2, k3, l2, l3]
      exact hk p' q' k1 l1
    · have hx : x ∈ doneR (.swap a b) R := hx
      simp only [doneR] at hx
      rcases List.mem_or_eq_of_mem_set hx with h | rfl
      · rcases List.mem_or_eq_of_mem_set h with h | rfl
        · exact hF x h
        · exact mem hb
      · exact mem ha
  | move a b =>
    have ha : a < r.length := hc a (by simp)
    have hb : b < r.length := hc b (by simp)
    refine ⟨⟨by simp [doF, doneR, hl], fun p q hp hq => ?_⟩, fun x hx => ?_⟩
    · simp only [done_len] at hp hq
      have f : ∀ p, p < r.length → ∃ p', p' < r.length ∧ (doneR (.move a b) R).getD p 0 = R.getD p' 0 ∧ (doneR (.move a b) r).getD p 0 = r.getD p' 0 := fun p hp => by
        simp only [doneR, getD_set, hl, ha, and_true]
        by_cases h2 : a = p
        · exact ⟨b, hb, by simp [h2], by simp [h2]⟩
        · exact ⟨p, hp, by simp [h2], by simp [h2]⟩
      obtain ⟨p', k1, k2, k3⟩ := f p hp
      obtain ⟨q', l1, l2, l3⟩ := f q hq
      show (doneR (.move a b) R).getD p 0 = (doneR (.move a b) R).getD q 0 ↔ _
      rw [k2, k3, l2, l3]
      exact hk p' q' k1 l1
    · have hx : x ∈ doneR (.move a b) R := hx
      simp only [doneR] at hx
      rcases List.mem_or_eq_of_mem_set hx with h | rfl
      · exact hF x h
      · exact mem hb
theorem SameR.refl (r : List Nat) : SameR r r := ⟨rfl, fun _ _ _ _ => Iff.rfl⟩
theorem SameR.canon {r R : List Nat} (h : SameR r R) : canonL R = canonL r := by
  unfold canonL
  rw [h.1]
  exact canonF_congr fun p q hp hq => h.2 p q hp hq
theorem SameR.pict {n : Nat} {r R : List Nat} (h : SameR r R) (hl : r.length = n + n) : picC n (R.getD · 0) = picC n (r.getD · 0) ∧ picX n (R.getD · 0) = picX n (r.getD · 0) :=
  pict_congr fun p q hp hq => h.2 p q (by omega) (by omega)
/-! ### the blocks of all rooms -/
section
variable {n : Nat} {f : Nat → Nat}
theorem filter_out {α : Type} {c : α → Bool} {l : List α} (h : ∀ x ∈ l, c x = false) : l.filter c = [] := by
  rw [List.filter_eq_nil_iff]
  intro x hx
  simp [h x hx]
theorem filter_all {α : Type} {c : α → Bool} {l : List α} (h : ∀ x ∈ l, c x = true) : l.filter c = l := List.filter_eq_self.mpr h
theorem cls_double (p : Nat) : clsF (n + n) f p = clsF n f p ++ ((List.range n).filter fun q => f (n + q) == f p).map (n + ·) := by
  unfold clsF
  rw [List.range_add, List.filter_append, List.filter_map]
  rfl
theorem firsts_double : firsts f (n + n) = firsts f n ++ ((List.range n).filter fun p => isFirst f (n + p)).map (n + ·) := by
  unfold firsts
  rw [List.range_add, List.filter_append, List.filter_map]
  rfl
def splitG (n : Nat) (g : List Nat) : List Nat × List Nat := (g.filter fun x => decide (x < n), (g.filter fun x => decide (n ≤ x)).map (· - n))
theorem split_app {a b : List Nat} (h : ∀ x ∈ a, x < n) : splitG n (a ++ b.map (n + ·)) = (a, b) := by
  unfold splitG
  rw [List.filter_append, List.filter_append]
  rw [filter_all (c := fun x => decide (x < n)) (l := a) (fun x hx => decide_eq_true (h x hx)), filter_out (c := fun x => decide (n ≤ x)) (l := a) (fun x hx => decide_eq_false (by have := h x hx; omega))]
  rw [filter_out (c := fun x => decide (x < n)) (l := b.map (n + ·)) (fun x hx => by obtain ⟨y, _, rfl⟩ := List.mem_map.mp hx; exact decide_eq_false (by omega)), filter_all (c := fun x => decide (n ≤ x)) (l := b.map (n + ·)) (fun x hx => by obtain ⟨y, _, rfl⟩ := List.mem_map.mp hx; exact decide_eq_true (by omega))]
  rw [List.append_nil, List.nil_append, List.map_map]
  congr 1
  refine (List.map_congr_left fun x _ => ?_).trans (List.map_id _)
  show n + x - n = x
  omega
theorem blocks_eq : (canonF (n + n) f).map (splitG n) = blocksOf n f := by
  rw [← firsts_map, List.map_map, firsts_double, List.map_append, blocksOf, picC_eq, picX_eq]
  congr 1
  · refine List.map_congr_left fun p hp => ?_
    show splitG n (clsF (n + n) f p) = _
    rw [cls_double]
    exact split_app fun x hx => (mem_cls.mp hx).1
  · rw [List.map_map, List.map_map]
    refine List.map_congr_left fun p hp => ?_
    obtain ⟨h1, h2⟩ := mem_deads.mp hp
    show splitG n (clsF (n + n) f (n + p)) = _
    rw [cls_double]
    have e : clsF n f (n + p) = [] := by
      unfold clsF
      rw [List.filter_eq_nil_iff]
      intro q hq
      have := first_iff.mp h2 q (by have := List.mem_range.mp hq; omega)
      simpa using this
    rw [e, split_app (by simp)]
    rfl
theorem blocksOf_open : (blocksOf n f).filter (fun c => !c.1.isEmpty) = picC n f := by
  unfold blocksOf
  rw [List.filter_append, filter_all, filter_out, List.append_nil]
  · intro c hc
    obtain ⟨g, _, rfl⟩ := List.mem_map.mp hc
    rfl
  · intro c hc
    rw [picC_eq] at hc
    obtain ⟨p, hp, rfl⟩ := List.mem_map.mp hc
    obtain ⟨h1, h2⟩ := mem_firsts.mp hp
    obtain ⟨t, e⟩ := cls_cons h1 h2
    simp [e]
theorem blocksOf_dead : ((blocksOf n f).filter (fun c => c.1.isEmpty)).map (·.2) = picX n f := by
  unfold blocksOf
  rw [List.filter_append, filter_out, filter_all, List.nil_append, List.map_map]
  · exact (List.map_congr_left fun x _ => rfl).trans (List.map_id _)
  · intro c hc
    obtain ⟨g, _, rfl⟩ := List.mem_map.mp hc
    rfl
  · intro c hc
    rw [picC_eq] at hc
    obtain ⟨p, hp, rfl⟩ := List.mem_map.mp hc
    obtain ⟨h1, h2⟩ := mem_firsts.mp hp
    obtain ⟨t, e⟩ := cls_cons h1 h2
    simp [e]
theorem blocksOf_len : (blocksOf n f).length ≤ n + n := by
  unfold blocksOf
  have := picC_len (n := n) (f := f)
  have := picX_len (n := n) (f := f)
  rw [List.length_append, List.length_map]
  omega
end
/-! ### rooms that links lead to -/
structure Lab (n : Nat) (ls : List (Nat × Nat)) (R : List Nat) : Prop where
  len : R.length = n
  lt : ∀ x ∈ R, x < n
  lab : ∀ g : Nat → Nat, (∀ p ∈ ls, g p.1 = g p.2) → ∀ x, x < n → g (R.getD x 0) = g x
  con : ∀ p ∈ ls, R.getD p.1 0 = R.getD p.2 0
theorem lab_start (n : Nat) : Lab n [] (List.range n) := ⟨by simp, fun x hx => List.mem_range.mp hx, fun g _ x hx => by simp [List.getD_eq_getElem?_getD, List.getElem?_range hx], by simp⟩
def mergeR (a b : Nat) (R : List Nat) : List Nat := R.map fun x => if x = R.getD b 0 then R.getD a 0 else x
theorem merge_get {a b p : Nat} {R : List Nat} (hp : p < R.length) : (mergeR a b R).getD p 0 = if R.getD p 0 = R.getD b 0 then R.getD a 0 else R.getD p 0 := by
  rw [getD_lt (by simpa [mergeR] using hp), getD_lt hp]
  simp [mergeR]
theorem lab_link {n : Nat} {ls : List (Nat × Nat)} {R : List Nat} (h : Lab n ls R) (hbd : ∀ p ∈ ls, p.1 < n ∧ p.2 < n) {a b : Nat} (ha : a < n) (hb : b < n) : Lab n (ls ++ [(a, b)]) (mergeR a b R) := by
  have hl := h.len
  refine ⟨by simp [mergeR, hl], fun x hx => ?_, fun g hg x hx => ?_, fun p hp => ?_⟩
  · simp only [mergeR, List.mem_map] at hx
    obtain ⟨y, hy, rfl⟩ := hx
    have := h.lt y hy
    have := h.lt _ (getD_mem (l := R) (i := a) (by omega))
    split <;> omega
  · have old := h.lab g fun p hp => hg p (List.mem_append.mpr (.inl hp))
    have new : g a = g b := hg (a, b) (List.mem_append.mpr (.inr (List.mem_singleton.mpr rfl)))
    rw [merge_get (by omega)]
    split
    · rename_i e
      rw [old a ha, new, ← old b hb, ← e, old x hx]
    · exact old x hx
  · rcases List.mem_append.mp hp with hp | hp
    · obtain ⟨h1, h2⟩ := hbd p hp
      rw [merge_get (by omega), merge_get (by omega), h.con p hp]
    · simp at hp
      subst hp
      show (mergeR a b R).getD a 0 = (mergeR a b R).getD b 0
      rw [merge_get (by omega), merge_get (by omega), if_pos rfl]
      split <;> rfl
theorem lab_iff {n : Nat} {ls : List (Nat × Nat)} {R : List Nat} (h : Lab n ls R) {i j : Nat} (hi : i < n) (hj : j < n) : R.getD i 0 = R.getD j 0 ↔ Conn ls i j :=
  ⟨fun e g hg => by rw [← h.lab g hg i hi, ← h.lab g hg j hj, e], fun c => c (R.getD · 0) h.con⟩
theorem conn_mono {ls ms : List (Nat × Nat)} {a b : Nat} (h : Conn ls a b) (hs : ∀ p ∈ ls, p ∈ ms) : Conn ms a b := fun g hg => h g fun p hp => hg p (hs p hp)
theorem conn_symm {ls : List (Nat × Nat)} {a b : Nat} (h : Conn ls a b) : Conn ls b a := fun g hg => (h g hg).symm
theorem conn_trans {ls : List (Nat × Nat)} {a b c : Nat} (h : Conn ls a b) (k : Conn ls b c) : Conn ls a c := fun g hg => (h g hg).trans (k g hg)
/-! ### a row that is run beside its picture -/
structure Ev (n : Nat) (L : List (Nat × Nat)) (r1 r2 : List Nat) (hsA hsB pl : List Nat) (J : List (Nat × Nat)) : Prop where
  ciA : CI hsA (L ++ J)
  ciB : CI hsB J
  hl : hsA.length = hsB.length
  lpA : LpOk n hsA pl
  lpB : LpOk (n + n) hsB (pl ++ List.range n)
  rlA : Rl n hsA pl r1
  rlB : Rl (n + n) hsB (pl ++ List.range n) r2
theorem doC_pl {hs hs' pl : List Nat} (h : hs.length = hs'.length) (c : Cm) : (doC c hs pl).2 = (doC c hs' pl).2 := by cases c <;> simp [doC, h]
theorem ev_step {n : Nat} {L : List (Nat × Nat)} {r1 r2 hsA hsB pl : List Nat} {J : List (Nat × Nat)} (h : Ev n L r1 r2 hsA hsB pl J) {c : Cm} (hc : c.ok n) : ∃ hsA' hsB' pl' J', Ev n L (doneR c r1) (doneR c r2) hsA' hsB' pl' J' := by
  obtain ⟨a1, a2, a3⟩ := do_step h.lpA h.rlA hc
  have hc2 : c.ok (n + n) := fun i hi => by have := hc i hi; omega
  obtain ⟨b1, b2, b3⟩ := do_step h.lpB h.rlB hc2
  rw [doC_app h.lpA.len hc, ← doC_pl h.hl c] at b1 b2
  have pm : ∀ {i}, i < n → pl.getD i 0 < hsA.length := fun {i} hi => h.lpA.lt _ (getD_mem (by rw [h.lpA.len]; exact hi))
  have fin : ∀ J', CI (doC c hsA pl).1 (L ++ J') → CI (doC c hsB pl).1 J' → (doC c hsA pl).1.length = (doC c hsB pl).1.length → ∃ hsA' hsB' pl' J', Ev n L (doneR c r1) (doneR c r2) hsA' hsB' pl' J' := fun J' k1 k2 k3 => ⟨_, _, _, J', k1, k2, k3, a1, b1, a2, b2⟩
  cases c with
  | join a b =>
    have ha : a < n := hc a (by simp)
    have hb : b < n := hc b (by simp)
    refine fin (J ++ [(pl.getD a 0, pl.getD b 0)]) ?_ ?_ ?_
    · rw [← List.append_assoc]
      exact ci_link h.ciA (pm ha) (pm hb)
    · exact ci_link h.ciB (by rw [← h.hl]; exact pm ha) (by rw [← h.hl]; exact pm hb)
    · simp [doC, linkH_len, h.hl]
  | free a => exact fin J (ci_add h.ciA) (ci_add h.ciB) (by simp [doC, h.hl])
  | swap a b => exact fin J h.ciA h.ciB h.hl
  | move a b => exact fin J h.ciA h.ciB h.hl
theorem ev_all {n : Nat} {L : List (Nat × Nat)} : ∀ (cs : List Cm), (∀ c ∈ cs, c.ok n) → ∀ {r1 r2 hsA hsB pl : List Nat} {J : List (Nat × Nat)}, Ev n L r1 r2 hsA hsB pl J → ∃ hsA' hsB' pl' J', Ev n L (afterR cs r1) (afterR cs r2) hsA' hsB' pl' J'
  | [], _, _, _, _, _, _, _, h => ⟨_, _, _, _, h⟩
  | c :: cs, hc, r1, r2, _, _, _, _, h => by
    obtain ⟨_, _, _, _, h'⟩ := ev_step h (hc c (List.mem_cons_self ..))
    exact ev_all cs (fun c hc' => hc c (List.mem_cons_of_mem _ hc')) h'
theorem ls0_mem {gs : List (List Nat)} {p : Nat × Nat} : p ∈ ls0 gs ↔ ∃ g ∈ gs, p.2 ∈ g ∧ p.1 = g.headD 0 := by
  unfold ls0
  rw [List.mem_flatMap]
  constructor
  · rintro ⟨g, hg, hp⟩
    obtain ⟨k, hk, rfl⟩ := List.mem_map.mp hp
    exact ⟨g, hg, hk, rfl⟩
  · rintro ⟨g, hg, hk, e⟩
    exact ⟨g, hg, List.mem_map.mpr ⟨p.2, hk, by rw [← e]⟩⟩
theorem ls0_app {gs hs : List (List Nat)} : ls0 (gs ++ hs) = ls0 gs ++ ls0 hs := by simp [ls0]
theorem head_in {g : List Nat} (h : g ≠ []) (d : Nat) : g.headD d ∈ g := by
  cases g with
  | nil => exact absurd rfl h
  | cons a g => simp
theorem head_any {g : List Nat} (h : g ≠ []) (d d' : Nat) : g.headD d = g.headD d' := by
  cases g with
  | nil => exact absurd rfl h
  | cons a g => rfl
/-- the links of a start's groups connect who shares a room -/
theorem conn_groups {n : Nat} {r : List Nat} (hl : r.length = n) {p q : Nat} (hp : p < n) (hq : q < n) : Conn (ls0 (canonL r)) p q ↔ r.getD p 0 = r.getD q 0 := by
  have F := fits_canon n (r.getD · 0)
  have ec : canonL r = canonF n (r.getD · 0) := by rw [canonL, hl]
  rw [ec]
  constructor
  · intro h
    refine h (r.getD · 0) fun z hz => ?_
    obtain ⟨g, hg, h2, h1⟩ := ls0_mem.mp hz
    have hh : z.1 ∈ g := by rw [h1]; exact head_in (F.ne g hg) 0
    exact (F.eq z.1 z.2 (F.lt g hg _ hh) (F.lt g hg _ h2)).mpr (.inr ⟨g, hg, hh, h2⟩)
  · intro e g hg
    rcases (F.eq p q hp hq).mp e with rfl | ⟨k, hk, k1, k2⟩
    · rfl
    · have l : ∀ x, x ∈ k → g (k.headD 0) = g x := fun x hx => hg (k.headD 0, x) (ls0_mem.mpr ⟨k, hk, hx, rfl⟩)
      rw [← l p k1, ← l q k2]
theorem ev_start {n : Nat} {r : List Nat} (hl : r.length = n) : ∃ hsA, Ev n (ls0 (canonL r)) r (List.range n ++ List.range n) hsA (List.range n) (List.range n) [] := by
  have F := fits_canon n (r.getD · 0)
  have ec : canonL r = canonF n (r.getD · 0) := by rw [canonL, hl]
  obtain ⟨hs, c, e⟩ := ci_many (ls0 (canonL r)) (ci_range n) (fun p hp => by
    rw [List.length_range]
    rw [ec] at hp
    obtain ⟨g, hg, h2, h1⟩ := ls0_mem.mp hp
    exact ⟨by rw [h1]; exact F.lt g hg _ (head_in (F.ne g hg) 0), F.lt g hg _ h2⟩)
  rw [List.nil_append] at c
  rw [List.length_range] at e
  have gr : ∀ p, p < n → (List.range n).getD p 0 = p := fun p hp => by simp [List.getD_eq_getElem?_getD, List.getElem?_range hp]
  refine ⟨hs, by simpa using c, ci_range n, by simp [e], ⟨c.ok, by simp, fun i hi => by rw [e]; exact List.mem_range.mp hi⟩, ⟨hsOk_range n, by simp, fun i hi => by
    rw [List.length_range]
    rcases List.mem_append.mp hi with h | h <;> exact List.mem_range.mp h⟩, ⟨hl, fun p q hp hq => ?_⟩, ⟨by simp, fun p q hp hq => by rw [root_range, root_range]⟩⟩
  rw [gr p hp, gr q hq, c.con]
  exact conn_groups hl hp hq
/-- what a start's groups connect, where blocks without starts stay as they are -/
theorem conn_starts {n : Nat} {L J : List (Nat × Nat)} {hsB : List Nat} (hL : ∀ p ∈ L, p.1 < n ∧ p.2 < n) (ci : CI hsB J) {Bs : List (List Nat)} (hB1 : ∀ g ∈ Bs, ∀ x ∈ g, x < n ∧ ∀ y ∈ g, Conn J x y) (hB2 : ∀ i j, i < n → j < n → Conn J i j → ∃ g ∈ Bs, i ∈ g ∧ j ∈ g) :
    (∀ i j, i < n → j < n → (Conn (L ++ J) i j ↔ Conn (ls0 Bs ++ L) i j)) ∧ ∀ x y, (∀ i, i < n → ¬ Conn J i x) → (Conn (L ++ J) x y ↔ Conn J x y) := by
  constructor
  · intro i j hi hj
    constructor
    · intro h g0 hg
      -- a number of each room: that of the smallest start in its block
      let g : Nat → Nat := fun x => match (List.range n).find? (fun i => decide (root hsB i = root hsB x)) with
        | some i => g0 i
        | none => 0
      have gc : ∀ x y, Conn J x y → g x = g y := fun x y h => by
        show (match _ with | some i => g0 i | none => 0) = (match _ with | some i => g0 i | none => 0)
        rw [(ci.con x y).mpr h]
      have block : ∀ i j, i < n → j < n → Conn J i j → g0 i = g0 j := fun i j hi hj h => by
        obtain ⟨k, hk, k1, k2⟩ := hB2 i j hi hj h
        have l : ∀ x, x ∈ k → g0 (k.headD 0) = g0 x := fun x hx => hg (k.headD 0, x) (List.mem_append.mpr (.inl (ls0_mem.mpr ⟨k, hk, hx, rfl⟩)))
        rw [← l i k1, ← l j k2]
      have gs : ∀ i, i < n → g i = g0 i := fun i hi => by
        show (match (List.range n).find? (fun j => decide (root hsB j = root hsB i)) with | some i => g0 i | none => 0) = g0 i
        cases e : (List.range n).find? (fun j => decide (root hsB j = root hsB i)) with
        | none =>
          have := List.find?_eq_none.mp e i (List.mem_range.mpr hi)
          simp at this
        | some j =>
          have h1 := List.find?_some e
          have h2 := List.mem_range.mp (List.mem_of_find?_eq_some e)
          simp at h1
          exact block j i h2 hi ((ci.con j i).mp h1)
      have := h g fun p hp => by
        rcases List.mem_append.mp hp with hp | hp
        · obtain ⟨h1, h2⟩ := hL p hp
          rw [gs _ h1, gs _ h2]
          exact hg p (List.mem_append.mpr (.inr hp))
        · exact gc _ _ fun g hg => hg p hp
      rw [gs i hi, gs j hj] at this
      exact this
    · intro h g hg
      refine h g fun p hp => ?_
      rcases List.mem_append.mp hp with hp | hp
      · obtain ⟨k, hk, h2, h1⟩ := ls0_mem.mp hp
        have ne : k ≠ [] := fun e => by rw [e] at h2; cases h2
        rw [h1]
        exact (hB1 k hk _ (head_in ne 0)).2 _ h2 g fun p hp => hg p (List.mem_append.mpr (.inr hp))
      · exact hg p (List.mem_append.mpr (.inl hp))
  · intro x y hx
    constructor
    · intro h
      rw [← ci.con]
      let g : Nat → Nat := fun z => if root hsB z = root hsB x then 1 else 0
      have := h g fun p hp => by
        rcases List.mem_append.mp hp with hp | hp
        · obtain ⟨h1, h2⟩ := hL p hp
          have n1 : ¬ root hsB p.1 = root hsB x := fun e => hx _ h1 ((ci.con _ _).mp e)
          have n2 : ¬ root hsB p.2 = root hsB x := fun e => hx _ h2 ((ci.con _ _).mp e)
          show (if _ then 1 else 0) = (if _ then 1 else 0)
          rw [if_neg n1, if_neg n2]
        · have e : root hsB p.1 = root hsB p.2 := (ci.con _ _).mpr fun g hg => hg p hp
          show (if _ then 1 else 0) = (if _ then 1 else 0)
          rw [e]
      have this : (if root hsB x = root hsB x then 1 else 0) = (if root hsB y = root hsB x then 1 else 0) := this
      rw [if_pos rfl] at this
      by_cases e : root hsB y = root hsB x
      · exact e.symm
      · rw [if_neg e] at this; cases this
    · exact fun h => conn_mono h fun p hp => List.mem_append.mpr (.inr hp)
/-! ### a dict that collects people by a number -/
abbrev KVs := List (Nat × List Nat)
def putKv (kv : KVs) (e : Nat × List Nat) : KVs := if kv.any (fun z => z.1 == e.1) then kv.map fun z => if z.1 = e.1 then (z.1, z.2 ++ e.2) else z else kv ++ [e]
def accA (items : KVs) : KVs := items.foldl putKv []
theorem accA_app (xs : KVs) (e : Nat × List Nat) : accA (xs ++ [e]) = putKv (accA xs) e := by simp [accA]
structure AccOk (items kv : KVs) : Prop where
  nd : (kv.map (·.1)).Nodup
  mem : ∀ k x, (∃ z ∈ kv, z.1 = k ∧ x ∈ z.2) ↔ ∃ z ∈ items, z.1 = k ∧ x ∈ z.2
  perm : (kv.map (·.2)).flatten.Perm (items.map (·.2)).flatten
  ne : (∀ z ∈ items, z.2 ≠ []) → ∀ z ∈ kv, z.2 ≠ []
  len : kv.length ≤ items.length
theorem put_fst {kv : KVs} {e : Nat × List Nat} : (kv.map fun z => if z.1 = e.1 then (z.1, z.2 ++ e.2) else z).map (·.1) = kv.map (·.1) := by
  rw [List.map_map]
  refine List.map_congr_left fun z _ => ?_
  show (if z.1 = e.1 then (z.1, z.2 ++ e.2) else z).1 = z.1
  split <;> rfl
theorem put_flat {e : Nat × List Nat} : ∀ {kv : KVs}, (kv.map (·.1)).Nodup → (∃ z ∈ kv, z.1 = e.1) → ((kv.map fun z => if z.1 = e.1 then (z.1, z.2 ++ e.2) else z).map (·.2)).flatten.Perm ((kv.map (·.2)).flatten ++ e.2)
  | [], _, h => by obtain ⟨z, hz, _⟩ := h; cases hz
  | z :: kv, nd, h => by
    rw [List.map_cons, List.nodup_cons] at nd
    by_cases hz : z.1 = e.1
    · have same : (kv.map fun z => if z.1 = e.1 then (z.1, z.2 ++ e.2) else z) = kv := by
        refine (List.map_congr_left fun y hy => ?_).trans (List.map_id _)
        have : ¬ y.1 = e.1 := fun q => nd.1 (List.mem_map.mpr ⟨y, hy, by rw [q, hz]⟩)
        rw [if_neg this]
        rfl
      rw [List.map_cons, if_pos hz, same]
      simp only [List.map_cons, List.flatten_cons]
      rw [List.append_assoc, List.append_assoc]
      exact (List.perm_append_comm).append_left _
    · obtain ⟨y, hy, hye⟩ := h
      have hy : y ∈ kv := (List.mem_cons.mp hy).resolve_left fun q => hz (by rw [← q]; exact hye)
      rw [List.map_cons, if_neg hz]
      simp only [List.map_cons, List.flatten_cons]
      rw [List.append_assoc]
      exact (put_flat nd.2 ⟨y, hy, hye⟩).append_left _
theorem acc_step {items kv : KVs} {e : Nat × List Nat} (h : AccOk items kv) : AccOk (items ++ [e]) (putKv kv e) := by
  unfold putKv
  by_cases hk : kv.any (fun z => z.1 == e.1) = true
  · rw [if_pos hk]
    obtain ⟨y, hy, hye⟩ := List.any_eq_true.mp hk
    have hye : y.1 = e.1 := by simpa using hye
    refine ⟨by rw [put_fst]; exact h.nd, fun k x => ?_, ?_, fun hn z hz => ?_, by rw [List.length_map, List.length_append]; have := h.len; omega⟩
    · constructor
      · rintro ⟨z, hz, rfl, hx⟩
        obtain ⟨w, hw, rfl⟩ := List.mem_map.mp hz
        by_cases q : w.1 = e.1
        · rw [if_pos q] at hx ⊢
          rcases List.mem_append.mp hx with hx | hx
          · obtain ⟨i, hi, k1, k2⟩ := (h.mem w.1 x).mp ⟨w, hw, rfl, hx⟩
            exact ⟨i, List.mem_append.mpr (.inl hi), k1, k2⟩
          · exact ⟨e, List.mem_append.mpr (.inr (List.mem_singleton.mpr rfl)), q.symm, hx⟩
        · rw [if_neg q] at hx ⊢
          obtain ⟨i, hi, k1, k2⟩ := (h.mem w.1 x).mp ⟨w, hw, rfl, hx⟩
          exact ⟨i, List.mem_append.mpr (.inl hi), k1, k2⟩
      · rintro ⟨i, hi, rfl, hx⟩
        rcases List.mem_append.mp hi with hi | hi
        · obtain ⟨w, hw, k1, k2⟩ := (h.mem i.1 x).mpr ⟨i, hi, rfl, hx⟩
          by_cases q : w.1 = e.1
          · exact ⟨(w.1, w.2 ++ e.2), List.mem_map.mpr ⟨w, hw, if_pos q⟩, k1, List.mem_append.mpr (.inl k2)⟩
          · exact ⟨w, List.mem_map.mpr ⟨w, hw, if_neg q⟩, k1, k2⟩
        · rw [List.mem_singleton] at hi
          subst hi
          exact ⟨(y.1, y.2 ++ i.2), List.mem_map.mpr ⟨y, hy, if_pos hye⟩, hye, List.mem_append.mpr (.inr hx)⟩
    · refine (put_flat h.nd ⟨y, hy, hye⟩).trans ?_
      rw [List.map_append, List.flatten_append]
      simpa using h.perm.append_right e.2
    · obtain ⟨w, hw, rfl⟩ := List.mem_map.mp hz
      have := h.ne (fun z hz => hn z (List.mem_append.mpr (.inl hz))) w hw
      split
      · intro q
        simp at q
        exact this q.1
      · exact this
  · rw [if_neg hk]
    have no : ∀ z ∈ kv, ¬ z.1 = e.1 := fun z hz q => hk (List.any_eq_true.mpr ⟨z, hz, by simpa using q⟩)
    refine ⟨?_, fun k x => ?_, ?_, fun hn z hz => ?_, by rw [List.length_append, List.length_append]; have := h.len; simp; omega⟩
    · rw [List.map_append, List.nodup_append]
      refine ⟨h.nd, by simp, fun a ha b hb q => ?_⟩
      simp at hb
      subst hb q
      obtain ⟨z, hz, q⟩ := List.mem_map.mp ha
      exact no z hz q
    · constructor
      · rintro ⟨z, hz, rfl, hx⟩
        rcases List.mem_append.mp hz with hz | hz
        · obtain ⟨i, hi, k1, k2⟩ := (h.mem z.1 x).mp ⟨z, hz, rfl, hx⟩
          exact ⟨i, List.mem_append.mpr (.inl hi), k1, k2⟩
        · exact ⟨z, List.mem_append.mpr (.inr hz), rfl, hx⟩
      · rintro ⟨z, hz, rfl, hx⟩
        rcases List.mem_append.mp hz with hz | hz
        · obtain ⟨i, hi, k1, k2⟩ := (h.mem z.1 x).mpr ⟨z, hz, rfl, hx⟩
          exact ⟨i, List.mem_append.mpr (.inl hi), k1, k2⟩
        · exact ⟨z, List.mem_append.mpr (.inr hz), rfl, hx⟩
    · rw [List.map_append, List.map_append, List.flatten_append, List.flatten_append]
      exact h.perm.append_right _
    · rcases List.mem_append.mp hz with hz | hz
      · exact h.ne (fun z hz => hn z (List.mem_append.mpr (.inl hz))) z hz
      · exact hn z (List.mem_append.mpr (.inr hz))
theorem acc_ok : ∀ items : KVs, AccOk items (accA items) := by
  intro items
  have key : ∀ (xs done kv : KVs), AccOk done kv → AccOk (done ++ xs) (xs.foldl putKv kv) := by
    intro xs
    induction xs with
    | nil => intro done kv h; simpa using h
    | cons e xs ih =>
      intro done kv h
      have := ih (done ++ [e]) (putKv kv e) (acc_step h)
      simpa using this
  have := key items [] [] ⟨by simp, fun k x => by simp, by simp, fun _ z hz => by (cases hz), by simp⟩
  simpa [accA] using this
theorem nodup_key : ∀ {kv : KVs}, (kv.map (·.1)).Nodup → ∀ {z w : Nat × List Nat}, z ∈ kv → w ∈ kv → z.1 = w.1 → z = w
  | [], _, _, _, hz, _, _ => by cases hz
  | y :: kv, nd, z, w, hz, hw, e => by
    rw [List.map_cons, List.nodup_cons] at nd
    rcases List.mem_cons.mp hz with e1 | h1 <;> rcases List.mem_cons.mp hw with e2 | h2
    · rw [e1, e2]
    · exact absurd (List.mem_map.mpr ⟨w, h2, by rw [← e, e1]⟩) nd.1
    · exact absurd (List.mem_map.mpr ⟨z, h1, by rw [e, e2]⟩) nd.1
    · exact nodup_key nd.2 h1 h2 e
theorem acc_uniq {items kv : KVs} (h : AccOk items kv) {z w : Nat × List Nat} (hz : z ∈ kv) (hw : w ∈ kv) (e : z.1 = w.1) : z = w := nodup_key h.nd hz hw e
/-! the dict itself -/
def kvK (kv : KVs) : List Key := kv.map fun z => .inl (z.1 : Int)
def kvD (kv : KVs) : List D := kv.map fun z => .tup (nats z.2)
theorem dgetL_mapA {α β : Type} {l : List β} {k : β → Key} {v : β → α} {key : Key} : dgetL (l.map k) (l.map v) key = (l.find? fun p => decide (k p = key)).map v := by
  induction l with
  | nil => rfl
  | cons a l ih =>
    simp only [List.map_cons, dgetL, List.find?_cons]
    by_cases e : k a = key <;> simp [e, ih]
theorem dmapL_mapA {α β : Type} {l : List β} {k : β → Key} {v : β → α} {key : Key} {d : α} : dmapL (l.map k) (l.map v) key d = l.map fun p => if k p = key then d else v p := by
  induction l with
  | nil => rfl
  | cons a l ih => simp [dmapL, ih]
theorem hasK_mapA {β : Type} {l : List β} {k : β → Key} {key : Key} : hasK (l.map k) key = l.any fun p => decide (k p = key) := by
  simp [hasK, List.any_map, Function.comp_def]
/-- d[k] = d.get(k, ()) + t -/
theorem kv_put {kv : KVs} (nd : (kv.map (·.1)).Nodup) (k : Nat) (t : List Nat) :
    (dgetL (kvK kv) (kvD kv) (.inl (k : Int)) = none ∧ dputK (kvK kv) (.inl (k : Int)) = kvK (putKv kv (k, t)) ∧ dputL (kvK kv) (kvD kv) (.inl (k : Int)) (.tup (nats t)) = kvD (putKv kv (k, t))) ∨
    ∃ z ∈ kv, dgetL (kvK kv) (kvD kv) (.inl (k : Int)) = some (.tup (nats z.2)) ∧ dputK (kvK kv) (.inl (k : Int)) = kvK (putKv kv (k, t)) ∧ dputL (kvK kv) (kvD kv) (.inl (k : Int)) (.tup (nats (z.2 ++ t))) = kvD (putKv kv (k, t)) := by
  have hk : hasK (kvK kv) (.inl (k : Int)) = kv.any fun z => z.1 == k := by
    unfold kvK
    rw [hasK_mapA]
    congr 1
    funext z
    rw [Bool.eq_iff_iff]
    simp
  have hg : dgetL (kvK kv) (kvD kv) (.inl (k : Int)) = (kv.find? fun z => z.1 == k).map fun z => .tup (nats z.2) := by
    unfold kvK kvD
    rw [dgetL_mapA]
    congr 2
    funext z
    rw [Bool.eq_iff_iff]
    simp
  by_cases h : kv.any (fun z => z.1 == k) = true
  · obtain ⟨y, hy, hye⟩ := List.any_eq_true.mp h
    have hye : y.1 = k := by simpa using hye
    have hf : kv.find? (fun z => z.1 == k) = some y := by
      cases e : kv.find? (fun z => z.1 == k) with
      | none => exact absurd (by simpa using hye) (List.find?_eq_none.mp e y hy)
      | some w =>
        have h1 : w.1 = k := by simpa using List.find?_some e
        have h2 := List.mem_of_find?_eq_some e
        rw [nodup_key nd h2 hy (h1.trans hye.symm)]
    refine .inr ⟨y, hy, by rw [hg, hf]; rfl, ?_, ?_⟩
    · unfold dputK
      rw [hk, h, if_pos rfl]
      unfold putKv
      rw [if_pos h]
      unfold kvK
      rw [List.map_map]
      refine List.map_congr_left fun z _ => ?_
      show _ = Sum.inl ((if z.1 = k then (z.1, z.2 ++ t) else z).1 : Int)
      split <;> rfl
    · unfold dputL
      rw [hk, h, if_pos rfl]
      unfold putKv
      rw [if_pos h]
      unfold kvK kvD
      rw [dmapL_mapA, List.map_map]
      refine List.map_congr_left fun z hz => ?_
      show (if (Sum.inl (z.1 : Int) : Key) = Sum.inl (k : Int) then _ else _) = D.tup (nats (if z.1 = k then (z.1, z.2 ++ t) else z).2)
      by_cases q : z.1 = k
      · rw [if_pos (by rw [q]), if_pos q]
        have : z = y := nodup_key nd hz hy (q.trans hye.symm)
        rw [this]
      · rw [if_neg (fun e => q (by simpa using e)), if_neg q]
  · have h' : kv.any (fun z => z.1 == k) = false := by cases q : kv.any (fun z => z.1 == k) with
      | true => exact absurd q h
      | false => rfl
    have hf : kv.find? (fun z => z.1 == k) = none := by
      rw [List.find?_eq_none]
      intro z hz q
      exact h (List.any_eq_true.mpr ⟨z, hz, q⟩)
    refine .inl ⟨by rw [hg, hf]; rfl, ?_, ?_⟩
    · unfold dputK
      rw [hk, h', if_neg Bool.false_ne_true]
      unfold putKv
      rw [if_neg (by rw [h']; exact Bool.false_ne_true)]
      simp [kvK]
    · unfold dputL
      rw [hk, h', if_neg Bool.false_ne_true]
      unfold putKv
      rw [if_neg (by rw [h']; exact Bool.false_ne_true)]
      simp [kvD]
/-! ### ends of a picture for a start -/
def openC (C : List (List Nat × List Nat)) : List (List Nat × List Nat) := C.filter fun c => !c.2.isEmpty
def shutC (C : List (List Nat × List Nat)) : List (List Nat × List Nat) := C.filter fun c => c.2.isEmpty
def itemsA (R : Nat → Nat) (C : List (List Nat × List Nat)) : KVs := (openC C).map fun c => (R (c.2.headD 0), c.1)
/-- the groups of ends: blocks without starts, and blocks that are connected -/
def endsG (R : Nat → Nat) (C : List (List Nat × List Nat)) : List (List Nat) := (shutC C).map (·.1) ++ (accA (itemsA R C)).map (·.2)
/-- a room of each end -/
def labF (n : Nat) (f R : Nat → Nat) (p : Nat) : Nat := match (List.range n).find? (fun q => f (n + q) == f p) with
  | some q => R q
  | none => n + (((List.range n).find? fun q => f q == f p).getD 0)
section
variable {n : Nat} {f R : Nat → Nat}
theorem find_head {c : Nat → Bool} : (List.range n).find? c = ((List.range n).filter c).head? := by
  rw [List.head?_filter]
theorem picC_cls {c : List Nat × List Nat} (hc : c ∈ picC n f) : ∃ p, p < n ∧ isFirst f p = true ∧ c.1 = clsF n f p ∧ c.2 = (List.range n).filter fun q => f (n + q) == f p := by
  rw [picC_eq] at hc
  obtain ⟨p, hp, rfl⟩ := List.mem_map.mp hc
  obtain ⟨h1, h2⟩ := mem_firsts.mp hp
  exact ⟨p, h1, h2, rfl, rfl⟩
theorem lab_open {c : List Nat × List Nat} (hc : c ∈ picC n f) (ho : c.2 ≠ []) {p : Nat} (hp : p ∈ c.1) : labF n f R p = R (c.2.headD 0) := by
  obtain ⟨p0, h1, h2, h3, h4⟩ := picC_cls hc
  rw [h3] at hp
  have e := (mem_cls.mp hp).2
  unfold labF
  rw [find_head, e, ← h4]
  cases q : c.2 with
  | nil => exact absurd q ho
  | cons a l => rfl
theorem lab_shut {c : List Nat × List Nat} (hc : c ∈ picC n f) (ho : c.2 = []) {p : Nat} (hp : p ∈ c.1) : labF n f R p = n + c.1.headD 0 := by
  obtain ⟨p0, h1, h2, h3, h4⟩ := picC_cls hc
  have e : f p = f p0 := by rw [h3] at hp; exact (mem_cls.mp hp).2
  unfold labF
  rw [find_head, e, ← h4, ho]
  show n + ((List.range n).find? fun q => f q == f p0).getD 0 = _
  rw [find_head]
  have : ((List.range n).filter fun q => f q == f p0) = c.1 := by rw [h3]; rfl
  rw [this]
  cases c.1 <;> rfl
theorem picC_fst : (picC n f).map (·.1) = canonF n f := by
  rw [picC_eq, List.map_map, ← firsts_map]
  rfl
theorem in_class {p : Nat} (hp : p < n) : ∃ c ∈ picC n f, p ∈ c.1 := by
  obtain ⟨q, h1, h2, h3⟩ := first_ex (r := f) p
  refine ⟨(clsF n f q, (List.range n).filter fun t => f (n + t) == f q), ?_, mem_cls.mpr ⟨hp, h2.symm⟩⟩
  rw [picC_eq]
  exact List.mem_map.mpr ⟨q, mem_firsts.mpr ⟨by omega, h3⟩, rfl⟩
theorem ends_flat : (endsG R (picC n f)).flatten.Perm (canonF n f).flatten := by
  unfold endsG
  rw [List.flatten_append]
  have h1 := (acc_ok (itemsA R (picC n f))).perm
  have e1 : ((itemsA R (picC n f)).map (·.2)) = (openC (picC n f)).map (·.1) := by
    unfold itemsA
    rw [List.map_map]
    rfl
  rw [e1] at h1
  refine (h1.append_left _).trans ?_
  rw [← List.flatten_append, ← List.map_append, ← picC_fst]
  refine List.Perm.flatten (List.Perm.map _ ?_)
  unfold shutC openC
  exact List.filter_append_perm _ _
theorem ends_fits (hR : ∀ q, q < n → R q < n) : Fits n (endsG R (picC n f)) (labF n f R) := by
  have FC := fits_canon n f
  have A := acc_ok (itemsA R (picC n f))
  have hs : ∀ c ∈ picC n f, ∀ x ∈ c.2, x < n := fun c hc x hx => by
    obtain ⟨p, _, _, _, h4⟩ := picC_cls hc
    rw [h4] at hx
    exact List.mem_range.mp (List.mem_filter.mp hx).1
  have hne : ∀ c ∈ picC n f, c.1 ≠ [] := fun c hc => FC.ne c.1 (by rw [← picC_fst]; exact List.mem_map.mpr ⟨c, hc, rfl⟩)
  have itm : ∀ z, z ∈ itemsA R (picC n f) ↔ ∃ c ∈ picC n f, c.2 ≠ [] ∧ z = (R (c.2.headD 0), c.1) := fun z => by
    unfold itemsA openC
    rw [List.mem_map]
    constructor
    · rintro ⟨c, hc, rfl⟩
      obtain ⟨h1, h2⟩ := List.mem_filter.mp hc
      exact ⟨c, h1, by simpa using h2, rfl⟩
    · rintro ⟨c, h1, h2, rfl⟩
      exact ⟨c, List.mem_filter.mpr ⟨h1, by simpa using h2⟩, rfl⟩
  have shm : ∀ g, g ∈ (shutC (picC n f)).map (·.1) ↔ ∃ c ∈ picC n f, c.2 = [] ∧ g = c.1 := fun g => by
    unfold shutC
    rw [List.mem_map]
    constructor
    · rintro ⟨c, hc, rfl⟩
      obtain ⟨h1, h2⟩ := List.mem_filter.mp hc
      exact ⟨c, h1, by simpa using h2, rfl⟩
    · rintro ⟨c, h1, h2, rfl⟩
      exact ⟨c, List.mem_filter.mpr ⟨h1, by simpa using h2⟩, rfl⟩
  have gm : ∀ g, g ∈ endsG R (picC n f) ↔ (∃ c ∈ picC n f, c.2 = [] ∧ g = c.1) ∨ ∃ z ∈ accA (itemsA R (picC n f)), g = z.2 := fun g => by
    unfold endsG
    rw [List.mem_append, shm, List.mem_map]
    refine or_congr Iff.rfl ⟨fun ⟨z, h1, h2⟩ => ⟨z, h1, h2.symm⟩, fun ⟨z, h1, h2⟩ => ⟨z, h1, h2.symm⟩⟩
  -- who is in an entry has its number
  have inz : ∀ z ∈ accA (itemsA R (picC n f)), ∀ x, x ∈ z.2 ↔ ∃ c ∈ picC n f, c.2 ≠ [] ∧ R (c.2.headD 0) = z.1 ∧ x ∈ c.1 := fun z hz x => by
    constructor
    · intro hx
      obtain ⟨i, hi, k1, k2⟩ := (A.mem z.1 x).mp ⟨z, hz, rfl, hx⟩
      obtain ⟨c, h1, h2, rfl⟩ := (itm i).mp hi
      exact ⟨c, h1, h2, k1, k2⟩
    · rintro ⟨c, h1, h2, h3, h4⟩
      obtain ⟨w, hw, k1, k2⟩ := (A.mem z.1 x).mpr ⟨_, (itm _).mpr ⟨c, h1, h2, rfl⟩, h3, h4⟩
      rw [acc_uniq A hz hw k1.symm]
      exact k2
  refine ⟨fun g hg => ?_, fun g hg i hi => ?_, ?_, fun p q hp hq => ⟨fun e => ?_, fun h => ?_⟩⟩
  · rcases (gm g).mp hg with ⟨c, h1, h2, rfl⟩ | ⟨z, h1, rfl⟩
    · exact hne c h1
    · refine A.ne (fun i hi => ?_) z h1
      obtain ⟨c, h1, h2, rfl⟩ := (itm i).mp hi
      exact hne c h1
  · have : i ∈ (canonF n f).flatten := ends_flat.mem_iff.mp (List.mem_flatten.mpr ⟨g, hg, hi⟩)
    obtain ⟨g', h1, h2⟩ := List.mem_flatten.mp this
    exact FC.lt g' h1 i h2
  · exact ends_flat.nodup_iff.mpr FC.nd
  · obtain ⟨c, hc, hpc⟩ := in_class (f := f) hp
    obtain ⟨c', hc', hqc⟩ := in_class (f := f) hq
    by_cases o : c.2 = [] <;> by_cases o' : c'.2 = []
    · rw [lab_shut hc o hpc, lab_shut hc' o' hqc] at e
      have e : c.1.headD 0 = c'.1.headD 0 := by omega
      have m1 := head_in (hne c hc) 0
      have m2 := head_in (hne c' hc') 0
      rw [← e] at m2
      have : c.1 = c'.1 := same_group FC.nd (by rw [← picC_fst]; exact List.mem_map.mpr ⟨c, hc, rfl⟩) (by rw [← picC_fst]; exact List.mem_map.mpr ⟨c', hc', rfl⟩) m1 m2
      exact .inr ⟨c.1, (gm _).mpr (.inl ⟨c, hc, o, rfl⟩), hpc, by rw [this]; exact hqc⟩
    · rw [lab_shut hc o hpc, lab_open hc' o' hqc] at e
      have := hR _ (hs c' hc' _ (head_in o' 0))
      omega
    · rw [lab_open hc o hpc, lab_shut hc' o' hqc] at e
      have := hR _ (hs c hc _ (head_in o 0))
      omega
    · rw [lab_open hc o hpc, lab_open hc' o' hqc] at e
      obtain ⟨z, hz, k1, k2⟩ := (A.mem (R (c.2.headD 0)) p).mpr ⟨_, (itm _).mpr ⟨c, hc, o, rfl⟩, rfl, hpc⟩
      refine .inr ⟨z.2, (gm _).mpr (.inr ⟨z, hz, rfl⟩), k2, ?_⟩
      exact (inz z hz q).mpr ⟨c', hc', o', by rw [k1, e], hqc⟩
  · rcases h with rfl | ⟨g, hg, h1, h2⟩
    · rfl
    · rcases (gm g).mp hg with ⟨c, k1, k2, rfl⟩ | ⟨z, k1, rfl⟩
      · rw [lab_shut k1 k2 h1, lab_shut k1 k2 h2]
      · obtain ⟨c, a1, a2, a3, a4⟩ := (inz z k1 p).mp h1
        obtain ⟨c', b1, b2, b3, b4⟩ := (inz z k1 q).mp h2
        rw [lab_open a1 a2 a4, lab_open b1 b2 b4, a3, b3]
theorem ends_sorted (hR : ∀ q, q < n → R q < n) : sortG ((endsG R (picC n f)).map fun g => zI (sortN g)) = (canonF n (labF n f R)).map zI := by
  have := fits_sort (ends_fits (f := f) hR)
  have e : singles n (endsG R (picC n f)) = [] := by
    rw [List.eq_nil_iff_forall_not_mem]
    intro p hp
    obtain ⟨h1, h2⟩ := mem_singles.mp hp
    refine h2 (ends_flat.mem_iff.mpr ?_)
    obtain ⟨c, hc, hpc⟩ := in_class (f := f) h1
    exact List.mem_flatten.mpr ⟨c.1, by rw [← picC_fst]; exact List.mem_map.mpr ⟨c, hc, rfl⟩, hpc⟩
  rw [e] at this
  simpa using this
end
/-- the blocks of a picture, and a start's groups -/
def blksB (n : Nat) (f : Nat → Nat) : List (List Nat) := (picC n f).map (·.2) ++ picX n f
section
variable {n : Nat} {f : Nat → Nat}
theorem blks_in {g : List Nat} (hg : g ∈ blksB n f) : ∀ x ∈ g, x < n ∧ ∀ y ∈ g, f (n + x) = f (n + y) := fun x hx => by
  have : ∃ v, g = (List.range n).filter fun q => f (n + q) == v := by
    rcases List.mem_append.mp hg with hg | hg
    · obtain ⟨c, hc, rfl⟩ := List.mem_map.mp hg
      obtain ⟨p, _, _, _, h4⟩ := picC_cls hc
      exact ⟨_, h4⟩
    · rw [picX_eq] at hg
      obtain ⟨p, hp, rfl⟩ := List.mem_map.mp hg
      exact ⟨_, rfl⟩
  obtain ⟨v, rfl⟩ := this
  obtain ⟨h1, h2⟩ := List.mem_filter.mp hx
  refine ⟨List.mem_range.mp h1, fun y hy => ?_⟩
  obtain ⟨h3, h4⟩ := List.mem_filter.mp hy
  simp at h2 h4
  omega
theorem blks_all {i j : Nat} (hi : i < n) (hj : j < n) (e : f (n + i) = f (n + j)) : ∃ g ∈ blksB n f, i ∈ g ∧ j ∈ g := by
  obtain ⟨q, h1, h2, h3⟩ := first_ex (r := f) (n + i)
  have key : ∀ g, g = ((List.range n).filter fun t => f (n + t) == f q) → i ∈ g ∧ j ∈ g := fun g hg => by
    subst hg
    refine ⟨List.mem_filter.mpr ⟨List.mem_range.mpr hi, by simp [h2]⟩, List.mem_filter.mpr ⟨List.mem_range.mpr hj, by simp [h2, e]⟩⟩
  by_cases hq : q < n
  · refine ⟨_, List.mem_append.mpr (.inl ?_), key _ rfl⟩
    rw [picC_eq, List.map_map]
    exact List.mem_map.mpr ⟨q, mem_firsts.mpr ⟨hq, h3⟩, rfl⟩
  · obtain ⟨t, rfl⟩ : ∃ t, q = n + t := ⟨q - n, by omega⟩
    refine ⟨_, List.mem_append.mpr (.inr ?_), key _ rfl⟩
    rw [picX_eq]
    exact List.mem_map.mpr ⟨t, mem_deads.mpr ⟨by omega, h3⟩, rfl⟩
end
/-- THE PICTURE TELLS THE RUN: rooms of the ends, from the rooms of the blocks that a start connects -/
theorem picture_tells {n : Nat} {cs : List Cm} {r R : List Nat} (hc : ∀ c ∈ cs, c.ok n) (hl : r.length = n) (hR : Lab n (ls0 (blksB n ((blkR n cs).getD · 0) ++ canonL r)) R) {p q : Nat} (hp : p < n) (hq : q < n) :
    labF n ((blkR n cs).getD · 0) (R.getD · 0) p = labF n ((blkR n cs).getD · 0) (R.getD · 0) q ↔ (afterR cs r).getD p 0 = (afterR cs r).getD q 0 := by
  obtain ⟨hsA0, E0⟩ := ev_start hl
  obtain ⟨hsA, hsB, pl, J, E⟩ := ev_all cs hc E0
  have Eb : Rl (n + n) hsB (pl ++ List.range n) (blkR n cs) := E.rlB
  generalize hf : (fun i => (blkR n cs).getD i 0) = f at hR ⊢
  have hff : ∀ i, f i = (blkR n cs).getD i 0 := fun i => by rw [← hf]
  have pf1 : ∀ i, i < n → (pl ++ List.range n).getD i 0 = pl.getD i 0 := fun i hi => getD_app (by rw [E.lpA.len]; exact hi)
  have pf2 : ∀ i, i < n → (pl ++ List.range n).getD (n + i) 0 = i := fun i hi => by
    rw [List.getD_eq_getElem?_getD, List.getElem?_append_right (by rw [E.lpA.len]; omega), E.lpA.len, show n + i - n = i by omega, List.getElem?_range hi]
    rfl
  have kEE : ∀ i j, i < n → j < n → (f i = f j ↔ Conn J (pl.getD i 0) (pl.getD j 0)) := fun i j hi hj => by
    rw [hff, hff, ← Eb.iff i j (by omega) (by omega), pf1 i hi, pf1 j hj, E.ciB.con]
  have kSE : ∀ i j, i < n → j < n → (f (n + i) = f j ↔ Conn J i (pl.getD j 0)) := fun i j hi hj => by
    rw [hff, hff, ← Eb.iff (n + i) j (by omega) (by omega), pf2 i hi, pf1 j hj, E.ciB.con]
  have kSS : ∀ i j, i < n → j < n → (f (n + i) = f (n + j) ↔ Conn J i j) := fun i j hi hj => by
    rw [hff, hff, ← Eb.iff (n + i) (n + j) (by omega) (by omega), pf2 i hi, pf2 j hj, E.ciB.con]
  have FC := fits_canon n (r.getD · 0)
  have ec : canonL r = canonF n (r.getD · 0) := by rw [canonL, hl]
  have hL : ∀ p ∈ ls0 (canonL r), p.1 < n ∧ p.2 < n := fun p hp => by
    rw [ec] at hp
    obtain ⟨g, hg, h2, h1⟩ := ls0_mem.mp hp
    exact ⟨by rw [h1]; exact FC.lt g hg _ (head_in (FC.ne g hg) 0), FC.lt g hg _ h2⟩
  obtain ⟨S1, S2⟩ := conn_starts hL E.ciB (Bs := blksB n f) (fun g hg x hx => ⟨(blks_in hg x hx).1, fun y hy => (kSS x y (blks_in hg x hx).1 (blks_in hg y hy).1).mp ((blks_in hg x hx).2 y hy)⟩) fun i j hi hj h => blks_all hi hj ((kSS i j hi hj).mpr h)
  rw [ls0_app] at hR
  rw [← E.rlA.iff p q hp hq, E.ciA.con]
  have up : ∀ {a b}, Conn J a b → Conn (ls0 (canonL r) ++ J) a b := fun {a b} h => conn_mono h fun p hp => List.mem_append.mpr (.inr hp)
  -- a start of the end's block
  have st : ∀ p, p < n → (∃ i, i < n ∧ Conn J i (pl.getD p 0) ∧ labF n f (R.getD · 0) p = R.getD i 0) ∨ ((∀ i, i < n → ¬ Conn J i (pl.getD p 0)) ∧ ∃ t, t < n ∧ f t = f p ∧ (∀ s, s < t → f s ≠ f p) ∧ labF n f (R.getD · 0) p = n + t) := fun p hp => by
    unfold labF
    cases e : (List.range n).find? (fun q => f (n + q) == f p) with
    | some i =>
      have h1 := List.find?_some e
      have h2 := List.mem_range.mp (List.mem_of_find?_eq_some e)
      simp at h1
      exact .inl ⟨i, h2, (kSE i p h2 hp).mp h1, rfl⟩
    | none =>
      have no := List.find?_eq_none.mp e
      refine .inr ⟨fun i hi h => ?_, ?_⟩
      · have := no i (List.mem_range.mpr hi)
        simp at this
        exact this ((kSE i p hi hp).mpr h)
      · obtain ⟨t, h1, h2, h3⟩ := first_ex (r := f) p
        refine ⟨t, by omega, h2, fun s hs e => first_iff.mp h3 s hs (by rw [e, h2]), ?_⟩
        have : (List.range n).find? (fun q => f q == f p) = some t := by
          rw [find_head]
          have := cls_cons (n := n) (r := f) (p := t) (by omega) h3
          obtain ⟨l, e2⟩ := this
          unfold clsF at e2
          rw [h2] at e2
          rw [e2]
          rfl
        show n + ((List.range n).find? fun q => f q == f p).getD 0 = n + t
        rw [this]
        rfl
  have hRl : ∀ i, i < n → R.getD i 0 < n := fun i hi => hR.lt _ (getD_mem (by rw [hR.len]; exact hi))
  rcases st p hp with ⟨i, hi, h1, e1⟩ | ⟨h1, t, ht, k1, k2, e1⟩ <;> rcases st q hq with ⟨j, hj, h2, e2⟩ | ⟨h2, u, hu, l1, l2, e2⟩
  · rw [e1, e2, lab_iff hR hi hj, ← S1 i j hi hj]
    constructor
    · intro h
      exact conn_trans (conn_symm (up h1)) (conn_trans h (up h2))
    · intro h
      exact conn_trans (up h1) (conn_trans h (conn_symm (up h2)))
  · have := hRl i hi
    rw [e1, e2]
    constructor
    · intro h; omega
    · intro h
      have := (S2 (pl.getD q 0) (pl.getD p 0) h2).mp (conn_symm h)
      exact absurd (conn_trans h1 (conn_symm this)) (h2 i hi)
  · have := hRl j hj
    rw [e1, e2]
    constructor
    · intro h; omega
    · intro h
      have := (S2 (pl.getD p 0) (pl.getD q 0) h1).mp h
      exact absurd (conn_trans h2 (conn_symm this)) (h1 j hj)
  · rw [e1, e2, S2 _ _ h1, ← kEE p q hp hq]
    constructor
    · intro h
      have : t = u := by omega
      subst this
      rw [← k1, l1]
    · intro h
      have h3 : ¬ t < u := fun z => l2 t z (by rw [k1, h])
      have h4 : ¬ u < t := fun z => k2 u z (by rw [l1, h])
      omega
end DD
namespace DD
open PySem L2 RZ
section
variable {ws : List W} {μ : M} {P : Res → M → Prop} {Q : W → M → Prop} {xc : Exc → M → Prop}
theorem wp_l_row (h : S_l_row ws μ P) : t_l_row (xcOf μ.length P) (endsOf .d μ.length P) (ws.map some ++ List.replicate (6 - ws.length) none) μ := by
  obtain ⟨ds, rfl, hl, rfl, n, ts, rfl, hn, hok, hts, hP⟩ := h
  simp [-dSeq, t_l_row]
  rw [dSeq]
  simp [-dSeq]
  rw [dSeq, dFor_eq]
  simp [-dSeq]
  refine ⟨fun i ρ' μ' => (∃ x y z, ρ' = [some (.d (nat n)), some (.d (.lst (ts.map trD))), some (.r 0), x, y, z]) ∧ μ' = [.lst ((ts.take i).map fun t => cmdD t.1)], ⟨⟨_, _, _, rfl⟩, by simp⟩, fun _ _ _ _ _ => trivial, fun i w ρ' μ' e h => ?_, fun ρ' μ' h => ?_⟩
  · obtain ⟨⟨x, y, z, rfl⟩, rfl⟩ := h
    simp at e
    obtain ⟨c, b, hc, rfl⟩ := e
    have hi := (List.getElem?_eq_some_iff.mp hc).1
    have e1 : (List.map (fun t : Cm × Nat => cmdD t.1) (ts.take i)) ++ [cmdD c] = List.map (fun t : Cm × Nat => cmdD t.1) (ts.take (i + 1)) := by
      rw [List.take_succ, hc]
      simp
    cases c
    all_goals
      simp [-dSeq, trD, fEq, deq, fObj]
      refine ⟨by omega, ?_⟩
      rw [List.map_take, List.map_take] at e1
      exact e1
  · obtain ⟨⟨x, y, z, rfl⟩, rfl⟩ := h
    simp
    refine ⟨n, cmsOf ts, .inl ?_, hn, by simp [cmsOf]; omega, fun c hc => ?_, hP⟩
    · simp [cmsOf]
    · obtain ⟨t, ht, rfl⟩ := List.mem_map.mp hc
      exact (hok t ht).1
theorem pick_word {d : D} (h : d ∈ [D.str "join", .str "free", .str "swap", .str "move"]) : d = .str "join" ∨ d = .str "free" ∨ d = .str "swap" ∨ d = .str "move" := by simpa using h
theorem wp_l_random_commands (h : S_l_random_commands ws μ P) : t_l_random_commands (xcOf μ.length P) (endsOf .d μ.length P) (ws.map some ++ List.replicate (7 - ws.length) none) μ := by
  obtain ⟨a, b, c, ds, rfl, hl, rfl, n, k, rfl, hn, hk, hP⟩ := h
  simp [-dSeq, t_l_random_commands]
  rw [dSeq]
  simp [-dSeq, src, F_l_pick]
  intro kinds hkinds a b c
  obtain ⟨us, rfl, hus, husl⟩ : ∃ us : List D, kinds = .lst us ∧ (∀ u ∈ us, u = .str "join" ∨ u = .str "free" ∨ u = .str "swap" ∨ u = .str "move") ∧ (0 < us.length ∧ us.length < 10) := by
    simp [isIn] at hkinds
    rcases hkinds with rfl | rfl | rfl | rfl <;> exact ⟨_, rfl, by simp, by simp⟩
  rw [dSeq]
  simp [-dSeq]
  rw [dSeq, dFor_eq]
  simp [-dSeq, src, F_l_draw]
  refine ⟨by omega, fun m hm a b c => ⟨by omega, ?_⟩⟩
  refine ⟨fun i ρ' μ' => (∃ x y, ρ' = [some (.r 0), some (.d (nat n)), some (.d (nat k)), some (.d (.lst us)), some (.r 1), x, y]) ∧ ∃ a b c ts, μ' = [.lst (src a b c), .lst (ts.map trD)] ∧ ts.length = i ∧ TrOk n ts, ⟨⟨_, _, rfl⟩, a, b, c, [], rfl, rfl, fun t ht => by cases ht⟩, fun _ _ _ _ _ => trivial, fun i w ρ' μ' e h => ?_, fun ρ' μ' h => ?_⟩
  · obtain ⟨⟨x, y, rfl⟩, a, b, c, ts, rfl, hts, hok⟩ := h
    have hi := (List.getElem?_eq_some_iff.mp e).1
    simp [rng] at hi
    simp [-dSeq]
    rw [dSeq]
    simp [-dSeq, src, F_l_pick]
    refine ⟨⟨husl.1, by omega⟩, fun d hd a b c => ?_⟩
    have hd := hus d hd
    have h0n : 0 < n := by omega
    have h1n : n < 1073741824 := by omega
    have ext : ∀ t : Cm × Nat, t.1.ok n → t.2 < n → TrOk n (ts ++ [t]) := fun t h1 h2 s hs => by
      rcases List.mem_append.mp hs with hs | hs
      · exact hok s hs
      · rw [List.mem_singleton.mp hs]; exact ⟨h1, h2⟩
    have fin : ∀ d : D, (d = .str "join" ∨ d = .str "free" ∨ d = .str "swap" ∨ d = .str "move") → ∀ p q : Nat, p < n → q < n → ∃ t : Cm × Nat, D.tup [d, nat p, nat q] = trD t ∧ t.1.ok n ∧ t.2 < n := fun d hd p q hp hq => by
      rcases hd with rfl | rfl | rfl | rfl
      · exact ⟨(.join p q, p), rfl, by simp [Cm.ok, hp, hq], hp⟩
      · exact ⟨(.free p, q), rfl, by simp [Cm.ok, hp, hq], hq⟩
      · exact ⟨(.swap p q, p), rfl, by simp [Cm.ok, hp, hq], hp⟩
      · exact ⟨(.move p q, p), rfl, by simp [Cm.ok, hp, hq], hp⟩
    rw [dSeq]
    simp [-dSeq, src, F_l_draw, fEq, deq]
    intro v hv
    have tail : ∀ d : D, (d = .str "join" ∨ d = .str "free" ∨ d = .str "swap" ∨ d = .str "move") → (0 < n ∧ (n : Int) < 1073741824) ∧ ∀ v, v < n → (0 < n ∧ (n : Int) < 1073741824) ∧ ∀ v_1, v_1 < n → ∀ a b c : Int, ts.length < 16777216 ∧ ∃ a_1 b_1 c_1, ∃ ts_1 : List (Cm × Nat), ((a = a_1 ∧ b = b_1 ∧ c = c_1) ∧ List.map trD ts ++ [D.tup [d, nat v, nat v_1]] = List.map trD ts_1) ∧ ts_1.length = i + 1 ∧ TrOk n ts_1 := fun d hd =>
      ⟨⟨by omega, by omega⟩, fun p hp => ⟨⟨by omega, by omega⟩, fun q hq a b c => by
        obtain ⟨t, e1, e2, e3⟩ := fin d hd p q hp hq
        rw [e1]
        exact ⟨by omega, a, b, c, ts ++ [t], ⟨⟨rfl, rfl, rfl⟩, by simp⟩, by simp [hts], ext t e2 e3⟩⟩⟩
    split
    · exact ⟨⟨by simp, by simp⟩, fun d' hd' => tail d' (pick_word hd')⟩
    · exact tail d hd
  · obtain ⟨⟨x, y, rfl⟩, a, b, c, ts, rfl, hts, hok⟩ := h
    simp [rng] at hts
    simp
    exact hP ts (by omega) hok a b c
end
section
variable {ws : List W} {μ : M} {P : Res → M → Prop} {Q : W → M → Prop} {xc : Exc → M → Prop}
theorem class_head {n : Nat} {f : Nat → Nat} {p : Nat} (hp : p < n) : ∃ rest, ((picC n f).filter fun c => c.1.contains p) = (endF n f p, staF n f p) :: rest := by
  obtain ⟨c, hc, hpc⟩ := in_class (n := n) (f := f) hp
  have each : ∀ c ∈ picC n f, p ∈ c.1 → c = (endF n f p, staF n f p) := fun c hc hpc => by
    obtain ⟨q, hq, _, e1, e2⟩ := picC_cls hc
    rw [e1] at hpc
    have e : f p = f q := (mem_cls.mp hpc).2
    refine Prod.ext ?_ ?_
    · rw [e1]
      unfold clsF endF
      rw [e]
    · rw [e2]
      unfold staF
      rw [e]
  have hm : c ∈ (picC n f).filter fun c => c.1.contains p := List.mem_filter.mpr ⟨hc, by simpa using hpc⟩
  cases h : (picC n f).filter fun c => c.1.contains p with
  | nil => rw [h] at hm; cases hm
  | cons d rest =>
    have hd : d ∈ (picC n f).filter fun c => c.1.contains p := by rw [h]; exact List.mem_cons_self ..
    obtain ⟨h1, h2⟩ := List.mem_filter.mp hd
    exact ⟨rest, by rw [each d h1 (by simpa using h2)]⟩
theorem wp_class_of (h : S_class_of ws μ P) : t_class_of (xcOf μ.length P) (endsOf .d μ.length P) (ws.map some ++ List.replicate (3 - ws.length) none) μ := by
  obtain ⟨ds, rfl, hl, rfl, n, p, f, rfl, ⟨hn, hp⟩, hP⟩ := h
  have hC := picC_len (n := n) (f := f)
  obtain ⟨rest, hr⟩ := class_head (f := f) hp
  simp [t_class_of, pictD, picT, List.lookup, dLc_eq]
  refine lc_mapF (picC n f) (W.d ∘ pairT) (fun c => c.1.contains p) pairT (by simp) (fun _ => trivial) (by simp [closedB]) (by have : sizeLine = 16777216 := rfl; omega) (fun c hc acc K N hK => ?_) ?_
  · have h0 : atI [D.tup (nats c.1), D.tup (nats c.2)] 0 = some (D.tup (nats c.1)) := atI_nat (j := 0) rfl rfl
    have hf : (nats c.1).all flatD = true := List.all_eq_true.mpr fun x hx => by
      obtain ⟨y, _, rfl⟩ := List.mem_map.mp hx
      rfl
    simp [pairT, h0, fIn, any_nats, hf]
    refine ⟨rfl, ?_⟩
    simpa [pairT] using hK
  · rw [if_neg Bool.false_ne_true, hr]
    have h0 : atI (pairT (endF n f p, staF n f p) :: rest.map pairT) 0 = some (pairT (endF n f p, staF n f p)) := atI_nat (j := 0) rfl rfl
    simp [h0]
    exact hP
theorem pair_deq {a b a' b' : List Nat} : deq (pairT (a, b)) (pairT (a', b')) = decide ((a, b) = (a', b')) := by
  have hn : ∀ l m : List Nat, deqs (nats l) (nats m) = decide (l = m) := fun l => by
    induction l with
    | nil => intro m; cases m <;> simp [nats, deqs]
    | cons x l ih =>
      intro m
      cases m with
      | nil => simp [nats, deqs]
      | cons y m =>
        have := ih m
        simp only [nats_cons, deqs]
        rw [show deq (nat x) (nat y) = decide (x = y) from deq_nat, this]
        by_cases e1 : x = y <;> by_cases e2 : l = m <;> simp [e1, e2]
  simp only [pairT, deq, deqs, hn]
  by_cases e1 : a = a' <;> by_cases e2 : b = b' <;> simp [e1, e2]
theorem cls_eq {n : Nat} {f : Nat → Nat} {a b : Nat} (ha : a < n) : (endF n f a, staF n f a) = (endF n f b, staF n f b) ↔ f a = f b := by
  constructor
  · intro h
    have h1 : endF n f a = endF n f b := congrArg Prod.fst h
    have : a ∈ endF n f b := by
      rw [← h1]
      simp [endF, ha]
    simpa [endF] using (List.mem_filter.mp this).2
  · intro h
    unfold endF staF
    rw [h]
theorem deqs_nilT (l : List Nat) : deqs (nats l) [] = l.isEmpty := by cases l <;> rfl
theorem okD_tupT (j : Nat) (l : List Nat) : okD (j + 1) (.tup (nats l)) = true := by simp only [okD]; exact okDs_nats l
theorem okD_pair (c : List Nat × List Nat) : okD 60 (pairT c) = true := by
  unfold pairT
  simp only [okD, okDs, okDs_nats, Bool.and_true]
theorem wp_meeting (h : S_meeting ws μ P) : t_meeting (xcOf μ.length P) (endsOf .d μ.length P) (ws.map some ++ List.replicate (6 - ws.length) none) μ := by
  obtain ⟨ds, rfl, hl, rfl, n, cs, a, b, rfl, ⟨hn, hc, hcl⟩, h1, h2, h3⟩ := h
  simp [-dSeq, t_meeting]
  rw [dSeq]
  simp [-dSeq, rowD, List.lookup, F_check_person]
  refine ⟨fun a0 an => ?_, fun h => ?_⟩
  · have ka : OkP n a := ⟨a0, an⟩
    obtain ⟨p, rfl⟩ := Int.eq_ofNat_of_zero_le a0
    have hp : p < n := by omega
    rw [dSeq]
    simp [-dSeq, List.lookup, F_check_person]
    refine ⟨fun b0 bn => ?_, fun h => ?_⟩
    · have kb : OkP n b := ⟨b0, bn⟩
      obtain ⟨q, rfl⟩ := Int.eq_ofNat_of_zero_le b0
      have hq : q < n := by omega
      have hP := h3 ka kb
      simp only [Int.toNat_natCast] at hP
      rw [dSeq]
      simp [-dSeq]
      refine ⟨n, cs, rfl, hn, hc, hcl, ?_⟩
      dsimp only
      generalize (fun x => (blkR n cs).getD x 0) = f at hP ⊢
      rw [dSeq]
      simp [-dSeq]
      refine ⟨n, p, f, rfl, ⟨hn.2, hp⟩, n, q, f, rfl, ⟨hn.2, hq⟩, ?_⟩
      dsimp only
      rw [dSeq]
      have at1 : ∀ a c : List Nat, atI [D.tup (nats a), D.tup (nats c)] 1 = some (D.tup (nats c)) := fun a c => atI_nat (j := 1) rfl rfl
      simp [-dSeq, fEq, okD_pair, pair_deq, cls_eq (n := n) (f := f) hp]
      unfold meetW at hP
      by_cases e : f p = f q
      · rw [if_pos e] at hP ⊢
        exact hP
      · rw [if_neg e] at hP ⊢
        simp [pairT, at1, deq, deqs_nilT, okD_tupT]
        by_cases e1 : staF n f p = []
        · rw [if_pos (.inl e1)] at hP
          rw [if_pos e1]
          exact ⟨rfl, hP⟩
        · rw [if_neg e1]
          by_cases e2 : staF n f q = []
          · rw [if_pos (.inr e2)] at hP
            rw [if_pos e2]
            exact ⟨rfl, rfl, hP⟩
          · rw [if_neg (fun z => z.elim e1 e2)] at hP
            rw [if_neg e2]
            exact ⟨rfl, rfl, hP⟩
    · have : ¬ OkP n b := fun z => by have := h z.1; have := z.2; omega
      simpa [closedB] using h2 ka this
  · have : ¬ OkP n a := fun z => by have := h z.1; have := z.2; omega
    simpa [closedB] using h1 this
theorem wp_l_numbered (h : S_l_numbered ws μ P) : t_l_numbered (xcOf μ.length P) (endsOf .d μ.length P) (ws.map some ++ List.replicate (2 - ws.length) none) μ := by
  obtain ⟨ds, rfl, hl, rfl, r, rfl, hr, hP⟩ := h
  simp [t_l_numbered, dLc_eq]
  refine lc_map r (W.d ∘ nat) (fun x => nat (r.idxOf x)) (by simp [nats]) (fun _ => trivial) (by simp [closedB]) (by have : sizeLine = 16777216 := rfl; omega) (fun x hx acc K N hK => ?_) ?_
  · have h1 : r.idxOf x < r.length := List.idxOf_lt_length_of_mem hx
    simp
    refine ⟨r.map Int.ofNat, by simp [nats, nat], r.idxOf x, ?_, ?_, hK⟩
    · rw [List.getElem?_map, List.getElem?_eq_getElem h1, List.getElem_idxOf h1]
      rfl
    · intro m hm h
      rw [List.getElem?_map] at h
      have h2 : m < r.length := by omega
      rw [List.getElem?_eq_getElem h2] at h
      have e : r[m] = x := by simpa using h
      have := List.not_of_lt_findIdx (p := (· == x)) (xs := r) (i := m) (by simpa [List.idxOf] using hm)
      simp [e] at this
  · rw [if_neg Bool.false_ne_true]
    simpa [numR, nats, Function.comp_def] using hP
theorem wp_l_outcome (h : S_l_outcome ws μ P) : t_l_outcome (xcOf μ.length P) (endsOf .d μ.length P) (ws.map some ++ List.replicate (4 - ws.length) none) μ := by
  obtain ⟨ds, rfl, hl, rfl, n, cs, a, b, rfl, h0, h1, h2, h3⟩ := h
  simp [-dSeq, t_l_outcome]
  rw [dSeq]
  simp [-dSeq]
  refine ⟨n, cs, a, b, rfl, h0, fun h => ?_, fun h k => ?_, fun h k => ?_⟩
  · have := h1 h
    simpa [List.lookup] using this
  · have := h2 h k
    simpa [List.lookup] using this
  · have := h3 h k
    simpa using this
theorem wp_l_word (h : S_l_word ws μ P) : t_l_word (xcOf μ.length P) (endsOf .d μ.length P) (ws.map some ++ List.replicate (5 - ws.length) none) μ := by
  obtain ⟨ds, rfl, hl, rfl, n, a, b, es, rfl, ⟨ha, hb⟩, hes, hz, hP⟩ := h
  simp [-dSeq, t_l_word]
  rw [dSeq]
  simp [-dSeq, dLc_eq]
  have gt : ∀ e : List Nat, e.length = n → ∀ {i}, i < n → atI (nats e) (i : Int) = some (nat (e.getD i 0)) := fun e he {i} hi => by rw [atI_nats (by omega), getD_lt (by omega)]
  refine lc_mapF es (fun e => W.d (.tup (nats e))) (fun e => decide (e.getD a 0 = e.getD b 0)) (fun e => .tup (nats e)) (by simp [Function.comp_def]) (fun _ => trivial) (by simp [closedB]) (by have : sizeLine = 16777216 := rfl; omega) (fun e he acc K N hK => ?_) ?_
  · have := hes e he
    simp [gt e this ha, gt e this hb, fEq, deq_nat, -List.getD_eq_getElem?_getD]
    simpa using hK
  · rw [if_neg Bool.false_ne_true]
    rw [dSeq]
    simp [-dSeq, fEq, deq, -List.getD_eq_getElem?_getD]
    unfold wordW at hP
    by_cases e1 : ∀ e ∈ es, e.getD a 0 = e.getD b 0
    · rw [if_pos e1] at hP ⊢
      exact hP
    · rw [if_neg e1] at hP ⊢
      have ok : ∀ l : List (List Nat), okD 60 (.lst (l.map fun e => .tup (nats e))) = true := fun l => by
        simp only [okD, okDs_all, List.all_eq_true]
        intro d hd
        obtain ⟨g, _, rfl⟩ := List.mem_map.mp hd
        exact okD_tupT _ _
      refine ⟨ok _, rfl, ?_⟩
      have dn : ∀ l : List (List Nat), deqs (l.map fun e => D.tup (nats e)) [] = l.isEmpty := fun l => by cases l <;> rfl
      rw [dn]
      by_cases e2 : ∀ e ∈ es, e.getD a 0 ≠ e.getD b 0
      · rw [if_pos e2] at hP
        rw [if_pos (by simpa [List.filter_eq_nil_iff] using e2)]
        exact hP
      · rw [if_neg e2] at hP
        rw [if_neg (by simpa [List.filter_eq_nil_iff] using e2)]
        exact hP
theorem wordW_ok (es : List (List Nat)) (a b : Nat) : PyData.strOk (wordW es a b) = true := by
  unfold wordW
  split
  · exact strOk_lit _
  · split <;> exact strOk_lit _
theorem wp_l_all_hold (h : S_l_all_hold ws μ P) : t_l_all_hold (xcOf μ.length P) (endsOf .d μ.length P) (ws.map some ++ List.replicate (5 - ws.length) none) μ := by
  obtain ⟨ds, rfl, hl, rfl, n, cs, es, rfl, ⟨hn, hc, hcl⟩, hes, hz, hw, hP⟩ := h
  simp [-dSeq, t_l_all_hold]
  rw [dSeq, dFor_eq]
  simp [-dSeq]
  refine ⟨by omega, ?_⟩
  refine ⟨fun i ρ' μ' => (∃ x y, ρ' = [some (.d (rowD n cs)), some (.d (.lst (es.map fun e => .tup (nats e)))), some (.d (nat n)), x, y]) ∧ μ' = [], ⟨⟨_, _, rfl⟩, rfl⟩, fun _ _ _ _ _ => trivial, fun i w ρ' μ' e h => ?_, fun ρ' μ' h => ?_⟩
  · obtain ⟨⟨x, y, rfl⟩, rfl⟩ := h
    have hi := (List.getElem?_eq_some_iff.mp e).1
    simp [rng] at hi
    simp [rng, hi] at e
    subst e
    simp [-dSeq]
    rw [dFor_eq]
    simp [-dSeq]
    refine ⟨by omega, ?_⟩
    refine ⟨fun j ρ' μ' => (∃ y, ρ' = [some (.d (rowD n cs)), some (.d (.lst (es.map fun e => .tup (nats e)))), some (.d (nat n)), some (.d (nat i)), y]) ∧ μ' = [], ⟨⟨_, rfl⟩, rfl⟩, fun _ _ _ _ _ => trivial, fun j w ρ' μ' e h => ?_, fun ρ' μ' h => ?_⟩
    · obtain ⟨⟨y, rfl⟩, rfl⟩ := h
      have hj := (List.getElem?_eq_some_iff.mp e).1
      simp [rng] at hj
      simp [rng, hj] at e
      subst e
      simp [-dSeq]
      have oi : OkP n (i : Int) := ⟨by omega, by omega⟩
      have oj : OkP n (j : Int) := ⟨by omega, by omega⟩
      refine ⟨n, cs, (i : Int), (j : Int), rfl, ⟨hn, hc, hcl⟩, fun h => absurd oi h, fun _ h => absurd oj h, fun _ _ => ?_⟩
      refine ⟨n, i, j, es, rfl, ⟨hi, hj⟩, hes, hz, ?_⟩
      simp only [Int.toNat_natCast]
      rw [hw i j hi hj]
      simp [fNe, deq, okD, wordW_ok]
    · obtain ⟨⟨y, rfl⟩, rfl⟩ := h
      exact ⟨⟨_, _, rfl⟩, rfl⟩
  · obtain ⟨⟨x, y, rfl⟩, rfl⟩ := h
    simpa using hP
def Lists (μ : M) : Prop := ∀ c ∈ μ, ∃ ds, c = .lst ds
theorem Lists.closed {μ : M} (h : Lists μ) (k : Nat) : closedB k μ = true := by
  refine List.all_eq_true.mpr fun c hc => ?_
  obtain ⟨ds, rfl⟩ := h c hc
  rfl
theorem Lists.app {μ : M} (h : Lists μ) (ds : List D) : Lists (μ ++ [.lst ds]) := fun c hc => by
  rcases List.mem_append.mp hc with hc | hc
  · exact h c hc
  · exact ⟨ds, List.mem_singleton.mp hc⟩
theorem Lists.set {μ : M} (h : Lists μ) (k : Nat) (ds : List D) : Lists (μ.set k (.lst ds)) := fun c hc => by
  rcases List.mem_or_eq_of_mem_set hc with hc | rfl
  · exact h c hc
  · exact ⟨ds, rfl⟩
theorem foldl_max_le {l : List Nat} {m : Nat} : ∀ {a : Nat}, a ≤ m → (∀ x ∈ l, x ≤ m) → l.foldl max a ≤ m := by
  induction l with
  | nil => intro a h _; exact h
  | cons b l ih =>
    intro a h hx
    rw [List.foldl_cons]
    have := hx b (List.mem_cons_self ..)
    exact ih (by omega) fun x h => hx x (List.mem_cons_of_mem _ h)
theorem maxL_zI {r : List Nat} (h : 0 < r.length) : maxL (zI r) = ((r.foldl max 0 : Nat) : Int) := by
  have hne : zI r ≠ [] := fun z => by simp [zI] at z; subst z; simp at h
  have hm := maxL_mem hne
  unfold zI at hm
  obtain ⟨x, hx, e⟩ := List.mem_map.mp hm
  have h1 : x ≤ r.foldl max 0 := le_foldl_max (.inl hx)
  have e : (x : Int) = maxL (zI r) := e
  have h2 : r.foldl max 0 ≤ x := by
    refine foldl_max_le (by omega) fun y hy => ?_
    have := maxL_ge (l := zI r) (x := (y : Int)) (List.mem_map.mpr ⟨y, hy, rfl⟩)
    omega
  omega
theorem wp_l_after (h : S_l_after ws μ P) : t_l_after (xcOf μ.length P) (endsOf .d μ.length P) (ws.map some ++ List.replicate (8 - ws.length) none) μ := by
  obtain ⟨ds, rfl, hl, rfl, n, ts, x, r, rfl, hx, hn, hr, hok, hP⟩ := h
  have hseq : seqIn [x] = some (nats r) := by rcases hx with rfl | rfl <;> rfl
  simp [-dSeq, -seqIn, t_l_after]
  rw [dSeq]
  simp [-dSeq, -seqIn, hseq]
  rw [dSeq, dFor_eq]
  simp [-dSeq]
  refine ⟨fun i ρ' μ' => ∃ k, (∃ x2 x3 x4 x5 x6 x7, ρ' = [some (.d (.lst (ts.map trD))), some (.r k), x2, x3, x4, x5, x6, x7]) ∧ μ'[k]? = some (.lst (nats (afterR ((cmsOf ts).take i) r))) ∧ Lists μ', ⟨0, ⟨_, _, _, _, _, _, rfl⟩, by simp [afterR], fun c hc => by simp at hc; exact ⟨_, hc⟩⟩, fun _ _ _ _ _ => trivial, fun i w ρ' μ' e h => ?_, fun ρ' μ' h => ?_⟩
  · obtain ⟨k, ⟨x2, x3, x4, x5, x6, x7, rfl⟩, hk, hls⟩ := h
    simp at e
    obtain ⟨c, z, hc, rfl⟩ := e
    have hci : (cmsOf ts)[i]? = some c := by simp [cmsOf, hc]
    have hcok := (hok _ (List.mem_of_getElem? hc)).1
    have hkl := (List.getElem?_eq_some_iff.mp hk).1
    have al : (afterR ((cmsOf ts).take i) r).length = n := by rw [after_len, hr]
    have e0 := after_take (r := r) hci
    generalize afterR ((cmsOf ts).take i) r = R at hk al e0
    have gD : ∀ {i}, i < n → atI (nats R) (i : Int) = some (nat (R.getD i 0)) := fun {i} h => by rw [atI_nats (by omega), getD_lt (by omega)]
    have iD : ∀ {i}, i < n → ixN R.length (i : Int) = some i := fun {i} h => ixN_nat (by omega)
    cases c with
    | join a b =>
      have ha : a < n := hcok a (by simp)
      have hb : b < n := hcok b (by simp)
      simp [-dSeq, trD, fEq, deq]
      rw [dSeq]
      simp [-dSeq, hk, gD ha, gD hb, -List.getD_eq_getElem?_getD, dLc_eq]
      refine lc_map R (W.d ∘ nat) (fun x => nat (if x = R.getD b 0 then R.getD a 0 else x)) (by simp [nats]) (fun acc => by show (μ' ++ [Cell.lst acc])[k]? = _; rw [List.getElem?_append_left hkl, hk]) (hls.closed _) (by have : sizeLine = 16777216 := rfl; omega) (fun x hx acc K N hK => ?_) ?_
      · by_cases q : x = R.getD b 0
        · rw [if_pos q] at hK
          simp [fEq, deq_nat, q, -List.getD_eq_getElem?_getD]
          exact hK
        · rw [if_neg q] at hK
          simp [fEq, deq_nat, q, -List.getD_eq_getElem?_getD]
          exact hK
      · rw [if_pos rfl]
        refine ⟨_, rfl, ?_, hls.app _⟩
        rw [e0]
        simp [doneR, nats]
    | free a =>
      have ha : a < n := hcok a (by simp)
      simp [-dSeq, trD, fEq, deq, hk, iD ha, -List.getD_eq_getElem?_getD]
      refine ⟨zI R, by rw [nats_zI]; rfl, fun z => by simp [zI] at z; subst z; simp at al; omega, ?_⟩
      rw [maxL_zI (by omega)]
      show (List.set μ' k (Cell.lst ((nats R).set a (.int (((R.foldl max 0 : Nat) : Int) + 1)))))[k]? = _ ∧ _
      rw [show ((R.foldl max 0 : Nat) : Int) + 1 = ((R.foldl max 0 + 1 : Nat) : Int) from by omega, nats_set, e0]
      exact ⟨by simp [doneR, hkl], hls.set _ _⟩
    | swap a b =>
      have ha : a < n := hcok a (by simp)
      have hb : b < n := hcok b (by simp)
      have hset : ∀ x : Cell, (μ'.set k x)[k]? = some x := fun x => List.getElem?_set_self hkl
      simp [-dSeq, trD, fEq, deq, hk, hset, gD ha, gD hb, iD ha, iD hb, -List.getD_eq_getElem?_getD]
      exact ⟨by rw [e0]; simp [doneR, hkl], hls.set _ _⟩
    | move a b =>
      have ha : a < n := hcok a (by simp)
      have hb : b < n := hcok b (by simp)
      simp [-dSeq, trD, fEq, deq, hk, gD hb, iD ha, -List.getD_eq_getElem?_getD]
      exact ⟨by rw [e0]; simp [doneR, hkl], hls.set _ _⟩
  · obtain ⟨k, ⟨x2, x3, x4, x5, x6, x7, rfl⟩, hk, hls⟩ := h
    rw [List.take_of_length_le (by simp [cmsOf])] at hk
    have hkl := (List.getElem?_eq_some_iff.mp hk).1
    simp [hk]
    exact ⟨_, rfl, by rw [after_len]; omega, hP⟩
theorem strict_uniq : ∀ {l m : List Int}, l.Pairwise (· < ·) → m.Pairwise (· < ·) → (∀ k, k ∈ l ↔ k ∈ m) → l = m
  | [], [], _, _, _ => rfl
  | [], b :: m, _, _, h => by have := (h b).mpr (List.mem_cons_self ..); cases this
  | a :: l, [], _, _, h => by have := (h a).mp (List.mem_cons_self ..); cases this
  | a :: l, b :: m, hl, hm, h => by
    obtain ⟨l1, l2⟩ := List.pairwise_cons.mp hl
    obtain ⟨m1, m2⟩ := List.pairwise_cons.mp hm
    have e : a = b := by
      rcases List.mem_cons.mp ((h a).mp (List.mem_cons_self ..)) with e | e
      · exact e
      · rcases List.mem_cons.mp ((h b).mpr (List.mem_cons_self ..)) with f | f
        · exact f.symm
        · have := m1 a e
          have := l1 b f
          omega
    subst e
    rw [strict_uniq l2 m2 fun k => ?_]
    have hk := h k
    constructor
    · intro z
      have := l1 k z
      rcases List.mem_cons.mp (hk.mp (List.mem_cons_of_mem _ z)) with e | e
      · omega
      · exact e
    · intro z
      have := m1 k z
      rcases List.mem_cons.mp (hk.mpr (List.mem_cons_of_mem _ z)) with e | e
      · omega
      · exact e
theorem allR_in : ∀ {k : Nat} {r : List Nat}, r ∈ allR k → r.length = k ∧ ∀ x ∈ r, x < k
  | 0, r, h => by simp [allR] at h; subst h; simp
  | k + 1, r, h => by
    simp only [allR, List.mem_flatMap, List.mem_map] at h
    obtain ⟨r', hr', x, hx, rfl⟩ := h
    obtain ⟨h1, h2⟩ := allR_in hr'
    have hxk : x < k + 1 := by
      rcases List.mem_append.mp hx with h | h
      · have := List.mem_range.mp (List.mem_filter.mp h).1
        omega
      · rw [List.mem_singleton.mp h]
        omega
    refine ⟨by simp [h1], fun y hy => ?_⟩
    rcases List.mem_append.mp hy with h | h
    · have := h2 y h
      omega
    · rw [List.mem_singleton.mp h]
      exact hxk
def nextL (k : Nat) (r : List Nat) : List (List Nat) := ((List.range k).filter (fun x => r.contains x) ++ [k]).map fun x => r ++ [x]
theorem allR_succ (k : Nat) : allR (k + 1) = (allR k).flatMap (nextL k) := rfl
theorem nextL_len {k : Nat} {r : List Nat} : (nextL k r).length ≤ k + 1 := by
  have := List.length_filter_le (fun x => r.contains x) (List.range k)
  simp [nextL] at this ⊢
  omega
theorem flat_len {α β : Type} {f : α → List β} {c : Nat} (h : ∀ a, (f a).length ≤ c) : ∀ l : List α, (l.flatMap f).length ≤ c * l.length
  | [] => by simp
  | a :: l => by
    have := flat_len h l
    have := h a
    simp only [List.flatMap_cons, List.length_append, List.length_cons, Nat.mul_add]
    omega
theorem allR_len : ∀ k, k ≤ 5 → (allR k).length ≤ 1000 := by
  have l0 : (allR 0).length ≤ 1 := by simp [allR]
  have st : ∀ k, (allR (k + 1)).length ≤ (k + 1) * (allR k).length := fun k => by rw [allR_succ]; exact flat_len (fun r => nextL_len) _
  have l1 : (allR 1).length ≤ 1 * (allR 0).length := st 0
  have l2 : (allR 2).length ≤ 2 * (allR 1).length := st 1
  have l3 : (allR 3).length ≤ 3 * (allR 2).length := st 2
  have l4 : (allR 4).length ≤ 4 * (allR 3).length := st 3
  have l5 : (allR 5).length ≤ 5 * (allR 4).length := st 4
  intro k hk
  have : k = 0 ∨ k = 1 ∨ k = 2 ∨ k = 3 ∨ k = 4 ∨ k = 5 := by omega
  rcases this with rfl | rfl | rfl | rfl | rfl | rfl <;> omega
theorem wp_l_all_rooms (h : S_l_all_rooms ws μ P) : t_l_all_rooms (xcOf μ.length P) (endsOf .d μ.length P) (ws.map some ++ List.replicate (6 - ws.length) none) μ := by
  obtain ⟨ds, rfl, hl, rfl, n, rfl, hn, hP⟩ := h
  simp [-dSeq, t_l_all_rooms]
  rw [dSeq]
  simp [-dSeq]
  rw [dSeq, dFor_eq]
  simp [-dSeq]
  refine ⟨by omega, ?_⟩
  refine ⟨fun i ρ' μ' => ∃ kr, (∃ x2 x3 x4 x5, ρ' = [some (.d (nat n)), some (.r kr), x2, x3, x4, x5]) ∧ μ'[kr]? = some (.lst ((allR i).map fun r => .tup (nats r))) ∧ Lists μ', ⟨0, ⟨_, _, _, _, rfl⟩, rfl, fun c hc => by simp at hc; exact ⟨_, hc⟩⟩, fun _ _ _ _ _ => trivial, fun i w ρ' μ' e h => ?_, fun ρ' μ' h => ?_⟩
  · obtain ⟨kr, ⟨x2, x3, x4, x5, rfl⟩, hk, hls⟩ := h
    have hi := (List.getElem?_eq_some_iff.mp e).1
    simp [rng] at hi
    simp [rng, hi] at e
    subst e
    have hkl := (List.getElem?_eq_some_iff.mp hk).1
    have hlen := allR_len i (by omega)
    simp [-dSeq]
    rw [dSeq]
    simp [-dSeq]
    rw [dSeq, dFor_eq]
    have hk2 : (μ' ++ [Cell.lst []])[kr]? = some (.lst ((allR i).map fun r => .tup (nats r))) := by rw [List.getElem?_append_left hkl, hk]
    simp [-dSeq, hk2]
    refine ⟨fun j ρ' μ'' => (∃ x4 x5, ρ' = [some (.d (nat n)), some (.r kr), some (.d (nat i)), some (.r μ'.length), x4, x5]) ∧ μ'' = μ' ++ [.lst (((((allR i).take j).flatMap (nextL i))).map fun r => .tup (nats r))], ⟨⟨_, _, rfl⟩, by simp⟩, fun j ρ' μ'' _ h => ?_, fun j w ρ' μ'' e h => ?_, fun ρ' μ'' h => ?_⟩
    · obtain ⟨_, rfl⟩ := h
      show (μ' ++ _)[kr]? = _
      rw [List.getElem?_append_left hkl, hk]
    · obtain ⟨⟨x4, x5, rfl⟩, rfl⟩ := h
      simp at e
      obtain ⟨r, hr, rfl⟩ := e
      obtain ⟨r1, r2⟩ := allR_in (List.mem_of_getElem? hr)
      have e1 : ((allR i).take (j + 1)).flatMap (nextL i) = ((allR i).take j).flatMap (nextL i) ++ nextL i r := by
        rw [List.take_succ, hr]
        simp
      have b1 : (((allR i).take j).flatMap (nextL i)).length ≤ (i + 1) * 1000 := by
        have := flat_len (f := nextL i) (fun r => nextL_len) ((allR i).take j)
        have h2 : ((allR i).take j).length ≤ 1000 := by simp; omega
        exact Nat.le_trans this (Nat.mul_le_mul_left _ h2)
      have b2 : (nextL i r).length ≤ i + 1 := nextL_len
      generalize ((allR i).take j).flatMap (nextL i) = A at e1 b1 ⊢
      have b3 : (i + 1) * 1000 ≤ 6000 := by omega
      have cls : ∀ (ds : List D) k, closedB k (μ' ++ [.lst ds]) = true := fun ds k => (hls.app ds).closed k
      simp [-dSeq, e1, dLc_eq]
      have zl : (zI r).length = i := by simp [zI, r1]
      refine ⟨zI r, by rw [nats_zI], by omega, fun ms hs hm => ?_⟩
      have em : ms = zI ((List.range i).filter fun x => r.contains x) := by
        refine strict_uniq hs ?_ fun k => ?_
        · refine List.pairwise_map.mpr ?_
          exact (List.pairwise_lt_range.filter _).imp fun {a b} h => by simpa using h
        · rw [hm k]
          simp only [zI, List.mem_map, List.mem_filter, List.mem_range]
          constructor
          · rintro ⟨y, hy, rfl⟩
            exact ⟨y, ⟨r2 y hy, by simpa using hy⟩, rfl⟩
          · rintro ⟨y, ⟨_, hy⟩, rfl⟩
            exact ⟨y, by simpa using hy, rfl⟩
      subst em
      have ul : (zI ((List.range i).filter fun x => r.contains x)).length ≤ i := by
        have := List.length_filter_le (fun x => r.contains x) (List.range i)
        simp only [zI, List.length_map]
        simpa using this
      refine ⟨by omega, ?_⟩
      refine lc_map ((List.range i).filter (fun x => r.contains x) ++ [i]) (W.d ∘ nat) (fun x => .tup (nats (r ++ [x]))) (by simp [zI, nat]) (fun _ => trivial) (cls _ _) (by have : sizeLine = 16777216 := rfl; simp [zI] at ul; simp; omega) (fun x hx acc K N hK => ?_) ?_
      · simp
        refine ⟨by omega, ?_⟩
        simpa using hK
      · rw [if_neg Bool.false_ne_true]
        simp [nextL] at b2 ⊢
        omega
    · obtain ⟨⟨x4, x5, rfl⟩, rfl⟩ := h
      simp
      exact ⟨rfl, hls.app _⟩
  · obtain ⟨kr, ⟨x2, x3, x4, x5, rfl⟩, hk, hls⟩ := h
    simp [rng] at hk
    simp [hk]
    exact hP
end
end DD
namespace DD
open PySem L2 RZ
/-! ### a row's picture says who meets -/
theorem lab_many : ∀ (ms : List (Nat × Nat)) {n : Nat} {ls : List (Nat × Nat)} {R : List Nat}, Lab n ls R → (∀ p ∈ ls, p.1 < n ∧ p.2 < n) → (∀ p ∈ ms, p.1 < n ∧ p.2 < n) → ∃ R', Lab n (ls ++ ms) R'
  | [], _, _, R, h, _, _ => ⟨R, by simpa using h⟩
  | p :: ms, n, ls, R, h, hl, hm => by
    obtain ⟨h1, h2⟩ := hm p (List.mem_cons_self ..)
    obtain ⟨R', h'⟩ := lab_many ms (lab_link h hl h1 h2) (fun q hq => by
      rcases List.mem_append.mp hq with hq | hq
      · exact hl q hq
      · rw [List.mem_singleton.mp hq]
        exact ⟨h1, h2⟩) (fun q hq => hm q (List.mem_cons_of_mem _ hq))
    exact ⟨R', by simpa using h'⟩
theorem lab_ex {n : Nat} (ms : List (Nat × Nat)) (hm : ∀ p ∈ ms, p.1 < n ∧ p.2 < n) : ∃ R, Lab n ms R := by
  obtain ⟨R, h⟩ := lab_many ms (lab_start n) (by simp) hm
  exact ⟨R, by simpa using h⟩
theorem labF_sta {n : Nat} {f R : Nat → Nat} {p i : Nat} (hi : i ∈ staF n f p) (hR : ∀ i j, i ∈ staF n f p → j ∈ staF n f p → R i = R j) : labF n f R p = R i := by
  unfold labF
  cases e : (List.range n).find? (fun q => f (n + q) == f p) with
  | none =>
    obtain ⟨h1, h2⟩ := List.mem_filter.mp hi
    exact absurd h2 (List.find?_eq_none.mp e i h1)
  | some j =>
    have h1 := List.find?_some e
    have h2 := List.mem_of_find?_eq_some e
    exact hR j i (List.mem_filter.mpr ⟨h2, h1⟩) hi
theorem labF_none {n : Nat} {f R : Nat → Nat} {p : Nat} (h : staF n f p = []) : labF n f R p = n + ((List.range n).find? fun q => f q == f p).getD 0 := by
  unfold labF
  have : (List.range n).find? (fun q => f (n + q) == f p) = none := by
    rw [List.find?_eq_none]
    intro x hx hv
    have : x ∈ staF n f p := List.mem_filter.mpr ⟨hx, hv⟩
    rw [h] at this
    cases this
  rw [this]
section
variable {n : Nat} {cs : List Cm}
theorem links_lt {r : List Nat} (hl : r.length = n) (f : Nat → Nat) : ∀ p ∈ ls0 (blksB n f ++ canonL r), p.1 < n ∧ p.2 < n := fun p hp => by
  obtain ⟨g, hg, h2, h1⟩ := ls0_mem.mp hp
  have ne : g ≠ [] := fun z => by rw [z] at h2; cases h2
  have hh : p.1 ∈ g := by rw [h1]; exact head_in ne 0
  have each : ∀ x ∈ g, x < n := by
    rcases List.mem_append.mp hg with hg | hg
    · exact fun x hx => (blks_in hg x hx).1
    · have F := fits_canon n (r.getD · 0)
      have ec : canonL r = canonF n (r.getD · 0) := by rw [canonL, hl]
      rw [ec] at hg
      exact F.lt g hg
  exact ⟨each _ hh, each _ h2⟩
theorem sta_blk {f : Nat → Nat} {p : Nat} (hp : p < n) (hs : staF n f p ≠ []) : staF n f p ∈ blksB n f := by
  obtain ⟨c, hc, hpc⟩ := in_class (n := n) (f := f) hp
  obtain ⟨q, hq, _, e1, e2⟩ := picC_cls hc
  rw [e1] at hpc
  have e : f p = f q := (mem_cls.mp hpc).2
  refine List.mem_append.mpr (.inl (List.mem_map.mpr ⟨c, hc, ?_⟩))
  rw [e2]
  unfold staF
  rw [e]
/-- two people of a row, for a start -/
theorem meet_start (hc : ∀ c ∈ cs, c.ok n) {r : List Nat} (hl : r.length = n) {a b : Nat} (ha : a < n) (hb : b < n) :
    (((blkR n cs).getD a 0 = (blkR n cs).getD b 0) → (afterR cs r).getD a 0 = (afterR cs r).getD b 0) ∧
    (((blkR n cs).getD a 0 ≠ (blkR n cs).getD b 0) → (staF n ((blkR n cs).getD · 0) a = [] ∨ staF n ((blkR n cs).getD · 0) b = []) → (afterR cs r).getD a 0 ≠ (afterR cs r).getD b 0) ∧
    (((blkR n cs).getD a 0 ≠ (blkR n cs).getD b 0) → ∀ i j, i ∈ staF n ((blkR n cs).getD · 0) a → j ∈ staF n ((blkR n cs).getD · 0) b → ((afterR cs r).getD a 0 = (afterR cs r).getD b 0 ↔ Conn (ls0 (blksB n ((blkR n cs).getD · 0) ++ canonL r)) i j)) := by
  obtain ⟨R, hR⟩ := lab_ex _ (links_lt hl ((blkR n cs).getD · 0))
  have T := picture_tells hc hl hR ha hb
  obtain ⟨f, hf⟩ : ∃ f : Nat → Nat, f = fun x => (blkR n cs).getD x 0 := ⟨_, rfl⟩
  have hfa : ∀ x, (blkR n cs).getD x 0 = f x := fun x => by rw [hf]
  rw [← hf] at T hR
  rw [← hf, hfa, hfa]
  clear hf hfa
  have rl : ∀ i, i < n → R.getD i 0 < n := fun i hi => hR.lt _ (getD_mem (by rw [hR.len]; exact hi))
  have same : ∀ p, p < n → ∀ i j, i ∈ staF n f p → j ∈ staF n f p → R.getD i 0 = R.getD j 0 := fun p hp i j hi hj => by
    have hin := List.mem_range.mp (List.mem_filter.mp hi).1
    have hjn := List.mem_range.mp (List.mem_filter.mp hj).1
    rw [lab_iff hR hin hjn]
    have hm : staF n f p ∈ blksB n f ++ canonL r := List.mem_append.mpr (.inl (sta_blk hp fun z => by rw [z] at hi; cases hi))
    intro g hg
    have l : ∀ x, x ∈ staF n f p → g ((staF n f p).headD 0) = g x := fun x hx => hg (_, x) (ls0_mem.mpr ⟨_, hm, hx, rfl⟩)
    rw [← l i hi, ← l j hj]
  refine ⟨fun e => T.mp ?_, fun e h z => ?_, fun e i j hi hj => ?_⟩
  · unfold labF
    rw [e]
  · have z := T.mpr z
    have noneL : ∀ p, p < n → staF n f p = [] → ∃ t, labF n f (R.getD · 0) p = n + t ∧ f t = f p := fun p hp hs => by
      rw [labF_none hs]
      cases e : (List.range n).find? (fun q => f q == f p) with
      | none =>
        have := List.find?_eq_none.mp e p (List.mem_range.mpr hp)
        simp at this
      | some t =>
        have := List.find?_some e
        exact ⟨t, rfl, by simpa using this⟩
    have someL : ∀ p, p < n → staF n f p ≠ [] → labF n f (R.getD · 0) p < n := fun p hp hs => by
      cases e : staF n f p with
      | nil => exact absurd e hs
      | cons i t =>
        have hi : i ∈ staF n f p := by rw [e]; exact List.mem_cons_self ..
        rw [labF_sta hi (same p hp)]
        exact rl i (List.mem_range.mp (List.mem_filter.mp hi).1)
    by_cases h1 : staF n f a = []
    · obtain ⟨t, t1, t2⟩ := noneL a ha h1
      by_cases h2 : staF n f b = []
      · obtain ⟨u, u1, u2⟩ := noneL b hb h2
        rw [t1, u1] at z
        have : t = u := by omega
        subst this
        exact e (t2.symm.trans u2)
      · have := someL b hb h2
        rw [← z, t1] at this
        omega
    · have h2 : staF n f b = [] := h.resolve_left h1
      obtain ⟨u, u1, u2⟩ := noneL b hb h2
      have := someL a ha h1
      rw [z, u1] at this
      omega
  · have hin := List.mem_range.mp (List.mem_filter.mp hi).1
    have hjn := List.mem_range.mp (List.mem_filter.mp hj).1
    rw [← T, labF_sta hi (same a ha), labF_sta hj (same b hb)]
    exact lab_iff hR hin hjn
end
theorem numR_eq {r : List Nat} {a b : Nat} (ha : a < r.length) (hb : b < r.length) : (numR r).getD a 0 = (numR r).getD b 0 ↔ r.getD a 0 = r.getD b 0 := by
  have e : ∀ {i}, i < r.length → (numR r).getD i 0 = r.idxOf (r.getD i 0) := fun {i} hi => by
    rw [getD_lt (by simpa [numR] using hi), getD_lt hi]
    simp [numR]
  rw [e ha, e hb]
  constructor
  · intro h
    have m : ∀ {i}, i < r.length → r[r.idxOf (r.getD i 0)]? = some (r.getD i 0) := fun {i} hi => by
      have hm := getD_mem (l := r) (i := i) hi
      have h1 := List.idxOf_lt_length_of_mem hm
      rw [List.getElem?_eq_getElem h1, List.getElem_idxOf h1]
    have h1 := m ha
    rw [h, m hb] at h1
    exact (Option.some.inj h1).symm
  · intro h
    rw [h]
theorem meet_word {n : Nat} {cs : List Cm} (hn : 1 ≤ n) (hc : ∀ c ∈ cs, c.ok n) {Rs : List (List Nat)} (hl : ∀ r ∈ Rs, r.length = n) (h1 : List.range n ∈ Rs) (h2 : List.replicate n 0 ∈ Rs) {a b : Nat} (ha : a < n) (hb : b < n) :
    meetW n ((blkR n cs).getD · 0) a b = wordW (Rs.map fun r => numR (afterR cs r)) a b := by
  have al : ∀ r ∈ Rs, (afterR cs r).length = n := fun r hr => by rw [after_len, hl r hr]
  have es : ∀ r ∈ Rs, ((numR (afterR cs r)).getD a 0 = (numR (afterR cs r)).getD b 0 ↔ (afterR cs r).getD a 0 = (afterR cs r).getD b 0) := fun r hr => numR_eq (by rw [al r hr]; exact ha) (by rw [al r hr]; exact hb)
  have allEq : (∀ e ∈ Rs.map fun r => numR (afterR cs r), e.getD a 0 = e.getD b 0) ↔ ∀ r ∈ Rs, (afterR cs r).getD a 0 = (afterR cs r).getD b 0 := by
    constructor
    · intro h r hr
      exact (es r hr).mp (h _ (List.mem_map.mpr ⟨r, hr, rfl⟩))
    · intro h e he
      obtain ⟨r, hr, rfl⟩ := List.mem_map.mp he
      exact (es r hr).mpr (h r hr)
  have allNe : (∀ e ∈ Rs.map fun r => numR (afterR cs r), e.getD a 0 ≠ e.getD b 0) ↔ ∀ r ∈ Rs, (afterR cs r).getD a 0 ≠ (afterR cs r).getD b 0 := by
    constructor
    · intro h r hr z
      exact h _ (List.mem_map.mpr ⟨r, hr, rfl⟩) ((es r hr).mpr z)
    · intro h e he z
      obtain ⟨r, hr, rfl⟩ := List.mem_map.mp he
      exact h r hr ((es r hr).mp z)
  unfold meetW wordW
  by_cases e : (blkR n cs).getD a 0 = (blkR n cs).getD b 0
  · rw [if_pos e, if_pos (allEq.mpr fun r hr => (meet_start hc (hl r hr) ha hb).1 e)]
  · rw [if_neg e]
    by_cases s : staF n ((blkR n cs).getD · 0) a = [] ∨ staF n ((blkR n cs).getD · 0) b = []
    · have d := fun r hr => (meet_start hc (hl r hr) ha hb).2.1 e s
      rw [if_pos s, if_neg (fun z => d _ h1 (allEq.mp z _ h1)), if_pos (allNe.mpr d)]
    · rw [if_neg s]
      obtain ⟨i, hi⟩ : ∃ i, i ∈ staF n ((blkR n cs).getD · 0) a := by
        cases q : staF n ((blkR n cs).getD · 0) a with
        | nil => exact absurd (.inl q) s
        | cons x t => exact ⟨x, List.mem_cons_self ..⟩
      obtain ⟨j, hj⟩ : ∃ j, j ∈ staF n ((blkR n cs).getD · 0) b := by
        cases q : staF n ((blkR n cs).getD · 0) b with
        | nil => exact absurd (.inr q) s
        | cons x t => exact ⟨x, List.mem_cons_self ..⟩
      have hin := List.mem_range.mp (List.mem_filter.mp hi).1
      have hjn := List.mem_range.mp (List.mem_filter.mp hj).1
      have d1 : (afterR cs (List.range n)).getD a 0 ≠ (afterR cs (List.range n)).getD b 0 := fun z => by
        have C := ((meet_start hc (hl _ h1) ha hb).2.2 e i j hi hj).mp z
        refine e ?_
        have : (blkR n cs).getD (n + i) 0 = (blkR n cs).getD (n + j) 0 := by
          refine C (fun x => (blkR n cs).getD (n + x) 0) fun p hp => ?_
          obtain ⟨g, hg, p2, p1⟩ := ls0_mem.mp hp
          have ne : g ≠ [] := fun z => by rw [z] at p2; cases p2
          have hh : p.1 ∈ g := by rw [p1]; exact head_in ne 0
          rcases List.mem_append.mp hg with hg | hg
          · exact (blks_in hg p.1 hh).2 p.2 p2
          · have F := fits_canon n ((List.range n).getD · 0)
            have ec : canonL (List.range n) = canonF n ((List.range n).getD · 0) := by rw [canonL, List.length_range]
            rw [ec] at hg
            have q1 := F.lt g hg _ hh
            have q2 := F.lt g hg _ p2
            have := (F.eq p.1 p.2 q1 q2).mpr (.inr ⟨g, hg, hh, p2⟩)
            simp only [List.getD_eq_getElem?_getD, List.getElem?_range q1, List.getElem?_range q2, Option.getD_some] at this
            rw [this]
        have k1 : (blkR n cs).getD (n + i) 0 = (blkR n cs).getD a 0 := by simpa using (List.mem_filter.mp hi).2
        have k2 : (blkR n cs).getD (n + j) 0 = (blkR n cs).getD b 0 := by simpa using (List.mem_filter.mp hj).2
        rw [← k1, ← k2, this]
      have d2 : (afterR cs (List.replicate n 0)).getD a 0 = (afterR cs (List.replicate n 0)).getD b 0 := by
        refine ((meet_start hc (hl _ h2) ha hb).2.2 e i j hi hj).mpr ?_
        have C : Conn (ls0 (canonL (List.replicate n 0))) i j := (conn_groups (r := List.replicate n 0) (by simp) hin hjn).mpr (by simp [List.getD_eq_getElem?_getD, hin, hjn])
        refine conn_mono C fun p hp => ?_
        rw [ls0_app]
        exact List.mem_append.mpr (.inr hp)
      rw [if_neg (fun z => d1 (allEq.mp z _ h1)), if_neg (fun z => allNe.mp z _ h2 d2)]
theorem allR_range : ∀ k, List.range k ∈ allR k
  | 0 => by simp [allR]
  | k + 1 => by
    rw [allR_succ, List.range_succ]
    exact List.mem_flatMap.mpr ⟨_, allR_range k, List.mem_map.mpr ⟨k, by simp, rfl⟩⟩
theorem allR_zeros : ∀ k, List.replicate k 0 ∈ allR k
  | 0 => by simp [allR]
  | k + 1 => by
    rw [allR_succ, List.replicate_succ']
    refine List.mem_flatMap.mpr ⟨_, allR_zeros k, List.mem_map.mpr ⟨0, ?_, rfl⟩⟩
    cases k with
    | zero => simp
    | succ k => exact List.mem_append.mpr (.inl (List.mem_filter.mpr ⟨by simp, by simp [List.replicate_succ]⟩))
end DD
namespace DD
open PySem L2 RZ
section
variable {ws : List W} {μ : M} {P : Res → M → Prop} {Q : W → M → Prop} {xc : Exc → M → Prop}
theorem len_law {K : PySem.W.Frag} (h : S_law K ws μ P) : ws.length = 1 := by obtain ⟨_, rfl, _⟩ := h; rfl
theorem wp_law {K : PySem.W.Frag} (h : S_law K ws μ P) : t_law (xcOf μ.length P) K (endsOf .d μ.length P) (ws.map some ++ List.replicate (13 - ws.length) none) μ := by
  obtain ⟨ns, rfl, rfl, hns, hP⟩ := h
  simp [-dSeq, t_law]
  rw [dSeq]
  simp [-dSeq]
  rw [dFor_eq]
  simp [-dSeq]
  intro v0
  have hcut : (cutL ns (some 1) (some 2)).length ≤ 63 := by
    unfold cutL
    rw [List.length_take, List.length_drop]
    omega
  refine ⟨by omega, ?_⟩
  refine ⟨fun i ρ' μ' => (∃ x1 x2 x3 x4 x5 x6 x7 x8 x9 x10 x11 x12, ρ' = [some (.r 0), x1, x2, x3, x4, x5, x6, x7, x8, x9, x10, x11, x12]) ∧ ∃ more, μ' = .scr ns (scrK K ns) :: more ∧ ∀ k, closedB k more = true, ⟨⟨_, _, _, _, _, _, _, _, _, _, _, _, rfl⟩, [], rfl, fun _ => rfl⟩, fun _ _ _ _ _ => trivial, fun i w ρ' μ' e h => ?_, fun ρ' μ' h => ?_⟩
  · obtain ⟨⟨x1, x2, x3, x4, x5, x6, x7, x8, x9, x10, x11, x12, rfl⟩, more, rfl, hcl⟩ := h
    obtain ⟨z, rfl⟩ : ∃ z : Int, w = .d (.int z) := by
      have := List.mem_of_getElem? e
      rcases List.mem_cons.mp this with h | h
      · exact ⟨_, h⟩
      · obtain ⟨z, _, rfl⟩ := List.mem_map.mp h
        exact ⟨z, rfl⟩
    have fin : ∀ a b c : Int, ∃ more', (Cell.scr ns (scrK K ns) :: more) ++ [.lst (src a b c)] = .scr ns (scrK K ns) :: more' ∧ ∀ k, closedB k more' = true := fun a b c => ⟨more ++ [.lst (src a b c)], rfl, fun k => by
      have := hcl k
      simp [closedB, closedC] at this ⊢
      exact this⟩
    have hcX : ∀ x ∈ Cell.scr ns (scrK K ns) :: more, ∀ k, closedC k x = true := fun x hx k => by
      rcases List.mem_cons.mp hx with rfl | hx
      · rfl
      · exact List.all_eq_true.mp (hcl k) x hx
    generalize (Cell.scr ns (scrK K ns) :: more) = M0 at fin hcX ⊢
    have hget : ∀ c : Cell, (M0 ++ [c])[M0.length]? = some c := fun c => by simp
    have hset : ∀ x y : Cell, (M0 ++ [x]).set M0.length y = M0 ++ [y] := fun x y => by simp
    have oc : ∀ {n : Nat} {ts : List (Cm × Nat)}, TrOk n ts → ∀ c ∈ cmsOf ts, c.ok n := fun {n ts} h c hc => by
      obtain ⟨t, ht, rfl⟩ := List.mem_map.mp hc
      exact (h t ht).1
    simp [-dSeq]
    rw [dSeq]
    simp [-dSeq]
    intro a b c
    rw [dSeq]
    simp [-dSeq, src, hget, hset, F_l_draw]
    intro v hv a b c
    have en : (1 : Int) + (v : Int) = ((1 + v : Nat) : Int) := by omega
    rw [en]
    have hn : 1 ≤ 1 + v ∧ 1 + v ≤ 5 := by omega
    generalize 1 + v = n at hn ⊢
    rw [dSeq]
    simp [-dSeq, src, hget, hset]
    refine ⟨n, 12, rfl, by omega, by omega, fun ts1 hl1 hok1 a b c => ?_⟩
    rw [dSeq]
    simp [-dSeq, dLc_eq]
    refine ⟨n, rfl, hn.2, ?_⟩
    have clsM : ∀ (a b c : Int) k, closedB k (M0 ++ [Cell.lst [D.int a, D.int b, D.int c]]) = true := fun a b c k => List.all_eq_true.mpr fun x hx => by
      rcases List.mem_append.mp hx with hx | hx
      · exact hcX x hx k
      · rw [List.mem_singleton.mp hx]
        rfl
    have hcs := oc hok1
    have hcl60 : (cmsOf ts1).length ≤ 60 := by simp [cmsOf]; omega
    refine lc_map (allR n) (fun r => W.d (.tup (nats r))) (fun r => .tup (nats (numR (afterR (cmsOf ts1) r)))) (by simp [Function.comp_def]) (fun _ => trivial) (clsM _ _ _ _) (by have := allR_len n hn.2; have : sizeLine = 16777216 := rfl; omega) (fun r hr acc K' N hK => ?_) ?_
    · simp
      refine ⟨n, ts1, _, r, rfl, .inr rfl, by omega, (allR_in hr).1, hok1, ?_⟩
      simpa using hK
    · rw [if_neg Bool.false_ne_true]
      rw [dSeq]
      simp [-dSeq]
      refine ⟨n, ts1, rfl, by omega, hok1, by omega, ?_⟩
      refine ⟨n, cmsOf ts1, (allR n).map fun r => numR (afterR (cmsOf ts1) r), by rw [List.map_map]; rfl, ⟨by omega, hcs, hcl60⟩, fun e he => ?_, by have := allR_len n hn.2; simpa using this, fun a b ha hb => meet_word hn.1 hcs (fun r hr => (allR_in hr).1) (allR_range n) (allR_zeros n) ha hb, ?_⟩
      · obtain ⟨r, hr, rfl⟩ := List.mem_map.mp he
        simp [numR, after_len, (allR_in hr).1]
      simp [-dSeq]
      rw [dSeq]
      simp [-dSeq, src, hget, hset, F_l_draw]
      intro v hv a b c
      have en : (1 : Int) + (v : Int) = ((1 + v : Nat) : Int) := by omega
      rw [en]
      have hn : 1 ≤ 1 + v ∧ 1 + v ≤ 16 := by omega
      generalize 1 + v = n at hn ⊢
      rw [dSeq]
      simp [-dSeq, src, hget, hset]
      refine ⟨n, 60, rfl, by omega, by omega, fun ts hl2 hok a b c => ?_⟩
      have hcs := oc hok
      have hcl60 : (cmsOf ts).length ≤ 60 := by simp [cmsOf]; omega
      rw [dSeq]
      simp [-dSeq]
      refine ⟨n, ts, rfl, by omega, hok, by omega, ?_⟩
      dsimp only
      rw [dSeq]
      simp [-dSeq, dLRng1, rngD_nats]
      refine ⟨by omega, ?_⟩
      refine ⟨n, ts, _, List.range n, rfl, .inl rfl, by omega, by simp, hok, by omega, by omega, ?_⟩
      refine ⟨n, ts, _, List.replicate n 0, rfl, .inl (by simp [nats, nat]), by omega, by simp, hok, ?_⟩
      dsimp only
      rw [dSeq]
      simp [-dSeq]
      refine ⟨n, cmsOf ts, [List.range n, List.replicate n 0].map fun r => numR (afterR (cmsOf ts) r), rfl, ⟨by omega, hcs, hcl60⟩, fun e he => ?_, by simp, fun a b ha hb => meet_word hn.1 hcs (fun r hr => ?_) (by simp) (by simp) ha hb, ?_⟩
      · obtain ⟨r, hr, rfl⟩ := List.mem_map.mp he
        simp at hr
        rcases hr with rfl | rfl <;> simp [numR, after_len]
      · simp at hr
        rcases hr with rfl | rfl <;> simp
      simp [-dSeq]
      rw [dSeq]
      simp [-dSeq, src, hget, hset, F_l_draw, CPow]
      refine ⟨by omega, fun v hv a b c => ?_⟩
      rw [dSeq]
      simp [-dSeq, src, hget, hset, F_l_pick]
      have isI : ∀ d, isIn [D.int 0, .int ((n : Int) - 1), nat v, .int (-1), nat n, .int (-(n : Int)), .int 1000000000] d → ∃ p : Int, d = .int p := fun d hd => by
        simp [isIn] at hd
        rcases hd with rfl | rfl | rfl | rfl | rfl | rfl | rfl <;> exact ⟨_, rfl⟩
      intro d hd d' hd' a b c
      obtain ⟨p, rfl⟩ := isI d hd
      obtain ⟨q, rfl⟩ := isI d' hd'
      clear hd hd' isI
      rw [dSeq]
      simp [-dSeq, dLc_eq]
      refine lc_mapF [p, q] (W.d ∘ D.int) (fun x => !(decide (0 ≤ x) && decide (x < (n : Int)))) D.int (by simp) (fun _ => trivial) (clsM _ _ _ _) (by have : sizeLine = 16777216 := rfl; simp [this]) (fun x hx acc K' N hK => ?_) ?_
      · simp at hK ⊢
        by_cases h1 : 0 ≤ x
        · have : ¬ x < 0 := by omega
          simpa [h1, this] using hK
        · have : x < 0 := by omega
          simpa [h1, this] using hK
      · rw [if_neg Bool.false_ne_true]
        simp [-dSeq]
        obtain ⟨more', e1, e2⟩ := fin a b c
        have fin2 : ∃ more, M0 ++ [Cell.lst [D.int a, D.int b, D.int c]] = Cell.scr ns (scrK K ns) :: more ∧ ∀ (k : Nat) (x : Cell), x ∈ more → closedC k x = true := ⟨more', e1, fun k x hx => List.all_eq_true.mp (e2 k) x hx⟩
        have bad : ∀ x : Int, ¬ OkP n x → (!decide (0 ≤ x) || !decide (x < (n : Int))) = true := fun x h => by
          by_cases h1 : 0 ≤ x
          · have : ¬ x < n := fun z => h ⟨h1, z⟩
            simp [this]
          · simp [h1]
        have good : ∀ x : Int, OkP n x → (!decide (0 ≤ x) || !decide (x < (n : Int))) = false := fun x h => by simp [h.1, h.2]
        have at0' : ∀ (x : D) (t : List D), atI (x :: t) 0 = some x := fun x t => atI_nat (j := 0) rfl rfl
        have oi : ∀ l : List Int, okDs 59 (l.map D.int) = true := fun l => by
          rw [okDs_all, List.all_eq_true]
          intro d hd
          obtain ⟨x, _, rfl⟩ := List.mem_map.mp hd
          rfl
        refine ⟨n, cmsOf ts, p, q, rfl, ⟨by omega, hcs, hcl60⟩, fun h => ?_, fun h k => ?_, fun h k => ?_⟩
        · rw [List.filter_cons_of_pos (by simpa using bad p h)]
          simp [fNe, deq, deqs, okD, okDs, at0', fin2]
          exact ⟨oi _, strOk_lit _⟩
        · rw [List.filter_cons_of_neg (by simpa using good p h), List.filter_cons_of_pos (by simpa using bad q k)]
          simp [fNe, deq, deqs, okD, okDs, at0', fin2]
          exact strOk_lit _
        · rw [List.filter_cons_of_neg (by simpa using good p h), List.filter_cons_of_neg (by simpa using good q k)]
          simp [fNe, deq, deqs, okD, okDs, at0', fin2]
          exact strOk_lit _
  · obtain ⟨⟨x1, x2, x3, x4, x5, x6, x7, x8, x9, x10, x11, x12, rfl⟩, more, rfl, hcl⟩ := h
    simpa using hP
end
end DD
namespace DD
open PySem L2 RZ
def top (i : Nat) : Stmt := PySem.Challenge.pw_glueroom_k52_meetings_by_all_divisions.main.body.getD i (.Pass ⟨0, 0, 0, 0⟩)
abbrev s_l_cell : Stmt := (top 29)
abbrev s_l_rng : Stmt := (top 30)
abbrev s_l_draw : Stmt := (top 31)
abbrev s_l_pick : Stmt := (top 32)
abbrev s_l_random_commands : Stmt := (top 33)
abbrev s_l_numbered : Stmt := (top 36)
abbrev s_l_after : Stmt := (top 35)
abbrev s_l_all_rooms : Stmt := (top 37)
abbrev s_check_person : Stmt := (top 9)
abbrev s_Links_init : Stmt := (inClass (top 10) 0)
abbrev s_Links_head : Stmt := (inClass (top 10) 1)
abbrev s_Links_link : Stmt := (inClass (top 10) 2)
abbrev s_Links_add : Stmt := (inClass (top 10) 3)
abbrev s_do_command : Stmt := (top 20)
abbrev s_sorted_groups : Stmt := (top 11)
abbrev s_Picture_init : Stmt := (inClass (top 22) 0)
abbrev s_picture_of : Stmt := (top 23)
abbrev s_picture : Stmt := (top 24)
abbrev s_class_of : Stmt := (top 26)
abbrev s_meeting : Stmt := (top 27)
abbrev s_l_word : Stmt := (top 38)
abbrev s_l_all_hold : Stmt := (top 39)
abbrev s_Free_init : Stmt := (inClass (top 16) 0)
abbrev s_Join_init : Stmt := (inClass (top 15) 0)
abbrev s_Swap_init : Stmt := (inClass (top 17) 0)
abbrev s_Move_init : Stmt := (inClass (top 18) 0)
abbrev s_check_people : Stmt := (top 8)
abbrev s_Join_facts : Stmt := (inClass (top 15) 2)
abbrev s_Free_facts : Stmt := (inClass (top 16) 2)
abbrev s_Swap_facts : Stmt := (inClass (top 17) 2)
abbrev s_Move_facts : Stmt := (inClass (top 18) 2)
abbrev s_Command_persons : Stmt := (inClass (top 14) 0)
abbrev s_Row_init : Stmt := (inClass (top 19) 0)
abbrev s_l_row : Stmt := (top 34)
abbrev s_l_outcome : Stmt := (top 40)
abbrev s_law : Stmt := (top 41)
abbrev s_NoPerson_init : Stmt := (inClass (top 4) 0)
structure Tx (K : PySem.W.Frag) (mg : Str → Option Value) (cA : Nat → Addr) : Prop where
  b_abs : mg "abs" = none
  b_isinstance : mg "isinstance" = none
  b_len : mg "len" = none
  b_list : mg "list" = none
  b_max : mg "max" = none
  b_min : mg "min" = none
  b_range : mg "range" = none
  b_set : mg "set" = none
  b_sorted : mg "sorted" = none
  b_tuple : mg "tuple" = none
  c_MOST_COMMANDS : ∃ t, mg "MOST_COMMANDS" = some (.int 60 t)
  c_MOST_PEOPLE : ∃ t, mg "MOST_PEOPLE" = some (.int 16 t)
  cf : CF K cA FL
  n_Free : mg "Free" = some (.ref (cA 12))
  n_Join : mg "Join" = some (.ref (cA 11))
  n_NoPerson : mg "NoPerson" = some (.ref (cA 2))
  n_RoomError : mg "RoomError" = some (.ref (cA 5))
  n_Swap : mg "Swap" = some (.ref (cA 13))
  n_Thing : mg "Thing" = some (.ref (cA 0))
  xf : XFld K cA FLX
  xm_NoPerson : ∀ k v, isX_NoPerson k = some v → PySem.W.exmOne K (.ref (cA k)) (.ref (cA 2)) = some v
  xm_RoomError : ∀ k v, isX_RoomError k = some v → PySem.W.exmOne K (.ref (cA k)) (.ref (cA 5)) = some v
  is_Join : IsOk K cA (.ref (cA 11)) isB_Join isO_Join
  is_Free : IsOk K cA (.ref (cA 12)) isB_Free isO_Free
  is_Swap : IsOk K cA (.ref (cA 13)) isB_Swap isO_Swap
section
variable {P : Program} {w : World} {K : PySem.W.Frag} {mg : Str → Option Value} {base : Heap} {cA : Nat → Addr}
theorem sc_l_cell : FnScope ["_law_script", "_law_index"] ["_law_script", "_law_index"] (defScope s_l_cell) := ⟨rfl, rfl, rfl, by decide +kernel, rfl, by decide +kernel, by decide +kernel⟩
theorem fo_l_cell (T : Tx K mg cA) {fa : Addr} {fd : FuncData} (F : L2.Fun K "_law_cell" "_law_cell" s_l_cell fa fd) : FnOk P w K mg base (L2.CX P w) 1 fa fd ["_law_script", "_law_index"] (spD cA (S_l_cell K)) := by
  refine fn_okD (k := 0) .d F sc_l_cell (fun ws μ P h => len_l_cell h) fun X b e1 e2 e3 e4 e5 e6 e7 calm hr hp hx ecA tk hX => ?_
  obtain ⟨cdv, A, outer, s, H, E, rfl⟩ := hX
  subst ecA
  exact ⟨t_l_cell b.xc K, (ds_cons (ds_if (dt_lt (de_var (pv 1)) (de_lenS T.b_len (de_var (pv 0)) (by rfl))) (ds_last (ds_ret (de_ixS (de_var (pv 0)) (de_var (pv 1))))) ds_nil)
      (ds_last (ds_ret de_int))),
    fun ws μ Post hS hxc => by rw [hxc]; exact wp_l_cell hS⟩
theorem sc_l_rng : FnScope ["_law_cell_here"] ["_law_cell_here"] (defScope s_l_rng) := ⟨rfl, rfl, rfl, by decide +kernel, rfl, by decide +kernel, by decide +kernel⟩
theorem fo_l_rng (T : Tx K mg cA) {fa : Addr} {fd : FuncData} (F : L2.Fun K "_law_rng" "_law_rng" s_l_rng fa fd) : FnOk P w K mg base (L2.CX P w) 1 fa fd ["_law_cell_here"] (spD cA (S_l_rng)) := by
  refine fn_okD (k := 0) .l F sc_l_rng (fun ws μ P h => len_l_rng h) fun X b e1 e2 e3 e4 e5 e6 e7 calm hr hp hx ecA tk hX => ?_
  obtain ⟨cdv, A, outer, s, H, E, rfl⟩ := hX
  subst ecA
  exact ⟨t_l_rng b.xc, (ds_last (ds_ret (de_lstM (da_cons (de_abs T.b_abs (da_cons (de_var (pv 0)) da_nil) (by rfl)) (da_cons (de_mod (de_var (pv 0)) de_int) (da_cons de_int da_nil)))))),
    fun ws μ Post hS hxc => by rw [hxc]; exact wp_l_rng hS⟩
theorem sc_l_draw : FnScope ["_law_rng_here", "_law_limit", "_law_digit", "_law_mixed"] ["_law_rng_here", "_law_limit"] (defScope s_l_draw) := ⟨rfl, rfl, rfl, by decide +kernel, rfl, by decide +kernel, by decide +kernel⟩
theorem fo_l_draw (T : Tx K mg cA) {fa : Addr} {fd : FuncData} (F : L2.Fun K "_law_draw" "_law_draw" s_l_draw fa fd) : FnOk P w K mg base (L2.CX P w) 1 fa fd ["_law_rng_here", "_law_limit"] (spD cA (S_l_draw)) := by
  refine fn_okD (k := 0) .d F sc_l_draw (fun ws μ P h => len_l_draw h) fun X b e1 e2 e3 e4 e5 e6 e7 calm hr hp hx ecA tk hX => ?_
  obtain ⟨cdv, A, outer, s, H, E, rfl⟩ := hX
  subst ecA
  exact ⟨t_l_draw b.xc, (ds_cons (ds_if (dt_ge (de_ixA (de_var (pv 0)) de_int) (de_pow de_int de_int)) (ds_cons (ds_set (de_mod (de_ixA (de_var (pv 0)) de_int) (de_var (pv 1))) (fun p => ps_set (i := 2) sc_l_draw.nd rfl (Or.inl rfl) p))
      (ds_cons (ds_asg (de_fdiv (de_ixA (de_var (pv 0)) de_int) (de_var (pv 1))) (dg_ix (de_var (pv 0)) de_int))
      (ds_last (ds_ret (de_var (pv 2)))))) ds_nil)
      (ds_cons (ds_asg (de_addA (de_ixA (de_var (pv 0)) de_int) de_int) (dg_ix (de_var (pv 0)) de_int))
      (ds_cons (ds_set (de_mod (de_mulA (de_addA (de_addA (de_ixA (de_var (pv 0)) de_int) (de_mulA de_int (de_ixA (de_var (pv 0)) de_int))) de_int) de_int) de_int) (fun p => ps_set (i := 3) sc_l_draw.nd rfl (Or.inl rfl) p))
      (ds_cons (ds_set (de_mod (de_mulA (de_var (pv 3)) (de_addA (de_fdiv (de_var (pv 3)) de_int) de_int)) de_int) (fun p => ps_set (i := 3) sc_l_draw.nd rfl (Or.inl rfl) p))
      (ds_last (ds_ret (de_mod (de_mod (de_addA (de_fdiv (de_var (pv 3)) de_int) (de_mulA (de_mod (de_var (pv 3)) de_int) de_int)) de_int) (de_var (pv 1))))))))),
    fun ws μ Post hS hxc => by rw [hxc]; exact wp_l_draw hS⟩
theorem sc_l_pick : FnScope ["_law_rng_here", "_law_items"] ["_law_rng_here", "_law_items"] (defScope s_l_pick) := ⟨rfl, rfl, rfl, by decide +kernel, rfl, by decide +kernel, by decide +kernel⟩
theorem fo_l_pick (T : Tx K mg cA) {fa : Addr} {fd : FuncData} (F : L2.Fun K "_law_pick" "_law_pick" s_l_pick fa fd) (c_l_draw : Cal P w K mg base cA "_law_draw" 1 S_l_draw) : FnOk P w K mg base (L2.CX P w) 2 fa fd ["_law_rng_here", "_law_items"] (spD cA (S_l_pick)) := by
  refine fn_okD (k := 1) .d F sc_l_pick (fun ws μ P h => len_l_pick h) fun X b e1 e2 e3 e4 e5 e6 e7 calm hr hp hx ecA tk hX => ?_
  obtain ⟨cdv, A, outer, s, H, E, rfl⟩ := hX
  subst ecA
  exact ⟨t_l_pick b.xc, (ds_last (ds_ret (de_ixA (de_var (pv 1)) (de_calF le_l_draw c_l_draw hr (by decide) hx (da_cons (de_var (pv 0)) (da_cons (de_lenA T.b_len (de_var (pv 1)) (by rfl)) da_nil)) (by rfl))))),
    fun ws μ Post hS hxc => by rw [hxc]; exact wp_l_pick hS⟩
theorem sc_l_random_commands : FnScope ["_law_rng_here", "_law_people", "_law_most", "_law_kinds", "_law_result", "_law_index", "_law_kind"] ["_law_rng_here", "_law_people", "_law_most"] (defScope s_l_random_commands) := ⟨rfl, rfl, rfl, by decide +kernel, rfl, by decide +kernel, by decide +kernel⟩
theorem fo_l_random_commands (T : Tx K mg cA) {fa : Addr} {fd : FuncData} (F : L2.Fun K "_law_random_commands" "_law_random_commands" s_l_random_commands fa fd) (c_l_pick : Cal P w K mg base cA "_law_pick" 2 S_l_pick) (c_l_draw : Cal P w K mg base cA "_law_draw" 1 S_l_draw) : FnOk P w K mg base (L2.CX P w) 3 fa fd ["_law_rng_here", "_law_people", "_law_most"] (spD cA (S_l_random_commands)) := by
  refine fn_okD (k := 2) .d F sc_l_random_commands (fun ws μ P h => len_l_random_commands h) fun X b e1 e2 e3 e4 e5 e6 e7 calm hr hp hx ecA tk hX => ?_
  obtain ⟨cdv, A, outer, s, H, E, rfl⟩ := hX
  subst ecA
  exact ⟨t_l_random_commands b.xc, (ds_cons (ds_set (de_calF le_l_pick c_l_pick hr (by decide) hx (da_cons (de_var (pv 0)) (da_cons (de_lst (da_cons (de_lst (da_cons de_str (da_cons de_str (da_cons de_str (da_cons de_str da_nil))))) (da_cons (de_lst (da_cons de_str (da_cons de_str da_nil))) (da_cons (de_lst (da_cons de_str (da_cons de_str (da_cons de_str da_nil)))) (da_cons (de_lst (da_cons de_str da_nil)) da_nil))))) da_nil)) (by rfl)) (fun p => ps_set (i := 3) sc_l_random_commands.nd rfl (Or.inl rfl) p))
      (ds_cons (ds_set (de_lstM da_nil) (fun p => ps_set (i := 4) sc_l_random_commands.nd rfl (Or.inl rfl) p))
      (ds_cons (ds_for hp rfl (di_range1 (by rfl) T.b_range (da_cons (de_calF le_l_draw c_l_draw hr (by decide) hx (da_cons (de_var (pv 0)) (da_cons (de_addA (de_var (pv 2)) de_int) da_nil)) (by rfl)) da_nil)) (dg_name (pg_name (i := 5) sc_l_random_commands.nd rfl (Or.inl rfl))) (ds_cons (ds_set (de_calF le_l_pick c_l_pick hr (by decide) hx (da_cons (de_var (pv 0)) (da_cons (de_var (pv 3)) da_nil)) (by rfl)) (fun p => ps_set (i := 6) sc_l_random_commands.nd rfl (Or.inl rfl) p))
      (ds_cons (ds_if (dt_eq hr.units (de_calF le_l_draw c_l_draw hr (by decide) hx (da_cons (de_var (pv 0)) (da_cons de_int da_nil)) (by rfl)) de_int) (ds_last (ds_set (de_calF le_l_pick c_l_pick hr (by decide) hx (da_cons (de_var (pv 0)) (da_cons (de_lst (da_cons de_str (da_cons de_str (da_cons de_str (da_cons de_str da_nil))))) da_nil)) (by rfl)) (fun p => ps_set (i := 6) sc_l_random_commands.nd rfl (Or.inl rfl) p))) ds_nil)
      (ds_last (ds_expr (de_appA (de_var (pv 4)) (de_tup (da_cons (de_var (pv 6)) (da_cons (de_calF le_l_draw c_l_draw hr (by decide) hx (da_cons (de_var (pv 0)) (da_cons (de_var (pv 1)) da_nil)) (by rfl)) (da_cons (de_calF le_l_draw c_l_draw hr (by decide) hx (da_cons (de_var (pv 0)) (da_cons (de_var (pv 1)) da_nil)) (by rfl)) da_nil)))) (fun p q => pe_bm PySem.F.plainAttrs_list PySem.F.slot_list_append PySem.F.type_list_append mt_append p q)))))))
      (ds_last (ds_ret (de_var (pv 4))))))),
    fun ws μ Post hS hxc => by rw [hxc]; exact wp_l_random_commands hS⟩
theorem sc_l_numbered : FnScope ["_law_rooms", "_law_room"] ["_law_rooms"] (defScope s_l_numbered) := ⟨rfl, rfl, rfl, by decide +kernel, rfl, by decide +kernel, by decide +kernel⟩
theorem fo_l_numbered (T : Tx K mg cA) {fa : Addr} {fd : FuncData} (F : L2.Fun K "_law_numbered" "_law_numbered" s_l_numbered fa fd) : FnOk P w K mg base (L2.CX P w) 1 fa fd ["_law_rooms"] (spD cA (S_l_numbered)) := by
  refine fn_okD (k := 0) .d F sc_l_numbered (fun ws μ P h => len_l_numbered h) fun X b e1 e2 e3 e4 e5 e6 e7 calm hr hp hx ecA tk hX => ?_
  obtain ⟨cdv, A, outer, s, H, E, rfl⟩ := hX
  subst ecA
  exact ⟨t_l_numbered b.xc, (ds_last (ds_ret (de_tupOf T.b_tuple (da_cons (de_lc false rfl sc_l_numbered.nd (di_seq (de_var (pv 0))) (own := [("_law_room", 1)]) (by show BlkOk ["_law_rooms", "_law_room"] (defScope s_l_numbered) _ _; exact ⟨rfl, by decide +kernel, by decide +kernel, by decide +kernel, by decide +kernel⟩) (fun _ ⟨_, _, _, _, _, e⟩ => by subst e; exact (dgo_name (pg_name (i := 1) sc_l_numbered.nd rfl (Or.inl rfl)) (by decide))) (fun _ ⟨_, _, _, _, _, e⟩ => by subst e; exact dts_nil) (fun _ ⟨_, _, _, _, _, e⟩ => by subst e; exact (de_index (de_var (pv 0)) (da_cons (de_var (pv 1)) da_nil) (fun p q => pe_bm PySem.F.plainAttrs_list PySem.F.slot_list_index PySem.F.type_list_index mt_index p q)))) da_nil) (by rfl)))),
    fun ws μ Post hS hxc => by rw [hxc]; exact wp_l_numbered hS⟩
theorem sc_l_after : FnScope ["_law_commands", "_law_rooms", "_law_kind", "_law_one", "_law_other", "_law_old", "_law_new", "_law_room"] ["_law_commands", "_law_rooms"] (defScope s_l_after) := ⟨rfl, rfl, rfl, by decide +kernel, rfl, by decide +kernel, by decide +kernel⟩
theorem fo_l_after (T : Tx K mg cA) {fa : Addr} {fd : FuncData} (F : L2.Fun K "_law_after" "_law_after" s_l_after fa fd) (c_l_numbered : Cal P w K mg base cA "_law_numbered" 1 S_l_numbered) : FnOk P w K mg base (L2.CX P w) 2 fa fd ["_law_commands", "_law_rooms"] (spD cA (S_l_after)) := by
  refine fn_okD (k := 1) .d F sc_l_after (fun ws μ P h => len_l_after h) fun X b e1 e2 e3 e4 e5 e6 e7 calm hr hp hx ecA tk hX => ?_
  obtain ⟨cdv, A, outer, s, H, E, rfl⟩ := hX
  subst ecA
  exact ⟨t_l_after b.xc, (ds_cons (ds_set (de_listM T.b_list (da_cons (de_var (pv 1)) da_nil) (by rfl)) (fun p => ps_set (i := 1) sc_l_after.nd rfl (Or.inl rfl) p))
      (ds_cons (ds_for hp rfl (di_seq (de_var (pv 0))) (dg_tup rfl (dgs_cons (dg_name (pg_name (i := 2) sc_l_after.nd rfl (Or.inl rfl))) (dgs_cons (dg_name (pg_name (i := 3) sc_l_after.nd rfl (Or.inl rfl))) (dgs_cons (dg_name (pg_name (i := 4) sc_l_after.nd rfl (Or.inl rfl))) dgs_nil)))) (ds_last (ds_if (dt_eq hr.units (de_var (pv 2)) de_str) (ds_cons (ds_asg (de_tup (da_cons (de_ixA (de_var (pv 1)) (de_var (pv 4))) (da_cons (de_ixA (de_var (pv 1)) (de_var (pv 3))) da_nil))) (dg_tup rfl (dgs_cons (dg_name (pg_name (i := 5) sc_l_after.nd rfl (Or.inr rfl))) (dgs_cons (dg_name (pg_name (i := 6) sc_l_after.nd rfl (Or.inr rfl))) dgs_nil))))
      (ds_last (ds_setLc true rfl sc_l_after.nd (i := 1) rfl rfl rfl (di_seq (de_var (pv 1))) (own := [("_law_room", 7)]) (by show BlkOk ["_law_commands", "_law_rooms", "_law_kind", "_law_one", "_law_other", "_law_old", "_law_new", "_law_room"] (defScope s_l_after) _ _; exact ⟨rfl, by decide +kernel, by decide +kernel, by decide +kernel, by decide +kernel⟩) (fun _ ⟨_, _, _, _, _, e⟩ => by subst e; exact (dgo_name (pg_name (i := 7) sc_l_after.nd rfl (Or.inl rfl)) (by decide))) (fun _ ⟨_, _, _, _, _, e⟩ => by subst e; exact dts_nil) (fun _ ⟨_, _, _, _, _, e⟩ => by subst e; exact (de_ifx (dt_eq hr.units (de_var (pv 7)) (de_var (pv 5))) (de_var (pv 6)) (de_var (pv 7))))))) (ds_last (ds_if (dt_eq hr.units (de_var (pv 2)) de_str) (ds_last (ds_asg (de_addA (de_maxL rfl T.b_max (da_cons (de_var (pv 1)) da_nil) (by rfl)) de_int) (dg_ix (de_var (pv 1)) (de_var (pv 3))))) (ds_last (ds_if (dt_eq hr.units (de_var (pv 2)) de_str) (ds_last (ds_asg (de_tup (da_cons (de_ixA (de_var (pv 1)) (de_var (pv 4))) (da_cons (de_ixA (de_var (pv 1)) (de_var (pv 3))) da_nil))) (dg_tup rfl (dgs_cons (dg_ix (de_var (pv 1)) (de_var (pv 3))) (dgs_cons (dg_ix (de_var (pv 1)) (de_var (pv 4))) dgs_nil))))) (ds_last (ds_asg (de_ixA (de_var (pv 1)) (de_var (pv 4))) (dg_ix (de_var (pv 1)) (de_var (pv 3))))))))))))
      (ds_last (ds_ret (de_calF le_l_numbered c_l_numbered hr (by decide) hx (da_cons (de_esc (de_var (pv 1))) da_nil) (by rfl)))))),
    fun ws μ Post hS hxc => by rw [hxc]; exact wp_l_after hS⟩
theorem sc_l_all_rooms : FnScope ["_law_people", "_law_result", "_law_person", "_law_longer", "_law_rooms", "_law_room"] ["_law_people"] (defScope s_l_all_rooms) := ⟨rfl, rfl, rfl, by decide +kernel, rfl, by decide +kernel, by decide +kernel⟩
theorem fo_l_all_rooms (T : Tx K mg cA) {fa : Addr} {fd : FuncData} (F : L2.Fun K "_law_all_rooms" "_law_all_rooms" s_l_all_rooms fa fd) : FnOk P w K mg base (L2.CX P w) 1 fa fd ["_law_people"] (spD cA (S_l_all_rooms)) := by
  refine fn_okD (k := 0) .d F sc_l_all_rooms (fun ws μ P h => len_l_all_rooms h) fun X b e1 e2 e3 e4 e5 e6 e7 calm hr hp hx ecA tk hX => ?_
  obtain ⟨cdv, A, outer, s, H, E, rfl⟩ := hX
  subst ecA
  exact ⟨t_l_all_rooms b.xc, (ds_cons (ds_set (de_lstM (da_cons (de_tup da_nil) da_nil)) (fun p => ps_set (i := 1) sc_l_all_rooms.nd rfl (Or.inl rfl) p))
      (ds_cons (ds_for hp rfl (di_range1 (by rfl) T.b_range (da_cons (de_var (pv 0)) da_nil)) (dg_name (pg_name (i := 2) sc_l_all_rooms.nd rfl (Or.inl rfl))) (ds_cons (ds_set (de_lstM da_nil) (fun p => ps_set (i := 3) sc_l_all_rooms.nd rfl (Or.inl rfl) p))
      (ds_cons (ds_for hp rfl (di_seq (de_var (pv 1))) (dg_name (pg_name (i := 4) sc_l_all_rooms.nd rfl (Or.inr rfl))) (ds_last (ds_expr (de_mutS om_ext (de_var (pv 3)) (da_cons (de_lc false rfl sc_l_all_rooms.nd (di_seq (de_addA (de_sot rfl T.b_sorted T.b_set (de_var (pv 4)) (by rfl) (by rfl)) (de_lst (da_cons (de_var (pv 2)) da_nil)))) (own := [("_law_room", 5)]) (by show BlkOk ["_law_people", "_law_result", "_law_person", "_law_longer", "_law_rooms", "_law_room"] (defScope s_l_all_rooms) _ _; exact ⟨rfl, by decide +kernel, by decide +kernel, by decide +kernel, by decide +kernel⟩) (fun _ ⟨_, _, _, _, _, e⟩ => by subst e; exact (dgo_name (pg_name (i := 5) sc_l_all_rooms.nd rfl (Or.inl rfl)) (by decide))) (fun _ ⟨_, _, _, _, _, e⟩ => by subst e; exact dts_nil) (fun _ ⟨_, _, _, _, _, e⟩ => by subst e; exact (de_addA (de_var (pv 4)) (de_tup (da_cons (de_var (pv 5)) da_nil))))) da_nil) (fun p q => pe_bm PySem.F.plainAttrs_list PySem.F.slot_list_extend PySem.F.type_list_extend mt_extend p q)))))
      (ds_last (ds_set (de_var (pv 3)) (fun p => ps_set (i := 1) sc_l_all_rooms.nd rfl (Or.inl rfl) p))))))
      (ds_last (ds_ret (de_var (pv 1)))))),
    fun ws μ Post hS hxc => by rw [hxc]; exact wp_l_all_rooms hS⟩
theorem sc_check_person : FnScope ["people", "person"] ["people", "person"] (defScope s_check_person) := ⟨rfl, rfl, rfl, by decide +kernel, rfl, by decide +kernel, by decide +kernel⟩
theorem fo_check_person (T : Tx K mg cA) {fa : Addr} {fd : FuncData} (F : L2.Fun K "check_person" "check_person" s_check_person fa fd) (x_NoPerson : Xkc P w K mg base cA 2 (spX1 (cA 2) "person")) : FnOk P w K mg base (L2.CX P w) 3 fa fd ["people", "person"] (spD cA (S_check_person)) := by
  refine fn_okD (k := 2) .d F sc_check_person (fun ws μ P h => len_check_person h) fun X b e1 e2 e3 e4 e5 e6 e7 calm hr hp hx ecA tk hX => ?_
  obtain ⟨cdv, A, outer, s, H, E, rfl⟩ := hX
  subst ecA
  exact ⟨t_check_person b.xc, (ds_last (ds_if (dt_not (dt_chain op_le op_lt de_int (de_var (pv 1)) (de_var (pv 0)) (fun p q r => pt_chain op_le op_lt p q r))) (ds_last (ds_raiseX1 x_NoPerson T.n_NoPerson (hr.mono (by decide)) rfl tk (da_cons (de_var (pv 1)) da_nil) (by rfl))) ds_nil)),
    fun ws μ Post hS hxc => by rw [hxc]; exact wp_check_person hS⟩
theorem sc_Links_init : FnScope ["self", "count"] ["self", "count"] (defScope s_Links_init) := ⟨rfl, rfl, rfl, by decide +kernel, rfl, by decide +kernel, by decide +kernel⟩
theorem fo_Links_init (T : Tx K mg cA) {fa : Addr} {fd : FuncData} (F : L2.Fun K "__init__" "Links.__init__" s_Links_init fa fd) : FnOk P w K mg base (L2.CX P w) 1 fa fd ["self", "count"] (spD cA (S_Links)) := by
  refine fn_okD (k := 0) .i F sc_Links_init (fun ws μ P h => len_Links_init h) fun X b e1 e2 e3 e4 e5 e6 e7 calm hr hp hx ecA tk hX => ?_
  obtain ⟨cdv, A, outer, s, H, E, rfl⟩ := hX
  subst ecA
  exact ⟨t_Links_init b.xc, (ds_last (ds_fld T.cf (de_var (pv 0)) (de_lrng1 true rfl T.b_list T.b_range (de_var (pv 1)) (by rfl) (by rfl)))),
    fun ws μ Post hS hxc => by rw [hxc]; exact wp_Links_init hS⟩
theorem sc_Links_head : FnScope ["self", "number"] ["self", "number"] (defScope s_Links_head) := ⟨rfl, rfl, rfl, by decide +kernel, rfl, by decide +kernel, by decide +kernel⟩
theorem fo_Links_head (T : Tx K mg cA) {fa : Addr} {fd : FuncData} (F : L2.Fun K "head" "Links.head" s_Links_head fa fd) : FnOk P w K mg base (L2.CX P w) 1 fa fd ["self", "number"] (spD cA (S_Links_head)) := by
  refine fn_okD (k := 0) .d F sc_Links_head (fun ws μ P h => len_Links_head h) fun X b e1 e2 e3 e4 e5 e6 e7 calm hr hp hx ecA tk hX => ?_
  obtain ⟨cdv, A, outer, s, H, E, rfl⟩ := hX
  subst ecA
  exact ⟨t_Links_head b.xc, (ds_cons (ds_while hp (dt_ne hr.units (de_ixA (de_fld T.cf (de_var (pv 0))) (de_var (pv 1))) (de_var (pv 1))) (ds_last (ds_set (de_ixA (de_fld T.cf (de_var (pv 0))) (de_var (pv 1))) (fun p => ps_set (i := 1) sc_Links_head.nd rfl (Or.inl rfl) p))))
      (ds_last (ds_ret (de_var (pv 1))))),
    fun ws μ Post hS hxc => by rw [hxc]; exact wp_Links_head hS⟩
theorem sc_Links_link : FnScope ["self", "one", "other"] ["self", "one", "other"] (defScope s_Links_link) := ⟨rfl, rfl, rfl, by decide +kernel, rfl, by decide +kernel, by decide +kernel⟩
theorem fo_Links_link (T : Tx K mg cA) {fa : Addr} {fd : FuncData} (F : L2.Fun K "link" "Links.link" s_Links_link fa fd) (e_Links_head : Mec P w K mg base cA "head" 20 1 S_Links_head) : FnOk P w K mg base (L2.CX P w) 2 fa fd ["self", "one", "other"] (spD cA (S_Links_link)) := by
  refine fn_okD (k := 1) .d F sc_Links_link (fun ws μ P h => len_Links_link h) fun X b e1 e2 e3 e4 e5 e6 e7 calm hr hp hx ecA tk hX => ?_
  obtain ⟨cdv, A, outer, s, H, E, rfl⟩ := hX
  subst ecA
  exact ⟨t_Links_link b.xc, (ds_cons (ds_par (da_cons (de_meL le_Links_head hx e_Links_head hr (by decide) (de_var (pv 0)) (da_cons (de_var (pv 1)) da_nil)) (da_cons (de_meL le_Links_head hx e_Links_head hr (by decide) (de_var (pv 0)) (da_cons (de_var (pv 2)) da_nil)) da_nil)) (fun p => ps_par (i := 1) (j := 2) rfl sc_Links_link.nd rfl rfl (by decide) rfl rfl p rfl))
      (ds_last (ds_asg (de_min2 rfl T.b_min (da_cons (de_var (pv 1)) (da_cons (de_var (pv 2)) da_nil)) (by rfl)) (dg_ix (de_fld T.cf (de_var (pv 0))) (de_max2 rfl T.b_max (da_cons (de_var (pv 1)) (da_cons (de_var (pv 2)) da_nil)) (by rfl)))))),
    fun ws μ Post hS hxc => by rw [hxc]; exact wp_Links_link hS⟩
theorem sc_Links_add : FnScope ["self"] ["self"] (defScope s_Links_add) := ⟨rfl, rfl, rfl, by decide +kernel, rfl, by decide +kernel, by decide +kernel⟩
theorem fo_Links_add (T : Tx K mg cA) {fa : Addr} {fd : FuncData} (F : L2.Fun K "add" "Links.add" s_Links_add fa fd) : FnOk P w K mg base (L2.CX P w) 1 fa fd ["self"] (spD cA (S_Links_add)) := by
  refine fn_okD (k := 0) .d F sc_Links_add (fun ws μ P h => len_Links_add h) fun X b e1 e2 e3 e4 e5 e6 e7 calm hr hp hx ecA tk hX => ?_
  obtain ⟨cdv, A, outer, s, H, E, rfl⟩ := hX
  subst ecA
  exact ⟨t_Links_add b.xc, (ds_cons (ds_expr (de_appA (de_fld T.cf (de_var (pv 0))) (de_lenA T.b_len (de_fld T.cf (de_var (pv 0))) (by rfl)) (fun p q => pe_bm PySem.F.plainAttrs_list PySem.F.slot_list_append PySem.F.type_list_append mt_append p q)))
      (ds_last (ds_ret (de_sub (de_lenA T.b_len (de_fld T.cf (de_var (pv 0))) (by rfl)) de_int)))),
    fun ws μ Post hS hxc => by rw [hxc]; exact wp_Links_add hS⟩
theorem sc_do_command : FnScope ["command", "links", "places", "one", "other"] ["command", "links", "places"] (defScope s_do_command) := ⟨rfl, rfl, rfl, by decide +kernel, rfl, by decide +kernel, by decide +kernel⟩
theorem fo_do_command (T : Tx K mg cA) {fa : Addr} {fd : FuncData} (F : L2.Fun K "do_command" "do_command" s_do_command fa fd) (e_Links_link : Mec P w K mg base cA "link" 20 2 S_Links_link) (e_Links_add : Mec P w K mg base cA "add" 20 1 S_Links_add) : FnOk P w K mg base (L2.CX P w) 3 fa fd ["command", "links", "places"] (spD cA (S_do_command)) := by
  refine fn_okD (k := 2) .d F sc_do_command (fun ws μ P h => len_do_command h) fun X b e1 e2 e3 e4 e5 e6 e7 calm hr hp hx ecA tk hX => ?_
  obtain ⟨cdv, A, outer, s, H, E, rfl⟩ := hX
  subst ecA
  exact ⟨t_do_command b.xc, (ds_last (ds_if (dt_val (de_isi T.is_Join (pe_glob (v := .ref _) (by rfl) T.n_Join rfl) (.own _) (by rfl) T.b_isinstance (de_var (pv 0)))) (ds_last (ds_expr (de_meL le_Links_link hx e_Links_link hr (by decide) (de_var (pv 1)) (da_cons (de_ixA (de_var (pv 2)) (de_fld T.cf (de_var (pv 0)))) (da_cons (de_ixA (de_var (pv 2)) (de_fld T.cf (de_var (pv 0)))) da_nil))))) (ds_last (ds_if (dt_val (de_isi T.is_Free (pe_glob (v := .ref _) (by rfl) T.n_Free rfl) (.own _) (by rfl) T.b_isinstance (de_var (pv 0)))) (ds_last (ds_asg (de_meL0 le_Links_add hx e_Links_add hr (by decide) (de_var (pv 1))) (dg_ix (de_var (pv 2)) (de_fld T.cf (de_var (pv 0)))))) (ds_last (ds_if (dt_val (de_isi T.is_Swap (pe_glob (v := .ref _) (by rfl) T.n_Swap rfl) (.own _) (by rfl) T.b_isinstance (de_var (pv 0)))) (ds_cons (ds_par (da_cons (de_ixA (de_var (pv 2)) (de_fld T.cf (de_var (pv 0)))) (da_cons (de_ixA (de_var (pv 2)) (de_fld T.cf (de_var (pv 0)))) da_nil)) (fun p => ps_par (i := 3) (j := 4) rfl sc_do_command.nd rfl rfl (by decide) rfl rfl p rfl))
      (ds_last (ds_asg (de_tup (da_cons (de_var (pv 4)) (da_cons (de_var (pv 3)) da_nil))) (dg_tup rfl (dgs_cons (dg_ix (de_var (pv 2)) (de_fld T.cf (de_var (pv 0)))) (dgs_cons (dg_ix (de_var (pv 2)) (de_fld T.cf (de_var (pv 0)))) dgs_nil)))))) (ds_last (ds_asg (de_ixA (de_var (pv 2)) (de_fld T.cf (de_var (pv 0)))) (dg_ix (de_var (pv 2)) (de_fld T.cf (de_var (pv 0)))))))))))),
    fun ws μ Post hS hxc => by rw [hxc]; exact wp_do_command hS⟩
theorem sc_sorted_groups : FnScope ["groups", "group"] ["groups"] (defScope s_sorted_groups) := ⟨rfl, rfl, rfl, by decide +kernel, rfl, by decide +kernel, by decide +kernel⟩
theorem fo_sorted_groups (T : Tx K mg cA) {fa : Addr} {fd : FuncData} (F : L2.Fun K "sorted_groups" "sorted_groups" s_sorted_groups fa fd) : FnOk P w K mg base (L2.CX P w) 1 fa fd ["groups"] (spD cA (S_sorted_groups)) := by
  refine fn_okD (k := 0) .d F sc_sorted_groups (fun ws μ P h => len_sorted_groups h) fun X b e1 e2 e3 e4 e5 e6 e7 calm hr hp hx ecA tk hX => ?_
  obtain ⟨cdv, A, outer, s, H, E, rfl⟩ := hX
  subst ecA
  exact ⟨t_sorted_groups b.xc, (ds_last (ds_ret (de_tupOf T.b_tuple (da_cons (de_sortT T.b_sorted (da_cons (de_lc false rfl sc_sorted_groups.nd (di_seq (de_var (pv 0))) (own := [("group", 1)]) (by show BlkOk ["groups", "group"] (defScope s_sorted_groups) _ _; exact ⟨rfl, by decide +kernel, by decide +kernel, by decide +kernel, by decide +kernel⟩) (fun _ ⟨_, _, _, _, _, e⟩ => by subst e; exact (dgo_name (pg_name (i := 1) sc_sorted_groups.nd rfl (Or.inl rfl)) (by decide))) (fun _ ⟨_, _, _, _, _, e⟩ => by subst e; exact dts_nil) (fun _ ⟨_, _, _, _, _, e⟩ => by subst e; exact (de_tupOf T.b_tuple (da_cons (de_sortI T.b_sorted (da_cons (de_var (pv 1)) da_nil) (by rfl)) da_nil) (by rfl)))) da_nil) (by rfl)) da_nil) (by rfl)))),
    fun ws μ Post hS hxc => by rw [hxc]; exact wp_sorted_groups hS⟩
theorem sc_Picture_init : FnScope ["self", "classes", "dead", "ends", "starts"] ["self", "classes", "dead"] (defScope s_Picture_init) := ⟨rfl, rfl, rfl, by decide +kernel, rfl, by decide +kernel, by decide +kernel⟩
theorem fo_Picture_init (T : Tx K mg cA) {fa : Addr} {fd : FuncData} (F : L2.Fun K "__init__" "Picture.__init__" s_Picture_init fa fd) (c_sorted_groups : Cal P w K mg base cA "sorted_groups" 1 S_sorted_groups) : FnOk P w K mg base (L2.CX P w) 2 fa fd ["self", "classes", "dead"] (spD cA (S_Picture)) := by
  refine fn_okD (k := 1) .d F sc_Picture_init (fun ws μ P h => len_Picture_init h) fun X b e1 e2 e3 e4 e5 e6 e7 calm hr hp hx ecA tk hX => ?_
  obtain ⟨cdv, A, outer, s, H, E, rfl⟩ := hX
  subst ecA
  exact ⟨t_Picture_init b.xc, (ds_cons (ds_fld T.cf (de_var (pv 0)) (de_tupOf T.b_tuple (da_cons (de_sortD hr.units T.b_sorted (da_cons (de_lc false rfl sc_Picture_init.nd (di_seq (de_var (pv 1))) (own := [("ends", 3), ("starts", 4)]) (by show BlkOk ["self", "classes", "dead", "ends", "starts"] (defScope s_Picture_init) _ _; exact ⟨rfl, by decide +kernel, by decide +kernel, by decide +kernel, by decide +kernel⟩) (fun _ ⟨_, _, _, _, _, e⟩ => by subst e; exact (dgo_tup rfl (dgos_cons (dgo_name (pg_name (i := 3) sc_Picture_init.nd rfl (Or.inl rfl)) (by decide)) (dgos_cons (dgo_name (pg_name (i := 4) sc_Picture_init.nd rfl (Or.inl rfl)) (by decide)) dgos_nil)))) (fun _ ⟨_, _, _, _, _, e⟩ => by subst e; exact dts_nil) (fun _ ⟨_, _, _, _, _, e⟩ => by subst e; exact (de_tup (da_cons (de_tupOf T.b_tuple (da_cons (de_sortI T.b_sorted (da_cons (de_var (pv 3)) da_nil) (by rfl)) da_nil) (by rfl)) (da_cons (de_tupOf T.b_tuple (da_cons (de_sortI T.b_sorted (da_cons (de_var (pv 4)) da_nil) (by rfl)) da_nil) (by rfl)) da_nil))))) da_nil) (by rfl)) da_nil) (by rfl)))
      (ds_last (ds_fld T.cf (de_var (pv 0)) (de_calF le_sorted_groups c_sorted_groups hr (by decide) hx (da_cons (de_var (pv 2)) da_nil) (by rfl))))),
    fun ws μ Post hS hxc => by rw [hxc]; exact wp_Picture_init hS⟩
theorem sc_picture_of : FnScope ["people", "links", "places", "ends", "starts", "person", "last", "first", "classes", "head", "group"] ["people", "links", "places"] (defScope s_picture_of) := ⟨rfl, rfl, rfl, by decide +kernel, rfl, by decide +kernel, by decide +kernel⟩
theorem fo_picture_of (T : Tx K mg cA) {fa : Addr} {fd : FuncData} (F : L2.Fun K "picture_of" "picture_of" s_picture_of fa fd) (m_Picture : Mkc P w K mg base cA "Picture" 16 2 S_Picture) (e_Links_head : Mec P w K mg base cA "head" 20 1 S_Links_head) : FnOk P w K mg base (L2.CX P w) 4 fa fd ["people", "links", "places"] (spD cA (S_picture_of)) := by
  refine fn_okD (k := 3) .d F sc_picture_of (fun ws μ P h => len_picture_of h) fun X b e1 e2 e3 e4 e5 e6 e7 calm hr hp hx ecA tk hX => ?_
  obtain ⟨cdv, A, outer, s, H, E, rfl⟩ := hX
  subst ecA
  exact ⟨t_picture_of b.xc, (ds_cons (ds_parN rfl (da_cons de_dnew (da_cons de_dnew da_nil)) (dgw_cons (dg_name (pg_name (i := 3) sc_picture_of.nd rfl (Or.inr rfl))) (dgw_cons (dg_name (pg_name (i := 4) sc_picture_of.nd rfl (Or.inr rfl))) dgw_nil)))
      (ds_cons (ds_for hp rfl (di_range1 (by rfl) T.b_range (da_cons (de_var (pv 0)) da_nil)) (dg_name (pg_name (i := 5) sc_picture_of.nd rfl (Or.inl rfl))) (ds_cons (ds_par (da_cons (de_meL le_Links_head hx e_Links_head hr (by decide) (de_var (pv 1)) (da_cons (de_ixA (de_var (pv 2)) (de_var (pv 5))) da_nil)) (da_cons (de_meL le_Links_head hx e_Links_head hr (by decide) (de_var (pv 1)) (da_cons (de_var (pv 5)) da_nil)) da_nil)) (fun p => ps_par (i := 6) (j := 7) rfl sc_picture_of.nd rfl rfl (by decide) rfl rfl p rfl))
      (ds_cons (ds_dput (hu1 hr) (de_var (pv 3)) (de_var (pv 6)) (de_addA (de_dget2 (hu1 hr) (de_var (pv 3)) (de_var (pv 6)) (de_lst da_nil) ⟨rfl, rfl, rfl, rfl⟩) (de_lst (da_cons (de_var (pv 5)) da_nil))))
      (ds_last (ds_dput (hu1 hr) (de_var (pv 4)) (de_var (pv 7)) (de_addA (de_dget2 (hu1 hr) (de_var (pv 4)) (de_var (pv 7)) (de_lst da_nil) ⟨rfl, rfl, rfl, rfl⟩) (de_lst (da_cons (de_var (pv 5)) da_nil))))))))
      (ds_cons (ds_dlock 3 (fun _ _ n ks ds LK => (ds_setLc false rfl sc_picture_of.nd (i := 8) rfl rfl rfl (di_itemsL LK (pv 3)) (own := [("head", 9), ("group", 10)]) (by show BlkOk ["people", "links", "places", "ends", "starts", "person", "last", "first", "classes", "head", "group"] (defScope s_picture_of) _ _; exact ⟨rfl, by decide +kernel, by decide +kernel, by decide +kernel, by decide +kernel⟩) (fun _ ⟨_, _, _, _, _, e⟩ => by subst e; exact (dgo_tup rfl (dgos_cons (dgo_name (pg_name (i := 9) sc_picture_of.nd rfl (Or.inl rfl)) (by decide)) (dgos_cons (dgo_name (pg_name (i := 10) sc_picture_of.nd rfl (Or.inl rfl)) (by decide)) dgos_nil)))) (fun _ ⟨_, _, _, _, _, e⟩ => by subst e; exact dts_nil) (fun _ ⟨_, _, _, _, _, e⟩ => by subst e; exact (de_tup (da_cons (de_var (pv 10)) (da_cons (de_dget2 (hu1 hr) (de_var (pv 4)) (de_var (pv 9)) (de_lst da_nil) ⟨rfl, rfl, rfl, rfl⟩) da_nil)))))))
      (ds_last (ds_ret (de_mkDF le_Picture m_Picture hr (by decide) hx (da_cons (de_var (pv 8)) (da_cons (de_dlock 4 (fun _ _ n ks ds LK => (de_lc false rfl sc_picture_of.nd (di_itemsL LK (pv 4)) (own := [("head", 9), ("group", 10)]) (by show BlkOk ["people", "links", "places", "ends", "starts", "person", "last", "first", "classes", "head", "group"] (defScope s_picture_of) _ _; exact ⟨rfl, by decide +kernel, by decide +kernel, by decide +kernel, by decide +kernel⟩) (fun _ ⟨_, _, _, _, _, e⟩ => by subst e; exact (dgo_tup rfl (dgos_cons (dgo_name (pg_name (i := 9) sc_picture_of.nd rfl (Or.inl rfl)) (by decide)) (dgos_cons (dgo_name (pg_name (i := 10) sc_picture_of.nd rfl (Or.inl rfl)) (by decide)) dgos_nil)))) (fun _ ⟨_, _, _, _, _, e⟩ => by subst e; exact (dts_one (dt_dnotin (hu1 hr) (de_var (pv 9)) (de_var (pv 3)) (by rfl)))) (fun _ ⟨_, _, _, _, _, e⟩ => by subst e; exact (de_var (pv 10)))))) da_nil)) (by rfl))))))),
    fun ws μ Post hS hxc => by rw [hxc]; exact wp_picture_of hS⟩
theorem sc_picture : FnScope ["row", "links", "places", "command"] ["row"] (defScope s_picture) := ⟨rfl, rfl, rfl, by decide +kernel, rfl, by decide +kernel, by decide +kernel⟩
theorem fo_picture (T : Tx K mg cA) {fa : Addr} {fd : FuncData} (F : L2.Fun K "picture" "picture" s_picture fa fd) (c_do_command : Cal P w K mg base cA "do_command" 3 S_do_command) (c_picture_of : Cal P w K mg base cA "picture_of" 4 S_picture_of) (m_Links : Mkc P w K mg base cA "Links" 20 1 S_Links) : FnOk P w K mg base (L2.CX P w) 5 fa fd ["row"] (spD cA (S_picture)) := by
  refine fn_okD (k := 4) .d F sc_picture (fun ws μ P h => len_picture h) fun X b e1 e2 e3 e4 e5 e6 e7 calm hr hp hx ecA tk hX => ?_
  obtain ⟨cdv, A, outer, s, H, E, rfl⟩ := hX
  subst ecA
  exact ⟨t_picture b.xc, (ds_cons (ds_par (da_cons (de_mkMF le_Links m_Links hr (by decide) hx (da_cons (de_fld T.cf (de_var (pv 0))) da_nil) (by rfl)) (da_cons (de_lrng1 true rfl T.b_list T.b_range (de_fld T.cf (de_var (pv 0))) (by rfl) (by rfl)) da_nil)) (fun p => ps_par (i := 1) (j := 2) rfl sc_picture.nd rfl rfl (by decide) rfl rfl p rfl))
      (ds_cons (ds_for hp rfl (di_seq (de_fld T.cf (de_var (pv 0)))) (dg_name (pg_name (i := 3) sc_picture.nd rfl (Or.inl rfl))) (ds_last (ds_expr (de_calF le_do_command c_do_command hr (by decide) hx (da_cons (de_var (pv 3)) (da_cons (de_var (pv 1)) (da_cons (de_var (pv 2)) da_nil))) (by rfl)))))
      (ds_last (ds_ret (de_calF le_picture_of c_picture_of hr (by decide) hx (da_cons (de_fld T.cf (de_var (pv 0))) (da_cons (de_var (pv 1)) (da_cons (de_var (pv 2)) da_nil))) (by rfl)))))),
    fun ws μ Post hS hxc => by rw [hxc]; exact wp_picture hS⟩
theorem sc_class_of : FnScope ["shown", "person", "pair"] ["shown", "person"] (defScope s_class_of) := ⟨rfl, rfl, rfl, by decide +kernel, rfl, by decide +kernel, by decide +kernel⟩
theorem fo_class_of (T : Tx K mg cA) {fa : Addr} {fd : FuncData} (F : L2.Fun K "class_of" "class_of" s_class_of fa fd) : FnOk P w K mg base (L2.CX P w) 1 fa fd ["shown", "person"] (spD cA (S_class_of)) := by
  refine fn_okD (k := 0) .d F sc_class_of (fun ws μ P h => len_class_of h) fun X b e1 e2 e3 e4 e5 e6 e7 calm hr hp hx ecA tk hX => ?_
  obtain ⟨cdv, A, outer, s, H, E, rfl⟩ := hX
  subst ecA
  exact ⟨t_class_of b.xc, (ds_last (ds_ret (de_ixA (de_lc false rfl sc_class_of.nd (di_seq (de_fld T.cf (de_var (pv 0)))) (own := [("pair", 2)]) (by show BlkOk ["shown", "person", "pair"] (defScope s_class_of) _ _; exact ⟨rfl, by decide +kernel, by decide +kernel, by decide +kernel, by decide +kernel⟩) (fun _ ⟨_, _, _, _, _, e⟩ => by subst e; exact (dgo_name (pg_name (i := 2) sc_class_of.nd rfl (Or.inl rfl)) (by decide))) (fun _ ⟨_, _, _, _, _, e⟩ => by subst e; exact (dts_one (dt_in (hu65 hr) (de_var (pv 1)) (de_ixA (de_var (pv 2)) de_int) (by rfl)))) (fun _ ⟨_, _, _, _, _, e⟩ => by subst e; exact (de_var (pv 2)))) de_int))),
    fun ws μ Post hS hxc => by rw [hxc]; exact wp_class_of hS⟩
theorem sc_meeting : FnScope ["row", "one", "other", "shown", "first", "second"] ["row", "one", "other"] (defScope s_meeting) := ⟨rfl, rfl, rfl, by decide +kernel, rfl, by decide +kernel, by decide +kernel⟩
theorem fo_meeting (T : Tx K mg cA) {fa : Addr} {fd : FuncData} (F : L2.Fun K "meeting" "meeting" s_meeting fa fd) (c_check_person : Cal P w K mg base cA "check_person" 3 S_check_person) (c_picture : Cal P w K mg base cA "picture" 5 S_picture) (c_class_of : Cal P w K mg base cA "class_of" 1 S_class_of) : FnOk P w K mg base (L2.CX P w) 6 fa fd ["row", "one", "other"] (spD cA (S_meeting)) := by
  refine fn_okD (k := 5) .d F sc_meeting (fun ws μ P h => len_meeting h) fun X b e1 e2 e3 e4 e5 e6 e7 calm hr hp hx ecA tk hX => ?_
  obtain ⟨cdv, A, outer, s, H, E, rfl⟩ := hX
  subst ecA
  exact ⟨t_meeting b.xc, (ds_cons (ds_expr (de_calF le_check_person c_check_person hr (by decide) hx (da_cons (de_fld T.cf (de_var (pv 0))) (da_cons (de_var (pv 1)) da_nil)) (by rfl)))
      (ds_cons (ds_expr (de_calF le_check_person c_check_person hr (by decide) hx (da_cons (de_fld T.cf (de_var (pv 0))) (da_cons (de_var (pv 2)) da_nil)) (by rfl)))
      (ds_cons (ds_set (de_calF le_picture c_picture hr (by decide) hx (da_cons (de_var (pv 0)) da_nil) (by rfl)) (fun p => ps_set (i := 3) sc_meeting.nd rfl (Or.inl rfl) p))
      (ds_cons (ds_par (da_cons (de_calF le_class_of c_class_of hr (by decide) hx (da_cons (de_var (pv 3)) (da_cons (de_var (pv 1)) da_nil)) (by rfl)) (da_cons (de_calF le_class_of c_class_of hr (by decide) hx (da_cons (de_var (pv 3)) (da_cons (de_var (pv 2)) da_nil)) (by rfl)) da_nil)) (fun p => ps_par (i := 4) (j := 5) rfl sc_meeting.nd rfl rfl (by decide) rfl rfl p rfl))
      (ds_cons (ds_if (dt_eq hr.units (de_var (pv 4)) (de_var (pv 5))) (ds_last (ds_ret de_str)) ds_nil)
      (ds_last (ds_ret (de_ifx (DPW.dt (dw_or (dt_eq hr.units (de_ixA (de_var (pv 4)) de_int) (de_tup da_nil)) (dw_or1 (dt_eq hr.units (de_ixA (de_var (pv 5)) de_int) (de_tup da_nil))))) de_str de_str)))))))),
    fun ws μ Post hS hxc => by rw [hxc]; exact wp_meeting hS⟩
theorem sc_l_word : FnScope ["_law_ends", "_law_one", "_law_other", "_law_found", "_law_end"] ["_law_ends", "_law_one", "_law_other"] (defScope s_l_word) := ⟨rfl, rfl, rfl, by decide +kernel, rfl, by decide +kernel, by decide +kernel⟩
theorem fo_l_word (T : Tx K mg cA) {fa : Addr} {fd : FuncData} (F : L2.Fun K "_law_word" "_law_word" s_l_word fa fd) : FnOk P w K mg base (L2.CX P w) 1 fa fd ["_law_ends", "_law_one", "_law_other"] (spD cA (S_l_word)) := by
  refine fn_okD (k := 0) .d F sc_l_word (fun ws μ P h => len_l_word h) fun X b e1 e2 e3 e4 e5 e6 e7 calm hr hp hx ecA tk hX => ?_
  obtain ⟨cdv, A, outer, s, H, E, rfl⟩ := hX
  subst ecA
  exact ⟨t_l_word b.xc, (ds_cons (ds_setLc false rfl sc_l_word.nd (i := 3) rfl rfl rfl (di_seq (de_var (pv 0))) (own := [("_law_end", 4)]) (by show BlkOk ["_law_ends", "_law_one", "_law_other", "_law_found", "_law_end"] (defScope s_l_word) _ _; exact ⟨rfl, by decide +kernel, by decide +kernel, by decide +kernel, by decide +kernel⟩) (fun _ ⟨_, _, _, _, _, e⟩ => by subst e; exact (dgo_name (pg_name (i := 4) sc_l_word.nd rfl (Or.inl rfl)) (by decide))) (fun _ ⟨_, _, _, _, _, e⟩ => by subst e; exact (dts_one (dt_eq hr.units (de_ixA (de_var (pv 4)) (de_var (pv 1))) (de_ixA (de_var (pv 4)) (de_var (pv 2)))))) (fun _ ⟨_, _, _, _, _, e⟩ => by subst e; exact (de_var (pv 4))))
      (ds_cons (ds_if (dt_eq hr.units (de_lenA T.b_len (de_var (pv 3)) (by rfl)) (de_lenA T.b_len (de_var (pv 0)) (by rfl))) (ds_last (ds_ret de_str)) ds_nil)
      (ds_last (ds_ret (de_ifx (dt_eq hr.units (de_var (pv 3)) (de_lst da_nil)) de_str de_str))))),
    fun ws μ Post hS hxc => by rw [hxc]; exact wp_l_word hS⟩
theorem sc_l_all_hold : FnScope ["_law_row_here", "_law_ends", "_law_people", "_law_one", "_law_other"] ["_law_row_here", "_law_ends", "_law_people"] (defScope s_l_all_hold) := ⟨rfl, rfl, rfl, by decide +kernel, rfl, by decide +kernel, by decide +kernel⟩
theorem fo_l_all_hold (T : Tx K mg cA) {fa : Addr} {fd : FuncData} (F : L2.Fun K "_law_all_hold" "_law_all_hold" s_l_all_hold fa fd) (c_meeting : Cal P w K mg base cA "meeting" 6 S_meeting) (c_l_word : Cal P w K mg base cA "_law_word" 1 S_l_word) : FnOk P w K mg base (L2.CX P w) 7 fa fd ["_law_row_here", "_law_ends", "_law_people"] (spD cA (S_l_all_hold)) := by
  refine fn_okD (k := 6) .d F sc_l_all_hold (fun ws μ P h => len_l_all_hold h) fun X b e1 e2 e3 e4 e5 e6 e7 calm hr hp hx ecA tk hX => ?_
  obtain ⟨cdv, A, outer, s, H, E, rfl⟩ := hX
  subst ecA
  exact ⟨t_l_all_hold b.xc, (ds_cons (ds_for hp rfl (di_range1 (by rfl) T.b_range (da_cons (de_var (pv 2)) da_nil)) (dg_name (pg_name (i := 3) sc_l_all_hold.nd rfl (Or.inl rfl))) (ds_last (ds_for hp rfl (di_range1 (by rfl) T.b_range (da_cons (de_var (pv 2)) da_nil)) (dg_name (pg_name (i := 4) sc_l_all_hold.nd rfl (Or.inl rfl))) (ds_last (ds_if (dt_ne hr.units (de_calF le_meeting c_meeting hr (by decide) hx (da_cons (de_var (pv 0)) (da_cons (de_var (pv 3)) (da_cons (de_var (pv 4)) da_nil))) (by rfl)) (de_calF le_l_word c_l_word hr (by decide) hx (da_cons (de_var (pv 1)) (da_cons (de_var (pv 3)) (da_cons (de_var (pv 4)) da_nil))) (by rfl))) (ds_last (ds_ret de_bl)) ds_nil)))))
      (ds_last (ds_ret de_bl))),
    fun ws μ Post hS hxc => by rw [hxc]; exact wp_l_all_hold hS⟩
theorem sc_Free_init : FnScope ["self", "one"] ["self", "one"] (defScope s_Free_init) := ⟨rfl, rfl, rfl, by decide +kernel, rfl, by decide +kernel, by decide +kernel⟩
theorem fo_Free_init (T : Tx K mg cA) {fa : Addr} {fd : FuncData} (F : L2.Fun K "__init__" "Free.__init__" s_Free_init fa fd) : FnOk P w K mg base (L2.CX P w) 1 fa fd ["self", "one"] (spD cA (S_Free)) := by
  refine fn_okD (k := 0) .d F sc_Free_init (fun ws μ P h => len_Free_init h) fun X b e1 e2 e3 e4 e5 e6 e7 calm hr hp hx ecA tk hX => ?_
  obtain ⟨cdv, A, outer, s, H, E, rfl⟩ := hX
  subst ecA
  exact ⟨t_Free_init b.xc, (ds_last (ds_fld T.cf (de_var (pv 0)) (de_var (pv 1)))),
    fun ws μ Post hS hxc => by rw [hxc]; exact wp_Free_init hS⟩
theorem sc_Join_init : FnScope ["self", "one", "other"] ["self", "one", "other"] (defScope s_Join_init) := ⟨rfl, rfl, rfl, by decide +kernel, rfl, by decide +kernel, by decide +kernel⟩
theorem fo_Join_init (T : Tx K mg cA) {fa : Addr} {fd : FuncData} (F : L2.Fun K "__init__" "Join.__init__" s_Join_init fa fd) : FnOk P w K mg base (L2.CX P w) 1 fa fd ["self", "one", "other"] (spD cA (S_Join)) := by
  refine fn_okD (k := 0) .d F sc_Join_init (fun ws μ P h => len_Join_init h) fun X b e1 e2 e3 e4 e5 e6 e7 calm hr hp hx ecA tk hX => ?_
  obtain ⟨cdv, A, outer, s, H, E, rfl⟩ := hX
  subst ecA
  exact ⟨t_Join_init b.xc, (ds_cons (ds_fld T.cf (de_var (pv 0)) (de_var (pv 1)))
      (ds_last (ds_fld T.cf (de_var (pv 0)) (de_var (pv 2))))),
    fun ws μ Post hS hxc => by rw [hxc]; exact wp_Join_init hS⟩
theorem sc_Swap_init : FnScope ["self", "one", "other"] ["self", "one", "other"] (defScope s_Swap_init) := ⟨rfl, rfl, rfl, by decide +kernel, rfl, by decide +kernel, by decide +kernel⟩
theorem fo_Swap_init (T : Tx K mg cA) {fa : Addr} {fd : FuncData} (F : L2.Fun K "__init__" "Swap.__init__" s_Swap_init fa fd) : FnOk P w K mg base (L2.CX P w) 1 fa fd ["self", "one", "other"] (spD cA (S_Swap)) := by
  refine fn_okD (k := 0) .d F sc_Swap_init (fun ws μ P h => len_Swap_init h) fun X b e1 e2 e3 e4 e5 e6 e7 calm hr hp hx ecA tk hX => ?_
  obtain ⟨cdv, A, outer, s, H, E, rfl⟩ := hX
  subst ecA
  exact ⟨t_Swap_init b.xc, (ds_cons (ds_fld T.cf (de_var (pv 0)) (de_var (pv 1)))
      (ds_last (ds_fld T.cf (de_var (pv 0)) (de_var (pv 2))))),
    fun ws μ Post hS hxc => by rw [hxc]; exact wp_Swap_init hS⟩
theorem sc_Move_init : FnScope ["self", "one", "other"] ["self", "one", "other"] (defScope s_Move_init) := ⟨rfl, rfl, rfl, by decide +kernel, rfl, by decide +kernel, by decide +kernel⟩
theorem fo_Move_init (T : Tx K mg cA) {fa : Addr} {fd : FuncData} (F : L2.Fun K "__init__" "Move.__init__" s_Move_init fa fd) : FnOk P w K mg base (L2.CX P w) 1 fa fd ["self", "one", "other"] (spD cA (S_Move)) := by
  refine fn_okD (k := 0) .d F sc_Move_init (fun ws μ P h => len_Move_init h) fun X b e1 e2 e3 e4 e5 e6 e7 calm hr hp hx ecA tk hX => ?_
  obtain ⟨cdv, A, outer, s, H, E, rfl⟩ := hX
  subst ecA
  exact ⟨t_Move_init b.xc, (ds_cons (ds_fld T.cf (de_var (pv 0)) (de_var (pv 1)))
      (ds_last (ds_fld T.cf (de_var (pv 0)) (de_var (pv 2))))),
    fun ws μ Post hS hxc => by rw [hxc]; exact wp_Move_init hS⟩
theorem sc_check_people : FnScope ["people"] ["people"] (defScope s_check_people) := ⟨rfl, rfl, rfl, by decide +kernel, rfl, by decide +kernel, by decide +kernel⟩
theorem fo_check_people (T : Tx K mg cA) {fa : Addr} {fd : FuncData} (F : L2.Fun K "check_people" "check_people" s_check_people fa fd) : FnOk P w K mg base (L2.CX P w) 1 fa fd ["people"] (spD cA (S_check_people)) := by
  refine fn_okD (k := 0) .d F sc_check_people (fun ws μ P h => len_check_people h) fun X b e1 e2 e3 e4 e5 e6 e7 calm hr hp hx ecA tk hX => ?_
  obtain ⟨cdv, A, outer, s, H, E, rfl⟩ := hX
  subst ecA
  exact ⟨t_check_people b.xc, (ds_last (ds_if (dt_not (dt_chain op_le op_le de_int (de_var (pv 0)) (de_gi T.c_MOST_PEOPLE (by rfl)) (fun p q r => pt_chain op_le op_le p q r))) (ds_last ds_no) ds_nil)),
    fun ws μ Post hS hxc => by rw [hxc]; exact wp_check_people hS⟩
theorem sc_Join_facts : FnScope ["self"] ["self"] (defScope s_Join_facts) := ⟨rfl, rfl, rfl, by decide +kernel, rfl, by decide +kernel, by decide +kernel⟩
theorem fo_Join_facts (T : Tx K mg cA) {fa : Addr} {fd : FuncData} (F : L2.Fun K "facts" "Join.facts" s_Join_facts fa fd) : FnOk P w K mg base (L2.CX P w) 1 fa fd ["self"] (spD cA (S_Join_facts)) := by
  refine fn_okD (k := 0) .d F sc_Join_facts (fun ws μ P h => len_Join_facts h) fun X b e1 e2 e3 e4 e5 e6 e7 calm hr hp hx ecA tk hX => ?_
  obtain ⟨cdv, A, outer, s, H, E, rfl⟩ := hX
  subst ecA
  exact ⟨t_Join_facts b.xc, (ds_last (ds_ret (de_tup (da_cons (de_fld T.cf (de_var (pv 0))) (da_cons (de_fld T.cf (de_var (pv 0))) da_nil))))),
    fun ws μ Post hS hxc => by rw [hxc]; exact wp_Join_facts hS⟩
theorem sc_Free_facts : FnScope ["self"] ["self"] (defScope s_Free_facts) := ⟨rfl, rfl, rfl, by decide +kernel, rfl, by decide +kernel, by decide +kernel⟩
theorem fo_Free_facts (T : Tx K mg cA) {fa : Addr} {fd : FuncData} (F : L2.Fun K "facts" "Free.facts" s_Free_facts fa fd) : FnOk P w K mg base (L2.CX P w) 1 fa fd ["self"] (spD cA (S_Free_facts)) := by
  refine fn_okD (k := 0) .d F sc_Free_facts (fun ws μ P h => len_Free_facts h) fun X b e1 e2 e3 e4 e5 e6 e7 calm hr hp hx ecA tk hX => ?_
  obtain ⟨cdv, A, outer, s, H, E, rfl⟩ := hX
  subst ecA
  exact ⟨t_Free_facts b.xc, (ds_last (ds_ret (de_tup (da_cons (de_fld T.cf (de_var (pv 0))) da_nil)))),
    fun ws μ Post hS hxc => by rw [hxc]; exact wp_Free_facts hS⟩
theorem sc_Swap_facts : FnScope ["self"] ["self"] (defScope s_Swap_facts) := ⟨rfl, rfl, rfl, by decide +kernel, rfl, by decide +kernel, by decide +kernel⟩
theorem fo_Swap_facts (T : Tx K mg cA) {fa : Addr} {fd : FuncData} (F : L2.Fun K "facts" "Swap.facts" s_Swap_facts fa fd) : FnOk P w K mg base (L2.CX P w) 1 fa fd ["self"] (spD cA (S_Swap_facts)) := by
  refine fn_okD (k := 0) .d F sc_Swap_facts (fun ws μ P h => len_Swap_facts h) fun X b e1 e2 e3 e4 e5 e6 e7 calm hr hp hx ecA tk hX => ?_
  obtain ⟨cdv, A, outer, s, H, E, rfl⟩ := hX
  subst ecA
  exact ⟨t_Swap_facts b.xc, (ds_last (ds_ret (de_tup (da_cons (de_fld T.cf (de_var (pv 0))) (da_cons (de_fld T.cf (de_var (pv 0))) da_nil))))),
    fun ws μ Post hS hxc => by rw [hxc]; exact wp_Swap_facts hS⟩
theorem sc_Move_facts : FnScope ["self"] ["self"] (defScope s_Move_facts) := ⟨rfl, rfl, rfl, by decide +kernel, rfl, by decide +kernel, by decide +kernel⟩
theorem fo_Move_facts (T : Tx K mg cA) {fa : Addr} {fd : FuncData} (F : L2.Fun K "facts" "Move.facts" s_Move_facts fa fd) : FnOk P w K mg base (L2.CX P w) 1 fa fd ["self"] (spD cA (S_Move_facts)) := by
  refine fn_okD (k := 0) .d F sc_Move_facts (fun ws μ P h => len_Move_facts h) fun X b e1 e2 e3 e4 e5 e6 e7 calm hr hp hx ecA tk hX => ?_
  obtain ⟨cdv, A, outer, s, H, E, rfl⟩ := hX
  subst ecA
  exact ⟨t_Move_facts b.xc, (ds_last (ds_ret (de_tup (da_cons (de_fld T.cf (de_var (pv 0))) (da_cons (de_fld T.cf (de_var (pv 0))) da_nil))))),
    fun ws μ Post hS hxc => by rw [hxc]; exact wp_Move_facts hS⟩
theorem sc_Command_persons : FnScope ["self"] ["self"] (defScope s_Command_persons) := ⟨rfl, rfl, rfl, by decide +kernel, rfl, by decide +kernel, by decide +kernel⟩
theorem fo_Command_persons (T : Tx K mg cA) {fa : Addr} {fd : FuncData} (F : L2.Fun K "persons" "Command.persons" s_Command_persons fa fd) (e_Join_facts : Mec P w K mg base cA "facts" 11 1 S_Join_facts) (e_Free_facts : Mec P w K mg base cA "facts" 12 1 S_Free_facts) (e_Swap_facts : Mec P w K mg base cA "facts" 13 1 S_Swap_facts) (e_Move_facts : Mec P w K mg base cA "facts" 14 1 S_Move_facts) : FnOk P w K mg base (L2.CX P w) 2 fa fd ["self"] (spD cA (S_Command_persons)) := by
  refine fn_okD (k := 1) .d F sc_Command_persons (fun ws μ P h => len_Command_persons h) fun X b e1 e2 e3 e4 e5 e6 e7 calm hr hp hx ecA tk hX => ?_
  obtain ⟨cdv, A, outer, s, H, E, rfl⟩ := hX
  subst ecA
  exact ⟨t_Command_persons b.xc, (ds_last (ds_ret (de_list T.b_list (da_cons (de_meF le_facts_cmd hx (MecT.ok (mect_cons e_Join_facts (by decide) (mect_cons e_Free_facts (by decide) (mect_cons e_Swap_facts (by decide) (mect_cons e_Move_facts (by decide) mect_nil)))) hr) (de_var (pv 0))) da_nil) (by rfl)))),
    fun ws μ Post hS hxc => by rw [hxc]; exact wp_Command_persons hS⟩
theorem sc_Row_init : FnScope ["self", "people", "commands", "command", "person"] ["self", "people", "commands"] (defScope s_Row_init) := ⟨rfl, rfl, rfl, by decide +kernel, rfl, by decide +kernel, by decide +kernel⟩
theorem fo_Row_init (T : Tx K mg cA) {fa : Addr} {fd : FuncData} (F : L2.Fun K "__init__" "Row.__init__" s_Row_init fa fd) (c_check_people : Cal P w K mg base cA "check_people" 1 S_check_people) (c_check_person : Cal P w K mg base cA "check_person" 3 S_check_person) (e_Join_persons : Mec P w K mg base cA "persons" 11 2 S_Join_persons) (e_Free_persons : Mec P w K mg base cA "persons" 12 2 S_Free_persons) (e_Swap_persons : Mec P w K mg base cA "persons" 13 2 S_Swap_persons) (e_Move_persons : Mec P w K mg base cA "persons" 14 2 S_Move_persons) : FnOk P w K mg base (L2.CX P w) 4 fa fd ["self", "people", "commands"] (spD cA (S_Row)) := by
  refine fn_okD (k := 3) .d F sc_Row_init (fun ws μ P h => len_Row_init h) fun X b e1 e2 e3 e4 e5 e6 e7 calm hr hp hx ecA tk hX => ?_
  obtain ⟨cdv, A, outer, s, H, E, rfl⟩ := hX
  subst ecA
  exact ⟨t_Row_init b.xc, (ds_cons (ds_expr (de_calF le_check_people c_check_people hr (by decide) hx (da_cons (de_var (pv 1)) da_nil) (by rfl)))
      (ds_cons (ds_fld T.cf (de_var (pv 0)) (de_var (pv 1)))
      (ds_cons (ds_fld T.cf (de_var (pv 0)) (de_tupOf T.b_tuple (da_cons (de_var (pv 2)) da_nil) (by rfl)))
      (ds_cons (ds_if (dt_gt (de_lenA T.b_len (de_fld T.cf (de_var (pv 0))) (by rfl)) (de_gi T.c_MOST_COMMANDS (by rfl))) (ds_last ds_no) ds_nil)
      (ds_last (ds_for hp rfl (di_seq (de_fld T.cf (de_var (pv 0)))) (dg_name (pg_name (i := 3) sc_Row_init.nd rfl (Or.inl rfl))) (ds_last (ds_for hp rfl (di_seq (de_meF le_persons hx (MecT.ok (mect_cons e_Join_persons (by decide) (mect_cons e_Free_persons (by decide) (mect_cons e_Swap_persons (by decide) (mect_cons e_Move_persons (by decide) mect_nil)))) hr) (de_var (pv 3)))) (dg_name (pg_name (i := 4) sc_Row_init.nd rfl (Or.inl rfl))) (ds_last (ds_expr (de_calF le_check_person c_check_person hr (by decide) hx (da_cons (de_var (pv 1)) (da_cons (de_var (pv 4)) da_nil)) (by rfl)))))))))))),
    fun ws μ Post hS hxc => by rw [hxc]; exact wp_Row_init hS⟩
theorem sc_l_row : FnScope ["_law_people", "_law_commands", "_law_made", "_law_kind", "_law_one", "_law_other"] ["_law_people", "_law_commands"] (defScope s_l_row) := ⟨rfl, rfl, rfl, by decide +kernel, rfl, by decide +kernel, by decide +kernel⟩
theorem fo_l_row (T : Tx K mg cA) {fa : Addr} {fd : FuncData} (F : L2.Fun K "_law_row" "_law_row" s_l_row fa fd) (m_Free : Mkc P w K mg base cA "Free" 12 1 S_Free) (m_Join : Mkc P w K mg base cA "Join" 11 1 S_Join) (m_Swap : Mkc P w K mg base cA "Swap" 13 1 S_Swap) (m_Move : Mkc P w K mg base cA "Move" 14 1 S_Move) (m_Row : Mkc P w K mg base cA "Row" 15 4 S_Row) : FnOk P w K mg base (L2.CX P w) 6 fa fd ["_law_people", "_law_commands"] (spD cA (S_l_row)) := by
  refine fn_okD (k := 5) .d F sc_l_row (fun ws μ P h => len_l_row h) fun X b e1 e2 e3 e4 e5 e6 e7 calm hr hp hx ecA tk hX => ?_
  obtain ⟨cdv, A, outer, s, H, E, rfl⟩ := hX
  subst ecA
  exact ⟨t_l_row b.xc, (ds_cons (ds_set (de_lstM da_nil) (fun p => ps_set (i := 2) sc_l_row.nd rfl (Or.inl rfl) p))
      (ds_cons (ds_for hp rfl (di_seq (de_var (pv 1))) (dg_tup rfl (dgs_cons (dg_name (pg_name (i := 3) sc_l_row.nd rfl (Or.inl rfl))) (dgs_cons (dg_name (pg_name (i := 4) sc_l_row.nd rfl (Or.inl rfl))) (dgs_cons (dg_name (pg_name (i := 5) sc_l_row.nd rfl (Or.inl rfl))) dgs_nil)))) (ds_last (ds_if (dt_eq hr.units (de_var (pv 3)) de_str) (ds_last (ds_expr (de_appA (de_var (pv 2)) (de_mkDF le_Free m_Free hr (by decide) hx (da_cons (de_var (pv 4)) da_nil) (by rfl)) (fun p q => pe_bm PySem.F.plainAttrs_list PySem.F.slot_list_append PySem.F.type_list_append mt_append p q)))) (ds_last (ds_if (dt_eq hr.units (de_var (pv 3)) de_str) (ds_last (ds_expr (de_appA (de_var (pv 2)) (de_mkDF le_Join m_Join hr (by decide) hx (da_cons (de_var (pv 4)) (da_cons (de_var (pv 5)) da_nil)) (by rfl)) (fun p q => pe_bm PySem.F.plainAttrs_list PySem.F.slot_list_append PySem.F.type_list_append mt_append p q)))) (ds_last (ds_expr (de_appA (de_var (pv 2)) (de_ifx (dt_eq hr.units (de_var (pv 3)) de_str) (de_mkDF le_Swap m_Swap hr (by decide) hx (da_cons (de_var (pv 4)) (da_cons (de_var (pv 5)) da_nil)) (by rfl)) (de_mkDF le_Move m_Move hr (by decide) hx (da_cons (de_var (pv 4)) (da_cons (de_var (pv 5)) da_nil)) (by rfl))) (fun p q => pe_bm PySem.F.plainAttrs_list PySem.F.slot_list_append PySem.F.type_list_append mt_append p q)))))))))
      (ds_last (ds_ret (de_mkDF le_Row m_Row hr (by decide) hx (da_cons (de_var (pv 0)) (da_cons (de_esc (de_var (pv 2))) da_nil)) (by rfl)))))),
    fun ws μ Post hS hxc => by rw [hxc]; exact wp_l_row hS⟩
theorem sc_l_outcome : FnScope ["_law_row_here", "_law_one", "_law_other", "e"] ["_law_row_here", "_law_one", "_law_other"] (defScope s_l_outcome) := ⟨rfl, rfl, rfl, by decide +kernel, rfl, by decide +kernel, by decide +kernel⟩
theorem fo_l_outcome (T : Tx K mg cA) {fa : Addr} {fd : FuncData} (F : L2.Fun K "_law_outcome" "_law_outcome" s_l_outcome fa fd) (c_meeting : Cal P w K mg base cA "meeting" 6 S_meeting) : FnOk P w K mg base (L2.CX P w) 7 fa fd ["_law_row_here", "_law_one", "_law_other"] (spD cA (S_l_outcome)) := by
  refine fn_okD (k := 6) .d F sc_l_outcome (fun ws μ P h => len_l_outcome h) fun X b e1 e2 e3 e4 e5 e6 e7 calm hr hp hx ecA tk hX => ?_
  obtain ⟨cdv, A, outer, s, H, E, rfl⟩ := hX
  subst ecA
  exact ⟨t_l_outcome b.xc, (ds_cons (ds_tryX rfl rfl sc_l_outcome.nd rfl tk (fun pn xe U2 G2 m2 xc hx tk hp => (ds_last (ds_expr (de_calF le_meeting c_meeting hr (by decide) hx (da_cons (de_var (pv 0)) (da_cons (de_var (pv 1)) (da_cons (de_var (pv 2)) da_nil))) (by rfl))))) (dh_as (i := 3) rfl rfl ⟨(by rfl), by decide, .inl T.n_NoPerson⟩ T.xm_NoPerson (fun a oe cls d pn U2 G2 m2 xc2 e k hxi hz hv => (ds_last (ds_ret (de_tup (da_cons de_str (da_cons (de_xf T.xf hxi hz hv (pv 3)) da_nil)))))) (dh_cons ⟨(by rfl), by decide, .inl T.n_RoomError⟩ T.xm_RoomError (fun a oe pn U2 G2 m2 xc2 => (ds_last (ds_ret de_str))) .nil)))
      (ds_last (ds_ret de_str))),
    fun ws μ Post hS hxc => by rw [hxc]; exact wp_l_outcome hS⟩
theorem sc_law : FnScope ["_law_script", "_law_cell_here", "_law_rng_here", "_law_people", "_law_commands", "_law_ends", "_law_row_here", "_law_some", "_law_one", "_law_other", "_law_invalid", "_law_rooms", "_law_person"] ["_law_script"] (defScope s_law) := ⟨rfl, rfl, rfl, by decide +kernel, rfl, by decide +kernel, by decide +kernel⟩
theorem fo_law (T : Tx K mg cA) {fa : Addr} {fd : FuncData} (F : L2.Fun K "law" "law" s_law fa fd) (c_l_cell : Cal P w K mg base cA "_law_cell" 1 (S_l_cell K)) (c_l_rng : Cal P w K mg base cA "_law_rng" 1 S_l_rng) (c_l_draw : Cal P w K mg base cA "_law_draw" 1 S_l_draw) (c_l_random_commands : Cal P w K mg base cA "_law_random_commands" 3 S_l_random_commands) (c_l_all_rooms : Cal P w K mg base cA "_law_all_rooms" 1 S_l_all_rooms) (c_l_after : Cal P w K mg base cA "_law_after" 2 S_l_after) (c_l_row : Cal P w K mg base cA "_law_row" 6 S_l_row) (c_l_all_hold : Cal P w K mg base cA "_law_all_hold" 7 S_l_all_hold) (c_l_pick : Cal P w K mg base cA "_law_pick" 2 S_l_pick) (c_l_outcome : Cal P w K mg base cA "_law_outcome" 7 S_l_outcome) : FnOk P w K mg base (L2.CX P w) 8 fa fd ["_law_script"] (spD cA (S_law K)) := by
  refine fn_okD (k := 7) .d F sc_law (fun ws μ P h => len_law h) fun X b e1 e2 e3 e4 e5 e6 e7 calm hr hp hx ecA tk hX => ?_
  obtain ⟨cdv, A, outer, s, H, E, rfl⟩ := hX
  subst ecA
  exact ⟨t_law b.xc K, (ds_cons (ds_for hp rfl (di_seq (de_addA (de_lst (da_cons (de_calF le_l_cell c_l_cell hr (by decide) hx (da_cons (de_var (pv 0)) (da_cons de_int da_nil)) (by rfl)) da_nil)) (de_slS (de_var (pv 0)) (do_some de_int) (do_some de_int)))) (dg_name (pg_name (i := 1) sc_law.nd rfl (Or.inl rfl))) (ds_cons (ds_set (de_calF le_l_rng c_l_rng hr (by decide) hx (da_cons (de_var (pv 1)) da_nil) (by rfl)) (fun p => ps_set (i := 2) sc_law.nd rfl (Or.inl rfl) p))
      (ds_cons (ds_set (de_addA de_int (de_calF le_l_draw c_l_draw hr (by decide) hx (da_cons (de_var (pv 2)) (da_cons de_int da_nil)) (by rfl))) (fun p => ps_set (i := 3) sc_law.nd rfl (Or.inr rfl) p))
      (ds_cons (ds_set (de_calF le_l_random_commands c_l_random_commands hr (by decide) hx (da_cons (de_var (pv 2)) (da_cons (de_var (pv 3)) (da_cons de_int da_nil))) (by rfl)) (fun p => ps_set (i := 4) sc_law.nd rfl (Or.inr rfl) p))
      (ds_cons (ds_setLc false rfl sc_law.nd (i := 5) rfl rfl rfl (di_seq (de_calF le_l_all_rooms c_l_all_rooms hr (by decide) hx (da_cons (de_var (pv 3)) da_nil) (by rfl))) (own := [("_law_rooms", 11)]) (by show BlkOk ["_law_script", "_law_cell_here", "_law_rng_here", "_law_people", "_law_commands", "_law_ends", "_law_row_here", "_law_some", "_law_one", "_law_other", "_law_invalid", "_law_rooms", "_law_person"] (defScope s_law) _ _; exact ⟨rfl, by decide +kernel, by decide +kernel, by decide +kernel, by decide +kernel⟩) (fun _ ⟨_, _, _, _, _, e⟩ => by subst e; exact (dgo_name (pg_name (i := 11) sc_law.nd rfl (Or.inl rfl)) (by decide))) (fun _ ⟨_, _, _, _, _, e⟩ => by subst e; exact dts_nil) (fun _ ⟨_, _, _, _, _, e⟩ => by subst e; exact (de_calF le_l_after c_l_after hr (by decide) xok_q (da_cons (de_var (pv 4)) (da_cons (de_var (pv 11)) da_nil)) (by rfl))))
      (ds_cons (ds_if (dt_not (dt_val (de_calF le_l_all_hold c_l_all_hold hr (by decide) hx (da_cons (de_calF le_l_row c_l_row hr (by decide) hx (da_cons (de_var (pv 3)) (da_cons (de_var (pv 4)) da_nil)) (by rfl)) (da_cons (de_var (pv 5)) (da_cons (de_var (pv 3)) da_nil))) (by rfl)))) (ds_last (ds_ret de_bl)) ds_nil)
      (ds_cons (ds_set (de_addA de_int (de_calF le_l_draw c_l_draw hr (by decide) hx (da_cons (de_var (pv 2)) (da_cons de_int da_nil)) (by rfl))) (fun p => ps_set (i := 3) sc_law.nd rfl (Or.inr rfl) p))
      (ds_cons (ds_set (de_calF le_l_random_commands c_l_random_commands hr (by decide) hx (da_cons (de_var (pv 2)) (da_cons (de_var (pv 3)) (da_cons de_int da_nil))) (by rfl)) (fun p => ps_set (i := 4) sc_law.nd rfl (Or.inr rfl) p))
      (ds_cons (ds_set (de_calF le_l_row c_l_row hr (by decide) hx (da_cons (de_var (pv 3)) (da_cons (de_var (pv 4)) da_nil)) (by rfl)) (fun p => ps_set (i := 6) sc_law.nd rfl (Or.inl rfl) p))
      (ds_cons (ds_set (de_lst (da_cons (de_calF le_l_after c_l_after hr (by decide) hx (da_cons (de_var (pv 4)) (da_cons (de_lrng1 false rfl T.b_list T.b_range (de_var (pv 3)) (by rfl) (by rfl)) da_nil)) (by rfl)) (da_cons (de_calF le_l_after c_l_after hr (by decide) hx (da_cons (de_var (pv 4)) (da_cons (de_mulA (de_lst (da_cons de_int da_nil)) (de_var (pv 3))) da_nil)) (by rfl)) da_nil))) (fun p => ps_set (i := 5) sc_law.nd rfl (Or.inl rfl) p))
      (ds_cons (ds_if (dt_not (dt_val (de_calF le_l_all_hold c_l_all_hold hr (by decide) hx (da_cons (de_var (pv 6)) (da_cons (de_var (pv 5)) (da_cons (de_var (pv 3)) da_nil))) (by rfl)))) (ds_last (ds_ret de_bl)) ds_nil)
      (ds_cons (ds_set (de_lst (da_cons de_int (da_cons (de_sub (de_var (pv 3)) de_int) (da_cons (de_calF le_l_draw c_l_draw hr (by decide) hx (da_cons (de_var (pv 2)) (da_cons (de_var (pv 3)) da_nil)) (by rfl)) (da_cons (de_neg de_int) (da_cons (de_var (pv 3)) (da_cons (de_sub de_int (de_var (pv 3))) (da_cons (de_pow de_int de_int) da_nil)))))))) (fun p => ps_set (i := 7) sc_law.nd rfl (Or.inl rfl) p))
      (ds_cons (ds_par (da_cons (de_calF le_l_pick c_l_pick hr (by decide) hx (da_cons (de_var (pv 2)) (da_cons (de_var (pv 7)) da_nil)) (by rfl)) (da_cons (de_calF le_l_pick c_l_pick hr (by decide) hx (da_cons (de_var (pv 2)) (da_cons (de_var (pv 7)) da_nil)) (by rfl)) da_nil)) (fun p => ps_par (i := 8) (j := 9) rfl sc_law.nd rfl rfl (by decide) rfl rfl p rfl))
      (ds_cons (ds_setLc false rfl sc_law.nd (i := 10) rfl rfl rfl (di_seq (de_tup (da_cons (de_var (pv 8)) (da_cons (de_var (pv 9)) da_nil)))) (own := [("_law_person", 12)]) (by show BlkOk ["_law_script", "_law_cell_here", "_law_rng_here", "_law_people", "_law_commands", "_law_ends", "_law_row_here", "_law_some", "_law_one", "_law_other", "_law_invalid", "_law_rooms", "_law_person"] (defScope s_law) _ _; exact ⟨rfl, by decide +kernel, by decide +kernel, by decide +kernel, by decide +kernel⟩) (fun _ ⟨_, _, _, _, _, e⟩ => by subst e; exact (dgo_name (pg_name (i := 12) sc_law.nd rfl (Or.inl rfl)) (by decide))) (fun _ ⟨_, _, _, _, _, e⟩ => by subst e; exact (dts_one (dt_not (dt_chain op_le op_lt de_int (de_var (pv 12)) (de_var (pv 3)) (fun p q r => pt_chain op_le op_lt p q r))))) (fun _ ⟨_, _, _, _, _, e⟩ => by subst e; exact (de_var (pv 12))))
      (ds_last (ds_if (dt_ne hr.units (de_calF le_l_outcome c_l_outcome hr (by decide) hx (da_cons (de_var (pv 6)) (da_cons (de_var (pv 8)) (da_cons (de_var (pv 9)) da_nil))) (by rfl)) (de_ifx (dt_ne hr.units (de_var (pv 10)) (de_lst da_nil)) (de_tup (da_cons de_str (da_cons (de_ixA (de_var (pv 10)) de_int) da_nil))) de_str)) (ds_last (ds_ret de_bl)) ds_nil))))))))))))))))
      (ds_last (ds_ret de_bl))),
    fun ws μ Post hS hxc => by rw [hxc]; exact wp_law hS⟩
theorem sc_NoPerson_init : FnScope ["self", "person"] ["self", "person"] (defScope s_NoPerson_init) := ⟨rfl, rfl, rfl, by decide +kernel, rfl, by decide +kernel, by decide +kernel⟩
def cAk (C0 C20 C11 C12 C13 C14 C15 C16 C5 C2 : Addr) : Nat → Addr
  | 0 => C0
  | 20 => C20
  | 11 => C11
  | 12 => C12
  | 13 => C13
  | 14 => C14
  | 15 => C15
  | 16 => C16
  | 5 => C5
  | 2 => C2
  | _ => 0
theorem all_mk {l : PySem.W.OpenLaw} {w : World} {K : PySem.W.Frag} {h : Heap} {mg : Str → Option Value} {fa C0 C20 C11 C12 C13 C14 C15 C16 C5 C2 f_NoPerson_init f_l_cell f_l_rng f_l_draw f_l_pick f_l_random_commands f_l_numbered f_l_after f_l_all_rooms f_check_person f_Links_init f_Links_head f_Links_link f_Links_add f_do_command f_sorted_groups f_Picture_init f_picture_of f_picture f_class_of f_meeting f_l_word f_l_all_hold f_Free_init f_Join_init f_Swap_init f_Move_init f_check_people f_Join_facts f_Free_facts f_Swap_facts f_Move_facts f_Command_persons f_Row_init f_l_row f_l_outcome f_law : Addr} {t_MOST_COMMANDS t_MOST_PEOPLE : Tok} (X : K.In h) (G : h.Ns mainGlobals mg) (hfa : mg "law" = some (.ref fa))
    {od_l_cell an_l_cell od_l_rng an_l_rng od_l_draw an_l_draw od_l_pick an_l_pick od_l_random_commands an_l_random_commands od_l_numbered an_l_numbered od_l_after an_l_after od_l_all_rooms an_l_all_rooms od_check_person an_check_person od_Links_init an_Links_init od_Links_head an_Links_head od_Links_link an_Links_link od_Links_add an_Links_add od_do_command an_do_command od_sorted_groups an_sorted_groups od_Picture_init an_Picture_init od_picture_of an_picture_of od_picture an_picture od_class_of an_class_of od_meeting an_meeting od_l_word an_l_word od_l_all_hold an_l_all_hold od_Free_init an_Free_init od_Join_init an_Join_init od_Swap_init an_Swap_init od_Move_init an_Move_init od_check_people an_check_people od_Join_facts an_Join_facts od_Free_facts an_Free_facts od_Swap_facts an_Swap_facts od_Move_facts an_Move_facts od_Command_persons an_Command_persons od_Row_init an_Row_init od_l_row an_l_row od_l_outcome an_l_outcome od_law an_law od_NoPerson_init an_NoPerson_init : Option Addr} {sl_l_cell sl_l_rng sl_l_draw sl_l_pick sl_l_random_commands sl_l_numbered sl_l_after sl_l_all_rooms sl_check_person sl_Links_init sl_Links_head sl_Links_link sl_Links_add sl_do_command sl_sorted_groups sl_Picture_init sl_picture_of sl_picture sl_class_of sl_meeting sl_l_word sl_l_all_hold sl_Free_init sl_Join_init sl_Swap_init sl_Move_init sl_check_people sl_Join_facts sl_Free_facts sl_Swap_facts sl_Move_facts sl_Command_persons sl_Row_init sl_l_row sl_l_outcome sl_law sl_NoPerson_init : Array (Option Value)} {oc_l_cell kV_l_cell dc_l_cell pm_l_cell cd_l_cell ct_l_cell oc_l_rng kV_l_rng dc_l_rng pm_l_rng cd_l_rng ct_l_rng oc_l_draw kV_l_draw dc_l_draw pm_l_draw cd_l_draw ct_l_draw oc_l_pick kV_l_pick dc_l_pick pm_l_pick cd_l_pick ct_l_pick oc_l_random_commands kV_l_random_commands dc_l_random_commands pm_l_random_commands cd_l_random_commands ct_l_random_commands oc_l_numbered kV_l_numbered dc_l_numbered pm_l_numbered cd_l_numbered ct_l_numbered oc_l_after kV_l_after dc_l_after pm_l_after cd_l_after ct_l_after oc_l_all_rooms kV_l_all_rooms dc_l_all_rooms pm_l_all_rooms cd_l_all_rooms ct_l_all_rooms oc_check_person kV_check_person dc_check_person pm_check_person cd_check_person ct_check_person oc_Links_init kV_Links_init dc_Links_init pm_Links_init cd_Links_init ct_Links_init oc_Links_head kV_Links_head dc_Links_head pm_Links_head cd_Links_head ct_Links_head oc_Links_link kV_Links_link dc_Links_link pm_Links_link cd_Links_link ct_Links_link oc_Links_add kV_Links_add dc_Links_add pm_Links_add cd_Links_add ct_Links_add oc_do_command kV_do_command dc_do_command pm_do_command cd_do_command ct_do_command oc_sorted_groups kV_sorted_groups dc_sorted_groups pm_sorted_groups cd_sorted_groups ct_sorted_groups oc_Picture_init kV_Picture_init dc_Picture_init pm_Picture_init cd_Picture_init ct_Picture_init oc_picture_of kV_picture_of dc_picture_of pm_picture_of cd_picture_of ct_picture_of oc_picture kV_picture dc_picture pm_picture cd_picture ct_picture oc_class_of kV_class_of dc_class_of pm_class_of cd_class_of ct_class_of oc_meeting kV_meeting dc_meeting pm_meeting cd_meeting ct_meeting oc_l_word kV_l_word dc_l_word pm_l_word cd_l_word ct_l_word oc_l_all_hold kV_l_all_hold dc_l_all_hold pm_l_all_hold cd_l_all_hold ct_l_all_hold oc_Free_init kV_Free_init dc_Free_init pm_Free_init cd_Free_init ct_Free_init oc_Join_init kV_Join_init dc_Join_init pm_Join_init cd_Join_init ct_Join_init oc_Swap_init kV_Swap_init dc_Swap_init pm_Swap_init cd_Swap_init ct_Swap_init oc_Move_init kV_Move_init dc_Move_init pm_Move_init cd_Move_init ct_Move_init oc_check_people kV_check_people dc_check_people pm_check_people cd_check_people ct_check_people oc_Join_facts kV_Join_facts dc_Join_facts pm_Join_facts cd_Join_facts ct_Join_facts oc_Free_facts kV_Free_facts dc_Free_facts pm_Free_facts cd_Free_facts ct_Free_facts oc_Swap_facts kV_Swap_facts dc_Swap_facts pm_Swap_facts cd_Swap_facts ct_Swap_facts oc_Move_facts kV_Move_facts dc_Move_facts pm_Move_facts cd_Move_facts ct_Move_facts oc_Command_persons kV_Command_persons dc_Command_persons pm_Command_persons cd_Command_persons ct_Command_persons oc_Row_init kV_Row_init dc_Row_init pm_Row_init cd_Row_init ct_Row_init oc_l_row kV_l_row dc_l_row pm_l_row cd_l_row ct_l_row oc_l_outcome kV_l_outcome dc_l_outcome pm_l_outcome cd_l_outcome ct_l_outcome oc_law kV_law dc_law pm_law cd_law ct_law oc_NoPerson_init kV_NoPerson_init dc_NoPerson_init pm_NoPerson_init cd_NoPerson_init ct_NoPerson_init : Value} {xnm2 xq2 : Str} {xN2 : Addr} {xbs2 xbm2 xsub2 : List Value} {xsn2 : List Str} {xab2 : Bool} {xcol2 : Option Bool} {xdd2 : Option Addr} {xa2 xb2 xc2 xd2 xe2 : Option Value}
    (g0 : PySem.W.nsIn K mainGlobals "Thing" = some (some (.ref C0)))
    (g20 : PySem.W.nsIn K mainGlobals "Links" = some (some (.ref C20)))
    (g11 : PySem.W.nsIn K mainGlobals "Join" = some (some (.ref C11)))
    (g12 : PySem.W.nsIn K mainGlobals "Free" = some (some (.ref C12)))
    (g13 : PySem.W.nsIn K mainGlobals "Swap" = some (some (.ref C13)))
    (g14 : PySem.W.nsIn K mainGlobals "Move" = some (some (.ref C14)))
    (g15 : PySem.W.nsIn K mainGlobals "Row" = some (some (.ref C15)))
    (g16 : PySem.W.nsIn K mainGlobals "Picture" = some (some (.ref C16)))
    (g5 : PySem.W.nsIn K mainGlobals "RoomError" = some (some (.ref C5)))
    (g2 : PySem.W.nsIn K mainGlobals "NoPerson" = some (some (.ref C2)))
    (pg20 : PySem.W.plainGet K C20 Str.empty = true)
    (hd20 : PySem.W.hasDictIn K C20 = true)
    (po20 : PySem.W.plainOver K C20 = true)
    (sa20 : PySem.W.findIn K (.ref C20) "__setattr__" = some (some (.builtin "object.__setattr__")))
    (mk20 : PySem.W.makesIn K C20 = true)
    (kc20 : PySem.W.keepIn K (.ref C20) = true)
    (na20_heads : PySem.W.findIn K (.ref C20) "heads" = some none)
    (pg11 : PySem.W.plainGet K C11 Str.empty = true)
    (hd11 : PySem.W.hasDictIn K C11 = true)
    (po11 : PySem.W.plainOver K C11 = true)
    (sa11 : PySem.W.findIn K (.ref C11) "__setattr__" = some (some (.builtin "object.__setattr__")))
    (mk11 : PySem.W.makesIn K C11 = true)
    (kc11 : PySem.W.keepIn K (.ref C11) = true)
    (na11_one : PySem.W.findIn K (.ref C11) "one" = some none)
    (na11_other : PySem.W.findIn K (.ref C11) "other" = some none)
    (pg12 : PySem.W.plainGet K C12 Str.empty = true)
    (hd12 : PySem.W.hasDictIn K C12 = true)
    (po12 : PySem.W.plainOver K C12 = true)
    (sa12 : PySem.W.findIn K (.ref C12) "__setattr__" = some (some (.builtin "object.__setattr__")))
    (mk12 : PySem.W.makesIn K C12 = true)
    (kc12 : PySem.W.keepIn K (.ref C12) = true)
    (na12_one : PySem.W.findIn K (.ref C12) "one" = some none)
    (pg13 : PySem.W.plainGet K C13 Str.empty = true)
    (hd13 : PySem.W.hasDictIn K C13 = true)
    (po13 : PySem.W.plainOver K C13 = true)
    (sa13 : PySem.W.findIn K (.ref C13) "__setattr__" = some (some (.builtin "object.__setattr__")))
    (mk13 : PySem.W.makesIn K C13 = true)
    (kc13 : PySem.W.keepIn K (.ref C13) = true)
    (na13_one : PySem.W.findIn K (.ref C13) "one" = some none)
    (na13_other : PySem.W.findIn K (.ref C13) "other" = some none)
    (pg14 : PySem.W.plainGet K C14 Str.empty = true)
    (hd14 : PySem.W.hasDictIn K C14 = true)
    (po14 : PySem.W.plainOver K C14 = true)
    (sa14 : PySem.W.findIn K (.ref C14) "__setattr__" = some (some (.builtin "object.__setattr__")))
    (mk14 : PySem.W.makesIn K C14 = true)
    (kc14 : PySem.W.keepIn K (.ref C14) = true)
    (na14_one : PySem.W.findIn K (.ref C14) "one" = some none)
    (na14_other : PySem.W.findIn K (.ref C14) "other" = some none)
    (pg15 : PySem.W.plainGet K C15 Str.empty = true)
    (hd15 : PySem.W.hasDictIn K C15 = true)
    (po15 : PySem.W.plainOver K C15 = true)
    (sa15 : PySem.W.findIn K (.ref C15) "__setattr__" = some (some (.builtin "object.__setattr__")))
    (mk15 : PySem.W.makesIn K C15 = true)
    (kc15 : PySem.W.keepIn K (.ref C15) = true)
    (na15_people : PySem.W.findIn K (.ref C15) "people" = some none)
    (na15_commands : PySem.W.findIn K (.ref C15) "commands" = some none)
    (pg16 : PySem.W.plainGet K C16 Str.empty = true)
    (hd16 : PySem.W.hasDictIn K C16 = true)
    (po16 : PySem.W.plainOver K C16 = true)
    (sa16 : PySem.W.findIn K (.ref C16) "__setattr__" = some (some (.builtin "object.__setattr__")))
    (mk16 : PySem.W.makesIn K C16 = true)
    (kc16 : PySem.W.keepIn K (.ref C16) = true)
    (na16_classes : PySem.W.findIn K (.ref C16) "classes" = some none)
    (na16_dead : PySem.W.findIn K (.ref C16) "dead" = some none)
    (ha11 : PySem.W.findIn K (.ref C11) "__class__" = some (some (.builtin "object.__class__")))
    (ob11 : PySem.W.mroIn K C11 (.type "object") = some true)
    (ha12 : PySem.W.findIn K (.ref C12) "__class__" = some (some (.builtin "object.__class__")))
    (ob12 : PySem.W.mroIn K C12 (.type "object") = some true)
    (ha13 : PySem.W.findIn K (.ref C13) "__class__" = some (some (.builtin "object.__class__")))
    (ob13 : PySem.W.mroIn K C13 (.type "object") = some true)
    (ha14 : PySem.W.findIn K (.ref C14) "__class__" = some (some (.builtin "object.__class__")))
    (ob14 : PySem.W.mroIn K C14 (.type "object") = some true)
    (ko11_11 : PySem.W.kitOne K (.ref C11) (.ref C11) = some true)
    (ko12_11 : PySem.W.kitOne K (.ref C12) (.ref C11) = some false)
    (ko13_11 : PySem.W.kitOne K (.ref C13) (.ref C11) = some false)
    (ko14_11 : PySem.W.kitOne K (.ref C14) (.ref C11) = some false)
    (ko11_12 : PySem.W.kitOne K (.ref C11) (.ref C12) = some false)
    (ko12_12 : PySem.W.kitOne K (.ref C12) (.ref C12) = some true)
    (ko13_12 : PySem.W.kitOne K (.ref C13) (.ref C12) = some false)
    (ko14_12 : PySem.W.kitOne K (.ref C14) (.ref C12) = some false)
    (ko11_13 : PySem.W.kitOne K (.ref C11) (.ref C13) = some false)
    (ko12_13 : PySem.W.kitOne K (.ref C12) (.ref C13) = some false)
    (ko13_13 : PySem.W.kitOne K (.ref C13) (.ref C13) = some true)
    (ko14_13 : PySem.W.kitOne K (.ref C14) (.ref C13) = some false)
    (hgn : PySem.W.specialIn K (.builtin "object.__class__") "__get__" = some (some (.builtin "getset_descriptor.__get__")))
    (tk : PySem.W.takesIn K (.builtin "object.__class__") = some true)
    (lx2 : K.lookup C2 = some (excClassObj xnm2 xq2 C2 xN2 xbs2 xbm2 true xsn2 xsub2 xab2 xcol2 xdd2 xa2 xb2 xc2 xd2 xe2 "ValueError.__new__"))
    (sx2 : PySem.W.findIn K (.ref C2) "__setattr__" = some (some (.builtin "object.__setattr__")))
    (kx2 : PySem.W.keepIn K (.ref C2) = true)
    (bx2 : PySem.W.subIn K (.ref C2) (.type "BaseException") = some true)
    (tx2 : PySem.W.typeIn K (.ref C2) = some (.type "type"))
    (gx2 : PySem.W.findIn K (.ref C2) "__getattribute__" = some (some (.builtin "BaseException.__getattribute__")))
    (hg2 : PySem.W.findIn K (.ref C2) "__getattr__" = some none)
    (hx2 : PySem.W.hasDictIn K C2 = true)
    (na2_person : PySem.W.findIn K (.ref C2) "person" = some none)
    (in2 : PySem.W.findIn K (.ref C2) "__init__" = some (some (.ref f_NoPerson_init)))
    (l_NoPerson_init : K.lookup f_NoPerson_init = some ⟨oc_NoPerson_init, od_NoPerson_init, .func (PySem.W.fnOf "__init__" "NoPerson.__init__" (defArgs s_NoPerson_init) (defBody s_NoPerson_init) (defScope s_NoPerson_init) .none kV_NoPerson_init dc_NoPerson_init pm_NoPerson_init an_NoPerson_init cd_NoPerson_init ct_NoPerson_init), sl_NoPerson_init⟩)
    (c_NoPerson_init : PySem.W.codeIn K cd_NoPerson_init "NoPerson.__init__" = true)
    (k_NoPerson_init : PySem.W.keepIn K (.ref f_NoPerson_init) = true)
    (tf2 : PySem.W.typeIn K (.ref f_NoPerson_init) = some (.type "function"))
    (rv2 : PySem.HandSPX.refsVE xbm2 = true)
    (xm2_2 : PySem.W.exmOne K (.ref C2) (.ref C2) = some true)
    (xm2_5 : PySem.W.exmOne K (.ref C2) (.ref C5) = some true)
    (b_abs : PySem.W.nsIn K mainGlobals "abs" = some none)
    (b_isinstance : PySem.W.nsIn K mainGlobals "isinstance" = some none)
    (b_len : PySem.W.nsIn K mainGlobals "len" = some none)
    (b_list : PySem.W.nsIn K mainGlobals "list" = some none)
    (b_max : PySem.W.nsIn K mainGlobals "max" = some none)
    (b_min : PySem.W.nsIn K mainGlobals "min" = some none)
    (b_range : PySem.W.nsIn K mainGlobals "range" = some none)
    (b_set : PySem.W.nsIn K mainGlobals "set" = some none)
    (b_sorted : PySem.W.nsIn K mainGlobals "sorted" = some none)
    (b_tuple : PySem.W.nsIn K mainGlobals "tuple" = some none)
    (c_MOST_COMMANDS : PySem.W.nsIn K mainGlobals "MOST_COMMANDS" = some (some (.int 60 t_MOST_COMMANDS)))
    (c_MOST_PEOPLE : PySem.W.nsIn K mainGlobals "MOST_PEOPLE" = some (some (.int 16 t_MOST_PEOPLE)))
    (fm12_facts : PySem.W.findIn K (.ref C12) "facts" = some (some (.ref f_Free_facts)))
    (fm12_persons : PySem.W.findIn K (.ref C12) "persons" = some (some (.ref f_Command_persons)))
    (fm11_facts : PySem.W.findIn K (.ref C11) "facts" = some (some (.ref f_Join_facts)))
    (fm11_persons : PySem.W.findIn K (.ref C11) "persons" = some (some (.ref f_Command_persons)))
    (fm20_add : PySem.W.findIn K (.ref C20) "add" = some (some (.ref f_Links_add)))
    (fm20_head : PySem.W.findIn K (.ref C20) "head" = some (some (.ref f_Links_head)))
    (fm20_link : PySem.W.findIn K (.ref C20) "link" = some (some (.ref f_Links_link)))
    (fm14_facts : PySem.W.findIn K (.ref C14) "facts" = some (some (.ref f_Move_facts)))
    (fm14_persons : PySem.W.findIn K (.ref C14) "persons" = some (some (.ref f_Command_persons)))
    (fm13_facts : PySem.W.findIn K (.ref C13) "facts" = some (some (.ref f_Swap_facts)))
    (fm13_persons : PySem.W.findIn K (.ref C13) "persons" = some (some (.ref f_Command_persons)))
    (in20 : PySem.W.findIn K (.ref C20) "__init__" = some (some (.ref f_Links_init)))
    (in11 : PySem.W.findIn K (.ref C11) "__init__" = some (some (.ref f_Join_init)))
    (in12 : PySem.W.findIn K (.ref C12) "__init__" = some (some (.ref f_Free_init)))
    (in13 : PySem.W.findIn K (.ref C13) "__init__" = some (some (.ref f_Swap_init)))
    (in14 : PySem.W.findIn K (.ref C14) "__init__" = some (some (.ref f_Move_init)))
    (in15 : PySem.W.findIn K (.ref C15) "__init__" = some (some (.ref f_Row_init)))
    (in16 : PySem.W.findIn K (.ref C16) "__init__" = some (some (.ref f_Picture_init)))
    (m_l_cell : PySem.W.nsIn K mainGlobals "_law_cell" = some (some (.ref f_l_cell)))
    (l_l_cell : K.lookup f_l_cell = some ⟨oc_l_cell, od_l_cell, .func (PySem.W.fnOf "_law_cell" "_law_cell" (defArgs s_l_cell) (defBody s_l_cell) (defScope s_l_cell) .none kV_l_cell dc_l_cell pm_l_cell an_l_cell cd_l_cell ct_l_cell), sl_l_cell⟩)
    (c_l_cell : PySem.W.codeIn K cd_l_cell "_law_cell" = true)
    (k_l_cell : PySem.W.keepIn K (.ref f_l_cell) = true)
    (m_l_rng : PySem.W.nsIn K mainGlobals "_law_rng" = some (some (.ref f_l_rng)))
    (l_l_rng : K.lookup f_l_rng = some ⟨oc_l_rng, od_l_rng, .func (PySem.W.fnOf "_law_rng" "_law_rng" (defArgs s_l_rng) (defBody s_l_rng) (defScope s_l_rng) .none kV_l_rng dc_l_rng pm_l_rng an_l_rng cd_l_rng ct_l_rng), sl_l_rng⟩)
    (c_l_rng : PySem.W.codeIn K cd_l_rng "_law_rng" = true)
    (k_l_rng : PySem.W.keepIn K (.ref f_l_rng) = true)
    (m_l_draw : PySem.W.nsIn K mainGlobals "_law_draw" = some (some (.ref f_l_draw)))
    (l_l_draw : K.lookup f_l_draw = some ⟨oc_l_draw, od_l_draw, .func (PySem.W.fnOf "_law_draw" "_law_draw" (defArgs s_l_draw) (defBody s_l_draw) (defScope s_l_draw) .none kV_l_draw dc_l_draw pm_l_draw an_l_draw cd_l_draw ct_l_draw), sl_l_draw⟩)
    (c_l_draw : PySem.W.codeIn K cd_l_draw "_law_draw" = true)
    (k_l_draw : PySem.W.keepIn K (.ref f_l_draw) = true)
    (m_l_pick : PySem.W.nsIn K mainGlobals "_law_pick" = some (some (.ref f_l_pick)))
    (l_l_pick : K.lookup f_l_pick = some ⟨oc_l_pick, od_l_pick, .func (PySem.W.fnOf "_law_pick" "_law_pick" (defArgs s_l_pick) (defBody s_l_pick) (defScope s_l_pick) .none kV_l_pick dc_l_pick pm_l_pick an_l_pick cd_l_pick ct_l_pick), sl_l_pick⟩)
    (c_l_pick : PySem.W.codeIn K cd_l_pick "_law_pick" = true)
    (k_l_pick : PySem.W.keepIn K (.ref f_l_pick) = true)
    (m_l_random_commands : PySem.W.nsIn K mainGlobals "_law_random_commands" = some (some (.ref f_l_random_commands)))
    (l_l_random_commands : K.lookup f_l_random_commands = some ⟨oc_l_random_commands, od_l_random_commands, .func (PySem.W.fnOf "_law_random_commands" "_law_random_commands" (defArgs s_l_random_commands) (defBody s_l_random_commands) (defScope s_l_random_commands) .none kV_l_random_commands dc_l_random_commands pm_l_random_commands an_l_random_commands cd_l_random_commands ct_l_random_commands), sl_l_random_commands⟩)
    (c_l_random_commands : PySem.W.codeIn K cd_l_random_commands "_law_random_commands" = true)
    (k_l_random_commands : PySem.W.keepIn K (.ref f_l_random_commands) = true)
    (m_l_numbered : PySem.W.nsIn K mainGlobals "_law_numbered" = some (some (.ref f_l_numbered)))
    (l_l_numbered : K.lookup f_l_numbered = some ⟨oc_l_numbered, od_l_numbered, .func (PySem.W.fnOf "_law_numbered" "_law_numbered" (defArgs s_l_numbered) (defBody s_l_numbered) (defScope s_l_numbered) .none kV_l_numbered dc_l_numbered pm_l_numbered an_l_numbered cd_l_numbered ct_l_numbered), sl_l_numbered⟩)
    (c_l_numbered : PySem.W.codeIn K cd_l_numbered "_law_numbered" = true)
    (k_l_numbered : PySem.W.keepIn K (.ref f_l_numbered) = true)
    (m_l_after : PySem.W.nsIn K mainGlobals "_law_after" = some (some (.ref f_l_after)))
    (l_l_after : K.lookup f_l_after = some ⟨oc_l_after, od_l_after, .func (PySem.W.fnOf "_law_after" "_law_after" (defArgs s_l_after) (defBody s_l_after) (defScope s_l_after) .none kV_l_after dc_l_after pm_l_after an_l_after cd_l_after ct_l_after), sl_l_after⟩)
    (c_l_after : PySem.W.codeIn K cd_l_after "_law_after" = true)
    (k_l_after : PySem.W.keepIn K (.ref f_l_after) = true)
    (m_l_all_rooms : PySem.W.nsIn K mainGlobals "_law_all_rooms" = some (some (.ref f_l_all_rooms)))
    (l_l_all_rooms : K.lookup f_l_all_rooms = some ⟨oc_l_all_rooms, od_l_all_rooms, .func (PySem.W.fnOf "_law_all_rooms" "_law_all_rooms" (defArgs s_l_all_rooms) (defBody s_l_all_rooms) (defScope s_l_all_rooms) .none kV_l_all_rooms dc_l_all_rooms pm_l_all_rooms an_l_all_rooms cd_l_all_rooms ct_l_all_rooms), sl_l_all_rooms⟩)
    (c_l_all_rooms : PySem.W.codeIn K cd_l_all_rooms "_law_all_rooms" = true)
    (k_l_all_rooms : PySem.W.keepIn K (.ref f_l_all_rooms) = true)
    (m_check_person : PySem.W.nsIn K mainGlobals "check_person" = some (some (.ref f_check_person)))
    (l_check_person : K.lookup f_check_person = some ⟨oc_check_person, od_check_person, .func (PySem.W.fnOf "check_person" "check_person" (defArgs s_check_person) (defBody s_check_person) (defScope s_check_person) .none kV_check_person dc_check_person pm_check_person an_check_person cd_check_person ct_check_person), sl_check_person⟩)
    (c_check_person : PySem.W.codeIn K cd_check_person "check_person" = true)
    (k_check_person : PySem.W.keepIn K (.ref f_check_person) = true)
    (l_Links_init : K.lookup f_Links_init = some ⟨oc_Links_init, od_Links_init, .func (PySem.W.fnOf "__init__" "Links.__init__" (defArgs s_Links_init) (defBody s_Links_init) (defScope s_Links_init) .none kV_Links_init dc_Links_init pm_Links_init an_Links_init cd_Links_init ct_Links_init), sl_Links_init⟩)
    (c_Links_init : PySem.W.codeIn K cd_Links_init "Links.__init__" = true)
    (k_Links_init : PySem.W.keepIn K (.ref f_Links_init) = true)
    (i_Links_init : PySem.W.isFn K (.ref f_Links_init) = true)
    (l_Links_head : K.lookup f_Links_head = some ⟨oc_Links_head, od_Links_head, .func (PySem.W.fnOf "head" "Links.head" (defArgs s_Links_head) (defBody s_Links_head) (defScope s_Links_head) .none kV_Links_head dc_Links_head pm_Links_head an_Links_head cd_Links_head ct_Links_head), sl_Links_head⟩)
    (c_Links_head : PySem.W.codeIn K cd_Links_head "Links.head" = true)
    (k_Links_head : PySem.W.keepIn K (.ref f_Links_head) = true)
    (i_Links_head : PySem.W.isFn K (.ref f_Links_head) = true)
    (l_Links_link : K.lookup f_Links_link = some ⟨oc_Links_link, od_Links_link, .func (PySem.W.fnOf "link" "Links.link" (defArgs s_Links_link) (defBody s_Links_link) (defScope s_Links_link) .none kV_Links_link dc_Links_link pm_Links_link an_Links_link cd_Links_link ct_Links_link), sl_Links_link⟩)
    (c_Links_link : PySem.W.codeIn K cd_Links_link "Links.link" = true)
    (k_Links_link : PySem.W.keepIn K (.ref f_Links_link) = true)
    (i_Links_link : PySem.W.isFn K (.ref f_Links_link) = true)
    (l_Links_add : K.lookup f_Links_add = some ⟨oc_Links_add, od_Links_add, .func (PySem.W.fnOf "add" "Links.add" (defArgs s_Links_add) (defBody s_Links_add) (defScope s_Links_add) .none kV_Links_add dc_Links_add pm_Links_add an_Links_add cd_Links_add ct_Links_add), sl_Links_add⟩)
    (c_Links_add : PySem.W.codeIn K cd_Links_add "Links.add" = true)
    (k_Links_add : PySem.W.keepIn K (.ref f_Links_add) = true)
    (i_Links_add : PySem.W.isFn K (.ref f_Links_add) = true)
    (m_do_command : PySem.W.nsIn K mainGlobals "do_command" = some (some (.ref f_do_command)))
    (l_do_command : K.lookup f_do_command = some ⟨oc_do_command, od_do_command, .func (PySem.W.fnOf "do_command" "do_command" (defArgs s_do_command) (defBody s_do_command) (defScope s_do_command) .none kV_do_command dc_do_command pm_do_command an_do_command cd_do_command ct_do_command), sl_do_command⟩)
    (c_do_command : PySem.W.codeIn K cd_do_command "do_command" = true)
    (k_do_command : PySem.W.keepIn K (.ref f_do_command) = true)
    (m_sorted_groups : PySem.W.nsIn K mainGlobals "sorted_groups" = some (some (.ref f_sorted_groups)))
    (l_sorted_groups : K.lookup f_sorted_groups = some ⟨oc_sorted_groups, od_sorted_groups, .func (PySem.W.fnOf "sorted_groups" "sorted_groups" (defArgs s_sorted_groups) (defBody s_sorted_groups) (defScope s_sorted_groups) .none kV_sorted_groups dc_sorted_groups pm_sorted_groups an_sorted_groups cd_sorted_groups ct_sorted_groups), sl_sorted_groups⟩)
    (c_sorted_groups : PySem.W.codeIn K cd_sorted_groups "sorted_groups" = true)
    (k_sorted_groups : PySem.W.keepIn K (.ref f_sorted_groups) = true)
    (l_Picture_init : K.lookup f_Picture_init = some ⟨oc_Picture_init, od_Picture_init, .func (PySem.W.fnOf "__init__" "Picture.__init__" (defArgs s_Picture_init) (defBody s_Picture_init) (defScope s_Picture_init) .none kV_Picture_init dc_Picture_init pm_Picture_init an_Picture_init cd_Picture_init ct_Picture_init), sl_Picture_init⟩)
    (c_Picture_init : PySem.W.codeIn K cd_Picture_init "Picture.__init__" = true)
    (k_Picture_init : PySem.W.keepIn K (.ref f_Picture_init) = true)
    (i_Picture_init : PySem.W.isFn K (.ref f_Picture_init) = true)
    (m_picture_of : PySem.W.nsIn K mainGlobals "picture_of" = some (some (.ref f_picture_of)))
    (l_picture_of : K.lookup f_picture_of = some ⟨oc_picture_of, od_picture_of, .func (PySem.W.fnOf "picture_of" "picture_of" (defArgs s_picture_of) (defBody s_picture_of) (defScope s_picture_of) .none kV_picture_of dc_picture_of pm_picture_of an_picture_of cd_picture_of ct_picture_of), sl_picture_of⟩)
    (c_picture_of : PySem.W.codeIn K cd_picture_of "picture_of" = true)
    (k_picture_of : PySem.W.keepIn K (.ref f_picture_of) = true)
    (m_picture : PySem.W.nsIn K mainGlobals "picture" = some (some (.ref f_picture)))
    (l_picture : K.lookup f_picture = some ⟨oc_picture, od_picture, .func (PySem.W.fnOf "picture" "picture" (defArgs s_picture) (defBody s_picture) (defScope s_picture) .none kV_picture dc_picture pm_picture an_picture cd_picture ct_picture), sl_picture⟩)
    (c_picture : PySem.W.codeIn K cd_picture "picture" = true)
    (k_picture : PySem.W.keepIn K (.ref f_picture) = true)
    (m_class_of : PySem.W.nsIn K mainGlobals "class_of" = some (some (.ref f_class_of)))
    (l_class_of : K.lookup f_class_of = some ⟨oc_class_of, od_class_of, .func (PySem.W.fnOf "class_of" "class_of" (defArgs s_class_of) (defBody s_class_of) (defScope s_class_of) .none kV_class_of dc_class_of pm_class_of an_class_of cd_class_of ct_class_of), sl_class_of⟩)
    (c_class_of : PySem.W.codeIn K cd_class_of "class_of" = true)
    (k_class_of : PySem.W.keepIn K (.ref f_class_of) = true)
    (m_meeting : PySem.W.nsIn K mainGlobals "meeting" = some (some (.ref f_meeting)))
    (l_meeting : K.lookup f_meeting = some ⟨oc_meeting, od_meeting, .func (PySem.W.fnOf "meeting" "meeting" (defArgs s_meeting) (defBody s_meeting) (defScope s_meeting) .none kV_meeting dc_meeting pm_meeting an_meeting cd_meeting ct_meeting), sl_meeting⟩)
    (c_meeting : PySem.W.codeIn K cd_meeting "meeting" = true)
    (k_meeting : PySem.W.keepIn K (.ref f_meeting) = true)
    (m_l_word : PySem.W.nsIn K mainGlobals "_law_word" = some (some (.ref f_l_word)))
    (l_l_word : K.lookup f_l_word = some ⟨oc_l_word, od_l_word, .func (PySem.W.fnOf "_law_word" "_law_word" (defArgs s_l_word) (defBody s_l_word) (defScope s_l_word) .none kV_l_word dc_l_word pm_l_word an_l_word cd_l_word ct_l_word), sl_l_word⟩)
    (c_l_word : PySem.W.codeIn K cd_l_word "_law_word" = true)
    (k_l_word : PySem.W.keepIn K (.ref f_l_word) = true)
    (m_l_all_hold : PySem.W.nsIn K mainGlobals "_law_all_hold" = some (some (.ref f_l_all_hold)))
    (l_l_all_hold : K.lookup f_l_all_hold = some ⟨oc_l_all_hold, od_l_all_hold, .func (PySem.W.fnOf "_law_all_hold" "_law_all_hold" (defArgs s_l_all_hold) (defBody s_l_all_hold) (defScope s_l_all_hold) .none kV_l_all_hold dc_l_all_hold pm_l_all_hold an_l_all_hold cd_l_all_hold ct_l_all_hold), sl_l_all_hold⟩)
    (c_l_all_hold : PySem.W.codeIn K cd_l_all_hold "_law_all_hold" = true)
    (k_l_all_hold : PySem.W.keepIn K (.ref f_l_all_hold) = true)
    (l_Free_init : K.lookup f_Free_init = some ⟨oc_Free_init, od_Free_init, .func (PySem.W.fnOf "__init__" "Free.__init__" (defArgs s_Free_init) (defBody s_Free_init) (defScope s_Free_init) .none kV_Free_init dc_Free_init pm_Free_init an_Free_init cd_Free_init ct_Free_init), sl_Free_init⟩)
    (c_Free_init : PySem.W.codeIn K cd_Free_init "Free.__init__" = true)
    (k_Free_init : PySem.W.keepIn K (.ref f_Free_init) = true)
    (i_Free_init : PySem.W.isFn K (.ref f_Free_init) = true)
    (l_Join_init : K.lookup f_Join_init = some ⟨oc_Join_init, od_Join_init, .func (PySem.W.fnOf "__init__" "Join.__init__" (defArgs s_Join_init) (defBody s_Join_init) (defScope s_Join_init) .none kV_Join_init dc_Join_init pm_Join_init an_Join_init cd_Join_init ct_Join_init), sl_Join_init⟩)
    (c_Join_init : PySem.W.codeIn K cd_Join_init "Join.__init__" = true)
    (k_Join_init : PySem.W.keepIn K (.ref f_Join_init) = true)
    (i_Join_init : PySem.W.isFn K (.ref f_Join_init) = true)
    (l_Swap_init : K.lookup f_Swap_init = some ⟨oc_Swap_init, od_Swap_init, .func (PySem.W.fnOf "__init__" "Swap.__init__" (defArgs s_Swap_init) (defBody s_Swap_init) (defScope s_Swap_init) .none kV_Swap_init dc_Swap_init pm_Swap_init an_Swap_init cd_Swap_init ct_Swap_init), sl_Swap_init⟩)
    (c_Swap_init : PySem.W.codeIn K cd_Swap_init "Swap.__init__" = true)
    (k_Swap_init : PySem.W.keepIn K (.ref f_Swap_init) = true)
    (i_Swap_init : PySem.W.isFn K (.ref f_Swap_init) = true)
    (l_Move_init : K.lookup f_Move_init = some ⟨oc_Move_init, od_Move_init, .func (PySem.W.fnOf "__init__" "Move.__init__" (defArgs s_Move_init) (defBody s_Move_init) (defScope s_Move_init) .none kV_Move_init dc_Move_init pm_Move_init an_Move_init cd_Move_init ct_Move_init), sl_Move_init⟩)
    (c_Move_init : PySem.W.codeIn K cd_Move_init "Move.__init__" = true)
    (k_Move_init : PySem.W.keepIn K (.ref f_Move_init) = true)
    (i_Move_init : PySem.W.isFn K (.ref f_Move_init) = true)
    (m_check_people : PySem.W.nsIn K mainGlobals "check_people" = some (some (.ref f_check_people)))
    (l_check_people : K.lookup f_check_people = some ⟨oc_check_people, od_check_people, .func (PySem.W.fnOf "check_people" "check_people" (defArgs s_check_people) (defBody s_check_people) (defScope s_check_people) .none kV_check_people dc_check_people pm_check_people an_check_people cd_check_people ct_check_people), sl_check_people⟩)
    (c_check_people : PySem.W.codeIn K cd_check_people "check_people" = true)
    (k_check_people : PySem.W.keepIn K (.ref f_check_people) = true)
    (l_Join_facts : K.lookup f_Join_facts = some ⟨oc_Join_facts, od_Join_facts, .func (PySem.W.fnOf "facts" "Join.facts" (defArgs s_Join_facts) (defBody s_Join_facts) (defScope s_Join_facts) .none kV_Join_facts dc_Join_facts pm_Join_facts an_Join_facts cd_Join_facts ct_Join_facts), sl_Join_facts⟩)
    (c_Join_facts : PySem.W.codeIn K cd_Join_facts "Join.facts" = true)
    (k_Join_facts : PySem.W.keepIn K (.ref f_Join_facts) = true)
    (i_Join_facts : PySem.W.isFn K (.ref f_Join_facts) = true)
    (l_Free_facts : K.lookup f_Free_facts = some ⟨oc_Free_facts, od_Free_facts, .func (PySem.W.fnOf "facts" "Free.facts" (defArgs s_Free_facts) (defBody s_Free_facts) (defScope s_Free_facts) .none kV_Free_facts dc_Free_facts pm_Free_facts an_Free_facts cd_Free_facts ct_Free_facts), sl_Free_facts⟩)
    (c_Free_facts : PySem.W.codeIn K cd_Free_facts "Free.facts" = true)
    (k_Free_facts : PySem.W.keepIn K (.ref f_Free_facts) = true)
    (i_Free_facts : PySem.W.isFn K (.ref f_Free_facts) = true)
    (l_Swap_facts : K.lookup f_Swap_facts = some ⟨oc_Swap_facts, od_Swap_facts, .func (PySem.W.fnOf "facts" "Swap.facts" (defArgs s_Swap_facts) (defBody s_Swap_facts) (defScope s_Swap_facts) .none kV_Swap_facts dc_Swap_facts pm_Swap_facts an_Swap_facts cd_Swap_facts ct_Swap_facts), sl_Swap_facts⟩)
    (c_Swap_facts : PySem.W.codeIn K cd_Swap_facts "Swap.facts" = true)
    (k_Swap_facts : PySem.W.keepIn K (.ref f_Swap_facts) = true)
    (i_Swap_facts : PySem.W.isFn K (.ref f_Swap_facts) = true)
    (l_Move_facts : K.lookup f_Move_facts = some ⟨oc_Move_facts, od_Move_facts, .func (PySem.W.fnOf "facts" "Move.facts" (defArgs s_Move_facts) (defBody s_Move_facts) (defScope s_Move_facts) .none kV_Move_facts dc_Move_facts pm_Move_facts an_Move_facts cd_Move_facts ct_Move_facts), sl_Move_facts⟩)
    (c_Move_facts : PySem.W.codeIn K cd_Move_facts "Move.facts" = true)
    (k_Move_facts : PySem.W.keepIn K (.ref f_Move_facts) = true)
    (i_Move_facts : PySem.W.isFn K (.ref f_Move_facts) = true)
    (l_Command_persons : K.lookup f_Command_persons = some ⟨oc_Command_persons, od_Command_persons, .func (PySem.W.fnOf "persons" "Command.persons" (defArgs s_Command_persons) (defBody s_Command_persons) (defScope s_Command_persons) .none kV_Command_persons dc_Command_persons pm_Command_persons an_Command_persons cd_Command_persons ct_Command_persons), sl_Command_persons⟩)
    (c_Command_persons : PySem.W.codeIn K cd_Command_persons "Command.persons" = true)
    (k_Command_persons : PySem.W.keepIn K (.ref f_Command_persons) = true)
    (i_Command_persons : PySem.W.isFn K (.ref f_Command_persons) = true)
    (l_Row_init : K.lookup f_Row_init = some ⟨oc_Row_init, od_Row_init, .func (PySem.W.fnOf "__init__" "Row.__init__" (defArgs s_Row_init) (defBody s_Row_init) (defScope s_Row_init) .none kV_Row_init dc_Row_init pm_Row_init an_Row_init cd_Row_init ct_Row_init), sl_Row_init⟩)
    (c_Row_init : PySem.W.codeIn K cd_Row_init "Row.__init__" = true)
    (k_Row_init : PySem.W.keepIn K (.ref f_Row_init) = true)
    (i_Row_init : PySem.W.isFn K (.ref f_Row_init) = true)
    (m_l_row : PySem.W.nsIn K mainGlobals "_law_row" = some (some (.ref f_l_row)))
    (l_l_row : K.lookup f_l_row = some ⟨oc_l_row, od_l_row, .func (PySem.W.fnOf "_law_row" "_law_row" (defArgs s_l_row) (defBody s_l_row) (defScope s_l_row) .none kV_l_row dc_l_row pm_l_row an_l_row cd_l_row ct_l_row), sl_l_row⟩)
    (c_l_row : PySem.W.codeIn K cd_l_row "_law_row" = true)
    (k_l_row : PySem.W.keepIn K (.ref f_l_row) = true)
    (m_l_outcome : PySem.W.nsIn K mainGlobals "_law_outcome" = some (some (.ref f_l_outcome)))
    (l_l_outcome : K.lookup f_l_outcome = some ⟨oc_l_outcome, od_l_outcome, .func (PySem.W.fnOf "_law_outcome" "_law_outcome" (defArgs s_l_outcome) (defBody s_l_outcome) (defScope s_l_outcome) .none kV_l_outcome dc_l_outcome pm_l_outcome an_l_outcome cd_l_outcome ct_l_outcome), sl_l_outcome⟩)
    (c_l_outcome : PySem.W.codeIn K cd_l_outcome "_law_outcome" = true)
    (k_l_outcome : PySem.W.keepIn K (.ref f_l_outcome) = true)
    (m_law : PySem.W.nsIn K mainGlobals "law" = some (some (.ref f_law)))
    (l_law : K.lookup f_law = some ⟨oc_law, od_law, .func (PySem.W.fnOf "law" "law" (defArgs s_law) (defBody s_law) (defScope s_law) .none kV_law dc_law pm_law an_law cd_law ct_law), sl_law⟩)
    (c_law : PySem.W.codeIn K cd_law "law" = true)
    (k_law : PySem.W.keepIn K (.ref f_law) = true) :
    ∃ fd : FuncData, (∀ (s : Shared) (v : Value), BindsTo s fd ⟨[v], []⟩ [("_law_script", v)]) ∧ ∀ base : Heap, K.In base → base.Ns mainGlobals mg → ∃ cA : Nat → Addr, FnOk l.prog w K mg base (L2.CX l.prog w) 8 fa fd ["_law_script"] (spD cA (S_law K)) := by
  have e := hfa.symm.trans (PySem.W.mg_of X G m_law)
  cases e
  refine ⟨PySem.W.fnOf "law" "law" (defArgs s_law) (defBody s_law) (defScope s_law) .none kV_law dc_law pm_law an_law cd_law ct_law, fun s v => .of_eq rfl, fun base hKb hGb => ⟨cAk C0 C20 C11 C12 C13 C14 C15 C16 C5 C2, ?_⟩⟩

  have cl20 : Cls K C20 := ⟨pg20, hd20, po20, sa20⟩
  have cl11 : Cls K C11 := ⟨pg11, hd11, po11, sa11⟩
  have cl12 : Cls K C12 := ⟨pg12, hd12, po12, sa12⟩
  have cl13 : Cls K C13 := ⟨pg13, hd13, po13, sa13⟩
  have cl14 : Cls K C14 := ⟨pg14, hd14, po14, sa14⟩
  have cl15 : Cls K C15 := ⟨pg15, hd15, po15, sa15⟩
  have cl16 : Cls K C16 := ⟨pg16, hd16, po16, sa16⟩
  have T : Tx K mg (cAk C0 C20 C11 C12 C13 C14 C15 C16 C5 C2) := by
    constructor
    case b_abs => exact PySem.W.mg_none_of X G b_abs
    case b_isinstance => exact PySem.W.mg_none_of X G b_isinstance
    case b_len => exact PySem.W.mg_none_of X G b_len
    case b_list => exact PySem.W.mg_none_of X G b_list
    case b_max => exact PySem.W.mg_none_of X G b_max
    case b_min => exact PySem.W.mg_none_of X G b_min
    case b_range => exact PySem.W.mg_none_of X G b_range
    case b_set => exact PySem.W.mg_none_of X G b_set
    case b_sorted => exact PySem.W.mg_none_of X G b_sorted
    case b_tuple => exact PySem.W.mg_none_of X G b_tuple
    case c_MOST_COMMANDS => exact ⟨_, PySem.W.mg_of X G c_MOST_COMMANDS⟩
    case c_MOST_PEOPLE => exact ⟨_, PySem.W.mg_of X G c_MOST_PEOPLE⟩
    case n_Free => exact PySem.W.mg_of X G g12
    case n_Join => exact PySem.W.mg_of X G g11
    case n_NoPerson => exact PySem.W.mg_of X G g2
    case n_RoomError => exact PySem.W.mg_of X G g5
    case n_Swap => exact PySem.W.mg_of X G g13
    case n_Thing => exact PySem.W.mg_of X G g0
    case xf =>
      refine ⟨fun c f hf => ?_⟩
      unfold FLX at hf
      split at hf
      · simp only [List.mem_cons, List.not_mem_nil, or_false] at hf
        rcases hf with rfl
        · exact ⟨⟨gx2, hg2, bx2, hx2⟩, na2_person⟩
      · exact absurd hf List.not_mem_nil
    case xm_NoPerson =>
      intro r v hv
      unfold isX_NoPerson at hv
      split at hv <;> first | (cases hv; done) | (cases hv; dsimp only [cAk]; assumption)
    case xm_RoomError =>
      intro r v hv
      unfold isX_RoomError at hv
      split at hv <;> first | (cases hv; done) | (cases hv; dsimp only [cAk]; assumption)
    case cf =>
      refine ⟨fun c hc => ?_, fun c f hf => ?_⟩
      · unfold FL at hc
        split at hc <;> first | exact absurd rfl hc | (dsimp only [cAk]; assumption)
      · unfold FL at hf
        split at hf <;> first | (exfalso; exact List.not_mem_nil hf) | (simp only [List.mem_cons, List.not_mem_nil, or_false] at hf; rcases hf with rfl | rfl <;> dsimp only [cAk] <;> assumption) | (simp only [List.mem_cons, List.not_mem_nil, or_false] at hf; rcases hf with rfl <;> dsimp only [cAk] <;> assumption)
    case is_Join =>
      refine ⟨fun s hs c hc => (by cases hc), fun c d hd => ?_⟩
      unfold isO_Join at hd
      split at hd
      · cases hd; exact ⟨⟨cl11, ha11, hgn, tk, ob11⟩, ko11_11⟩
      · cases hd; exact ⟨⟨cl12, ha12, hgn, tk, ob12⟩, ko12_11⟩
      · cases hd; exact ⟨⟨cl13, ha13, hgn, tk, ob13⟩, ko13_11⟩
      · cases hd; exact ⟨⟨cl14, ha14, hgn, tk, ob14⟩, ko14_11⟩
      · cases hd
    case is_Free =>
      refine ⟨fun s hs c hc => (by cases hc), fun c d hd => ?_⟩
      unfold isO_Free at hd
      split at hd
      · cases hd; exact ⟨⟨cl11, ha11, hgn, tk, ob11⟩, ko11_12⟩
      · cases hd; exact ⟨⟨cl12, ha12, hgn, tk, ob12⟩, ko12_12⟩
      · cases hd; exact ⟨⟨cl13, ha13, hgn, tk, ob13⟩, ko13_12⟩
      · cases hd; exact ⟨⟨cl14, ha14, hgn, tk, ob14⟩, ko14_12⟩
      · cases hd
    case is_Swap =>
      refine ⟨fun s hs c hc => (by cases hc), fun c d hd => ?_⟩
      unfold isO_Swap at hd
      split at hd
      · cases hd; exact ⟨⟨cl11, ha11, hgn, tk, ob11⟩, ko11_13⟩
      · cases hd; exact ⟨⟨cl12, ha12, hgn, tk, ob12⟩, ko12_13⟩
      · cases hd; exact ⟨⟨cl13, ha13, hgn, tk, ob13⟩, ko13_13⟩
      · cases hd; exact ⟨⟨cl14, ha14, hgn, tk, ob14⟩, ko14_13⟩
      · cases hd
  have F_l_cell := fun_mk (st := s_l_cell) l_l_cell c_l_cell k_l_cell
  have b_l_cell := F_l_cell.binds (ps := ["_law_script", "_law_index"]) fun _ _ _ _ _ _ us hl => match us, hl with | [_, _], _ => rfl
  have F_l_rng := fun_mk (st := s_l_rng) l_l_rng c_l_rng k_l_rng
  have b_l_rng := F_l_rng.binds (ps := ["_law_cell_here"]) fun _ _ _ _ _ _ us hl => match us, hl with | [_], _ => rfl
  have F_l_draw := fun_mk (st := s_l_draw) l_l_draw c_l_draw k_l_draw
  have b_l_draw := F_l_draw.binds (ps := ["_law_rng_here", "_law_limit"]) fun _ _ _ _ _ _ us hl => match us, hl with | [_, _], _ => rfl
  have F_l_pick := fun_mk (st := s_l_pick) l_l_pick c_l_pick k_l_pick
  have b_l_pick := F_l_pick.binds (ps := ["_law_rng_here", "_law_items"]) fun _ _ _ _ _ _ us hl => match us, hl with | [_, _], _ => rfl
  have F_l_random_commands := fun_mk (st := s_l_random_commands) l_l_random_commands c_l_random_commands k_l_random_commands
  have b_l_random_commands := F_l_random_commands.binds (ps := ["_law_rng_here", "_law_people", "_law_most"]) fun _ _ _ _ _ _ us hl => match us, hl with | [_, _, _], _ => rfl
  have F_l_numbered := fun_mk (st := s_l_numbered) l_l_numbered c_l_numbered k_l_numbered
  have b_l_numbered := F_l_numbered.binds (ps := ["_law_rooms"]) fun _ _ _ _ _ _ us hl => match us, hl with | [_], _ => rfl
  have F_l_after := fun_mk (st := s_l_after) l_l_after c_l_after k_l_after
  have b_l_after := F_l_after.binds (ps := ["_law_commands", "_law_rooms"]) fun _ _ _ _ _ _ us hl => match us, hl with | [_, _], _ => rfl
  have F_l_all_rooms := fun_mk (st := s_l_all_rooms) l_l_all_rooms c_l_all_rooms k_l_all_rooms
  have b_l_all_rooms := F_l_all_rooms.binds (ps := ["_law_people"]) fun _ _ _ _ _ _ us hl => match us, hl with | [_], _ => rfl
  have F_check_person := fun_mk (st := s_check_person) l_check_person c_check_person k_check_person
  have b_check_person := F_check_person.binds (ps := ["people", "person"]) fun _ _ _ _ _ _ us hl => match us, hl with | [_, _], _ => rfl
  have F_Links_init := fun_mk (st := s_Links_init) l_Links_init c_Links_init k_Links_init
  have b_Links_init := F_Links_init.binds (ps := ["self", "count"]) fun _ _ _ _ _ _ us hl => match us, hl with | [_, _], _ => rfl
  have F_Links_head := fun_mk (st := s_Links_head) l_Links_head c_Links_head k_Links_head
  have b_Links_head := F_Links_head.binds (ps := ["self", "number"]) fun _ _ _ _ _ _ us hl => match us, hl with | [_, _], _ => rfl
  have F_Links_link := fun_mk (st := s_Links_link) l_Links_link c_Links_link k_Links_link
  have b_Links_link := F_Links_link.binds (ps := ["self", "one", "other"]) fun _ _ _ _ _ _ us hl => match us, hl with | [_, _, _], _ => rfl
  have F_Links_add := fun_mk (st := s_Links_add) l_Links_add c_Links_add k_Links_add
  have b_Links_add := F_Links_add.binds (ps := ["self"]) fun _ _ _ _ _ _ us hl => match us, hl with | [_], _ => rfl
  have F_do_command := fun_mk (st := s_do_command) l_do_command c_do_command k_do_command
  have b_do_command := F_do_command.binds (ps := ["command", "links", "places"]) fun _ _ _ _ _ _ us hl => match us, hl with | [_, _, _], _ => rfl
  have F_sorted_groups := fun_mk (st := s_sorted_groups) l_sorted_groups c_sorted_groups k_sorted_groups
  have b_sorted_groups := F_sorted_groups.binds (ps := ["groups"]) fun _ _ _ _ _ _ us hl => match us, hl with | [_], _ => rfl
  have F_Picture_init := fun_mk (st := s_Picture_init) l_Picture_init c_Picture_init k_Picture_init
  have b_Picture_init := F_Picture_init.binds (ps := ["self", "classes", "dead"]) fun _ _ _ _ _ _ us hl => match us, hl with | [_, _, _], _ => rfl
  have F_picture_of := fun_mk (st := s_picture_of) l_picture_of c_picture_of k_picture_of
  have b_picture_of := F_picture_of.binds (ps := ["people", "links", "places"]) fun _ _ _ _ _ _ us hl => match us, hl with | [_, _, _], _ => rfl
  have F_picture := fun_mk (st := s_picture) l_picture c_picture k_picture
  have b_picture := F_picture.binds (ps := ["row"]) fun _ _ _ _ _ _ us hl => match us, hl with | [_], _ => rfl
  have F_class_of := fun_mk (st := s_class_of) l_class_of c_class_of k_class_of
  have b_class_of := F_class_of.binds (ps := ["shown", "person"]) fun _ _ _ _ _ _ us hl => match us, hl with | [_, _], _ => rfl
  have F_meeting := fun_mk (st := s_meeting) l_meeting c_meeting k_meeting
  have b_meeting := F_meeting.binds (ps := ["row", "one", "other"]) fun _ _ _ _ _ _ us hl => match us, hl with | [_, _, _], _ => rfl
  have F_l_word := fun_mk (st := s_l_word) l_l_word c_l_word k_l_word
  have b_l_word := F_l_word.binds (ps := ["_law_ends", "_law_one", "_law_other"]) fun _ _ _ _ _ _ us hl => match us, hl with | [_, _, _], _ => rfl
  have F_l_all_hold := fun_mk (st := s_l_all_hold) l_l_all_hold c_l_all_hold k_l_all_hold
  have b_l_all_hold := F_l_all_hold.binds (ps := ["_law_row_here", "_law_ends", "_law_people"]) fun _ _ _ _ _ _ us hl => match us, hl with | [_, _, _], _ => rfl
  have F_Free_init := fun_mk (st := s_Free_init) l_Free_init c_Free_init k_Free_init
  have b_Free_init := F_Free_init.binds (ps := ["self", "one"]) fun _ _ _ _ _ _ us hl => match us, hl with | [_, _], _ => rfl
  have F_Join_init := fun_mk (st := s_Join_init) l_Join_init c_Join_init k_Join_init
  have b_Join_init := F_Join_init.binds (ps := ["self", "one", "other"]) fun _ _ _ _ _ _ us hl => match us, hl with | [_, _, _], _ => rfl
  have F_Swap_init := fun_mk (st := s_Swap_init) l_Swap_init c_Swap_init k_Swap_init
  have b_Swap_init := F_Swap_init.binds (ps := ["self", "one", "other"]) fun _ _ _ _ _ _ us hl => match us, hl with | [_, _, _], _ => rfl
  have F_Move_init := fun_mk (st := s_Move_init) l_Move_init c_Move_init k_Move_init
  have b_Move_init := F_Move_init.binds (ps := ["self", "one", "other"]) fun _ _ _ _ _ _ us hl => match us, hl with | [_, _, _], _ => rfl
  have F_check_people := fun_mk (st := s_check_people) l_check_people c_check_people k_check_people
  have b_check_people := F_check_people.binds (ps := ["people"]) fun _ _ _ _ _ _ us hl => match us, hl with | [_], _ => rfl
  have F_Join_facts := fun_mk (st := s_Join_facts) l_Join_facts c_Join_facts k_Join_facts
  have b_Join_facts := F_Join_facts.binds (ps := ["self"]) fun _ _ _ _ _ _ us hl => match us, hl with | [_], _ => rfl
  have F_Free_facts := fun_mk (st := s_Free_facts) l_Free_facts c_Free_facts k_Free_facts
  have b_Free_facts := F_Free_facts.binds (ps := ["self"]) fun _ _ _ _ _ _ us hl => match us, hl with | [_], _ => rfl
  have F_Swap_facts := fun_mk (st := s_Swap_facts) l_Swap_facts c_Swap_facts k_Swap_facts
  have b_Swap_facts := F_Swap_facts.binds (ps := ["self"]) fun _ _ _ _ _ _ us hl => match us, hl with | [_], _ => rfl
  have F_Move_facts := fun_mk (st := s_Move_facts) l_Move_facts c_Move_facts k_Move_facts
  have b_Move_facts := F_Move_facts.binds (ps := ["self"]) fun _ _ _ _ _ _ us hl => match us, hl with | [_], _ => rfl
  have F_Command_persons := fun_mk (st := s_Command_persons) l_Command_persons c_Command_persons k_Command_persons
  have b_Command_persons := F_Command_persons.binds (ps := ["self"]) fun _ _ _ _ _ _ us hl => match us, hl with | [_], _ => rfl
  have F_Row_init := fun_mk (st := s_Row_init) l_Row_init c_Row_init k_Row_init
  have b_Row_init := F_Row_init.binds (ps := ["self", "people", "commands"]) fun _ _ _ _ _ _ us hl => match us, hl with | [_, _, _], _ => rfl
  have F_l_row := fun_mk (st := s_l_row) l_l_row c_l_row k_l_row
  have b_l_row := F_l_row.binds (ps := ["_law_people", "_law_commands"]) fun _ _ _ _ _ _ us hl => match us, hl with | [_, _], _ => rfl
  have F_l_outcome := fun_mk (st := s_l_outcome) l_l_outcome c_l_outcome k_l_outcome
  have b_l_outcome := F_l_outcome.binds (ps := ["_law_row_here", "_law_one", "_law_other"]) fun _ _ _ _ _ _ us hl => match us, hl with | [_, _, _], _ => rfl
  have F_law := fun_mk (st := s_law) l_law c_law k_law
  have b_law := F_law.binds (ps := ["_law_script"]) fun _ _ _ _ _ _ us hl => match us, hl with | [_], _ => rfl
  have O_2 : OexC K C2 := ⟨⟨_, _, _, _, _, _, _, _, _, _, _, _, _, _, _, lx2, rv2⟩, sx2, bx2, tx2, kx2⟩
  have F_NoPerson_init := fun_mk (st := s_NoPerson_init) l_NoPerson_init c_NoPerson_init k_NoPerson_init
  have b_NoPerson_init := F_NoPerson_init.binds (ps := ["self", "person"]) fun _ _ _ _ _ _ us hl => match us, hl with | [_, _], _ => rfl
  have x_NoPerson : Xkc l.prog w K mg base (cAk C0 C20 C11 C12 C13 C14 C15 C16 C5 C2) 2 (spX1 C2 "person") := ⟨_, _, _, O_2, in2, tf2, fn_X1 O_2 na2_person F_NoPerson_init sc_NoPerson_init (fun cdv A outer s H E => pss_one (ps_ost (pv 0) (pv 1))), b_NoPerson_init⟩
  have o_l_cell := fo_l_cell (P := l.prog) (w := w) (base := base) T F_l_cell
  have d_l_cell : Cal l.prog w K mg base (cAk C0 C20 C11 C12 C13 C14 C15 C16 C5 C2) "_law_cell" _ _ := ⟨_, _, _, o_l_cell, PySem.W.mg_of X G m_l_cell, k_l_cell, b_l_cell⟩
  have o_l_rng := fo_l_rng (P := l.prog) (w := w) (base := base) T F_l_rng
  have d_l_rng : Cal l.prog w K mg base (cAk C0 C20 C11 C12 C13 C14 C15 C16 C5 C2) "_law_rng" _ _ := ⟨_, _, _, o_l_rng, PySem.W.mg_of X G m_l_rng, k_l_rng, b_l_rng⟩
  have o_l_draw := fo_l_draw (P := l.prog) (w := w) (base := base) T F_l_draw
  have d_l_draw : Cal l.prog w K mg base (cAk C0 C20 C11 C12 C13 C14 C15 C16 C5 C2) "_law_draw" _ _ := ⟨_, _, _, o_l_draw, PySem.W.mg_of X G m_l_draw, k_l_draw, b_l_draw⟩
  have o_l_pick := fo_l_pick (P := l.prog) (w := w) (base := base) T F_l_pick d_l_draw
  have d_l_pick : Cal l.prog w K mg base (cAk C0 C20 C11 C12 C13 C14 C15 C16 C5 C2) "_law_pick" _ _ := ⟨_, _, _, o_l_pick, PySem.W.mg_of X G m_l_pick, k_l_pick, b_l_pick⟩
  have o_l_random_commands := fo_l_random_commands (P := l.prog) (w := w) (base := base) T F_l_random_commands d_l_pick d_l_draw
  have d_l_random_commands : Cal l.prog w K mg base (cAk C0 C20 C11 C12 C13 C14 C15 C16 C5 C2) "_law_random_commands" _ _ := ⟨_, _, _, o_l_random_commands, PySem.W.mg_of X G m_l_random_commands, k_l_random_commands, b_l_random_commands⟩
  have o_l_numbered := fo_l_numbered (P := l.prog) (w := w) (base := base) T F_l_numbered
  have d_l_numbered : Cal l.prog w K mg base (cAk C0 C20 C11 C12 C13 C14 C15 C16 C5 C2) "_law_numbered" _ _ := ⟨_, _, _, o_l_numbered, PySem.W.mg_of X G m_l_numbered, k_l_numbered, b_l_numbered⟩
  have o_l_after := fo_l_after (P := l.prog) (w := w) (base := base) T F_l_after d_l_numbered
  have d_l_after : Cal l.prog w K mg base (cAk C0 C20 C11 C12 C13 C14 C15 C16 C5 C2) "_law_after" _ _ := ⟨_, _, _, o_l_after, PySem.W.mg_of X G m_l_after, k_l_after, b_l_after⟩
  have o_l_all_rooms := fo_l_all_rooms (P := l.prog) (w := w) (base := base) T F_l_all_rooms
  have d_l_all_rooms : Cal l.prog w K mg base (cAk C0 C20 C11 C12 C13 C14 C15 C16 C5 C2) "_law_all_rooms" _ _ := ⟨_, _, _, o_l_all_rooms, PySem.W.mg_of X G m_l_all_rooms, k_l_all_rooms, b_l_all_rooms⟩
  have o_check_person := fo_check_person (P := l.prog) (w := w) (base := base) T F_check_person x_NoPerson
  have d_check_person : Cal l.prog w K mg base (cAk C0 C20 C11 C12 C13 C14 C15 C16 C5 C2) "check_person" _ _ := ⟨_, _, _, o_check_person, PySem.W.mg_of X G m_check_person, k_check_person, b_check_person⟩
  have o_Links_init := fo_Links_init (P := l.prog) (w := w) (base := base) T F_Links_init
  have e_Links : Mkc l.prog w K mg base (cAk C0 C20 C11 C12 C13 C14 C15 C16 C5 C2) "Links" 20 _ _ := ⟨_, _, _, ⟨mk20, in20, i_Links_init, kc20⟩, o_Links_init, PySem.W.mg_of X G g20, b_Links_init⟩
  have o_Links_head := fo_Links_head (P := l.prog) (w := w) (base := base) T F_Links_head
  have e_Links_head : Mec l.prog w K mg base (cAk C0 C20 C11 C12 C13 C14 C15 C16 C5 C2) "head" 20 _ _ := ⟨cl20, _, _, _, ⟨fm20_head, i_Links_head, k_Links_head⟩, o_Links_head, b_Links_head⟩
  have o_Links_link := fo_Links_link (P := l.prog) (w := w) (base := base) T F_Links_link e_Links_head
  have e_Links_link : Mec l.prog w K mg base (cAk C0 C20 C11 C12 C13 C14 C15 C16 C5 C2) "link" 20 _ _ := ⟨cl20, _, _, _, ⟨fm20_link, i_Links_link, k_Links_link⟩, o_Links_link, b_Links_link⟩
  have o_Links_add := fo_Links_add (P := l.prog) (w := w) (base := base) T F_Links_add
  have e_Links_add : Mec l.prog w K mg base (cAk C0 C20 C11 C12 C13 C14 C15 C16 C5 C2) "add" 20 _ _ := ⟨cl20, _, _, _, ⟨fm20_add, i_Links_add, k_Links_add⟩, o_Links_add, b_Links_add⟩
  have o_do_command := fo_do_command (P := l.prog) (w := w) (base := base) T F_do_command e_Links_link e_Links_add
  have d_do_command : Cal l.prog w K mg base (cAk C0 C20 C11 C12 C13 C14 C15 C16 C5 C2) "do_command" _ _ := ⟨_, _, _, o_do_command, PySem.W.mg_of X G m_do_command, k_do_command, b_do_command⟩
  have o_sorted_groups := fo_sorted_groups (P := l.prog) (w := w) (base := base) T F_sorted_groups
  have d_sorted_groups : Cal l.prog w K mg base (cAk C0 C20 C11 C12 C13 C14 C15 C16 C5 C2) "sorted_groups" _ _ := ⟨_, _, _, o_sorted_groups, PySem.W.mg_of X G m_sorted_groups, k_sorted_groups, b_sorted_groups⟩
  have o_Picture_init := fo_Picture_init (P := l.prog) (w := w) (base := base) T F_Picture_init d_sorted_groups
  have e_Picture : Mkc l.prog w K mg base (cAk C0 C20 C11 C12 C13 C14 C15 C16 C5 C2) "Picture" 16 _ _ := ⟨_, _, _, ⟨mk16, in16, i_Picture_init, kc16⟩, o_Picture_init, PySem.W.mg_of X G g16, b_Picture_init⟩
  have o_picture_of := fo_picture_of (P := l.prog) (w := w) (base := base) T F_picture_of e_Picture e_Links_head
  have d_picture_of : Cal l.prog w K mg base (cAk C0 C20 C11 C12 C13 C14 C15 C16 C5 C2) "picture_of" _ _ := ⟨_, _, _, o_picture_of, PySem.W.mg_of X G m_picture_of, k_picture_of, b_picture_of⟩
  have o_picture := fo_picture (P := l.prog) (w := w) (base := base) T F_picture d_do_command d_picture_of e_Links
  have d_picture : Cal l.prog w K mg base (cAk C0 C20 C11 C12 C13 C14 C15 C16 C5 C2) "picture" _ _ := ⟨_, _, _, o_picture, PySem.W.mg_of X G m_picture, k_picture, b_picture⟩
  have o_class_of := fo_class_of (P := l.prog) (w := w) (base := base) T F_class_of
  have d_class_of : Cal l.prog w K mg base (cAk C0 C20 C11 C12 C13 C14 C15 C16 C5 C2) "class_of" _ _ := ⟨_, _, _, o_class_of, PySem.W.mg_of X G m_class_of, k_class_of, b_class_of⟩
  have o_meeting := fo_meeting (P := l.prog) (w := w) (base := base) T F_meeting d_check_person d_picture d_class_of
  have d_meeting : Cal l.prog w K mg base (cAk C0 C20 C11 C12 C13 C14 C15 C16 C5 C2) "meeting" _ _ := ⟨_, _, _, o_meeting, PySem.W.mg_of X G m_meeting, k_meeting, b_meeting⟩
  have o_l_word := fo_l_word (P := l.prog) (w := w) (base := base) T F_l_word
  have d_l_word : Cal l.prog w K mg base (cAk C0 C20 C11 C12 C13 C14 C15 C16 C5 C2) "_law_word" _ _ := ⟨_, _, _, o_l_word, PySem.W.mg_of X G m_l_word, k_l_word, b_l_word⟩
  have o_l_all_hold := fo_l_all_hold (P := l.prog) (w := w) (base := base) T F_l_all_hold d_meeting d_l_word
  have d_l_all_hold : Cal l.prog w K mg base (cAk C0 C20 C11 C12 C13 C14 C15 C16 C5 C2) "_law_all_hold" _ _ := ⟨_, _, _, o_l_all_hold, PySem.W.mg_of X G m_l_all_hold, k_l_all_hold, b_l_all_hold⟩
  have o_Free_init := fo_Free_init (P := l.prog) (w := w) (base := base) T F_Free_init
  have e_Free : Mkc l.prog w K mg base (cAk C0 C20 C11 C12 C13 C14 C15 C16 C5 C2) "Free" 12 _ _ := ⟨_, _, _, ⟨mk12, in12, i_Free_init, kc12⟩, o_Free_init, PySem.W.mg_of X G g12, b_Free_init⟩
  have o_Join_init := fo_Join_init (P := l.prog) (w := w) (base := base) T F_Join_init
  have e_Join : Mkc l.prog w K mg base (cAk C0 C20 C11 C12 C13 C14 C15 C16 C5 C2) "Join" 11 _ _ := ⟨_, _, _, ⟨mk11, in11, i_Join_init, kc11⟩, o_Join_init, PySem.W.mg_of X G g11, b_Join_init⟩
  have o_Swap_init := fo_Swap_init (P := l.prog) (w := w) (base := base) T F_Swap_init
  have e_Swap : Mkc l.prog w K mg base (cAk C0 C20 C11 C12 C13 C14 C15 C16 C5 C2) "Swap" 13 _ _ := ⟨_, _, _, ⟨mk13, in13, i_Swap_init, kc13⟩, o_Swap_init, PySem.W.mg_of X G g13, b_Swap_init⟩
  have o_Move_init := fo_Move_init (P := l.prog) (w := w) (base := base) T F_Move_init
  have e_Move : Mkc l.prog w K mg base (cAk C0 C20 C11 C12 C13 C14 C15 C16 C5 C2) "Move" 14 _ _ := ⟨_, _, _, ⟨mk14, in14, i_Move_init, kc14⟩, o_Move_init, PySem.W.mg_of X G g14, b_Move_init⟩
  have o_check_people := fo_check_people (P := l.prog) (w := w) (base := base) T F_check_people
  have d_check_people : Cal l.prog w K mg base (cAk C0 C20 C11 C12 C13 C14 C15 C16 C5 C2) "check_people" _ _ := ⟨_, _, _, o_check_people, PySem.W.mg_of X G m_check_people, k_check_people, b_check_people⟩
  have o_Join_facts := fo_Join_facts (P := l.prog) (w := w) (base := base) T F_Join_facts
  have e_Join_facts : Mec l.prog w K mg base (cAk C0 C20 C11 C12 C13 C14 C15 C16 C5 C2) "facts" 11 _ _ := ⟨cl11, _, _, _, ⟨fm11_facts, i_Join_facts, k_Join_facts⟩, o_Join_facts, b_Join_facts⟩
  have o_Free_facts := fo_Free_facts (P := l.prog) (w := w) (base := base) T F_Free_facts
  have e_Free_facts : Mec l.prog w K mg base (cAk C0 C20 C11 C12 C13 C14 C15 C16 C5 C2) "facts" 12 _ _ := ⟨cl12, _, _, _, ⟨fm12_facts, i_Free_facts, k_Free_facts⟩, o_Free_facts, b_Free_facts⟩
  have o_Swap_facts := fo_Swap_facts (P := l.prog) (w := w) (base := base) T F_Swap_facts
  have e_Swap_facts : Mec l.prog w K mg base (cAk C0 C20 C11 C12 C13 C14 C15 C16 C5 C2) "facts" 13 _ _ := ⟨cl13, _, _, _, ⟨fm13_facts, i_Swap_facts, k_Swap_facts⟩, o_Swap_facts, b_Swap_facts⟩
  have o_Move_facts := fo_Move_facts (P := l.prog) (w := w) (base := base) T F_Move_facts
  have e_Move_facts : Mec l.prog w K mg base (cAk C0 C20 C11 C12 C13 C14 C15 C16 C5 C2) "facts" 14 _ _ := ⟨cl14, _, _, _, ⟨fm14_facts, i_Move_facts, k_Move_facts⟩, o_Move_facts, b_Move_facts⟩
  have o_Command_persons := fo_Command_persons (P := l.prog) (w := w) (base := base) T F_Command_persons e_Join_facts e_Free_facts e_Swap_facts e_Move_facts
  have e_Free_persons : Mec l.prog w K mg base (cAk C0 C20 C11 C12 C13 C14 C15 C16 C5 C2) "persons" 12 _ _ := ⟨cl12, _, _, _, ⟨fm12_persons, i_Command_persons, k_Command_persons⟩, o_Command_persons, b_Command_persons⟩
  have e_Join_persons : Mec l.prog w K mg base (cAk C0 C20 C11 C12 C13 C14 C15 C16 C5 C2) "persons" 11 _ _ := ⟨cl11, _, _, _, ⟨fm11_persons, i_Command_persons, k_Command_persons⟩, o_Command_persons, b_Command_persons⟩
  have e_Move_persons : Mec l.prog w K mg base (cAk C0 C20 C11 C12 C13 C14 C15 C16 C5 C2) "persons" 14 _ _ := ⟨cl14, _, _, _, ⟨fm14_persons, i_Command_persons, k_Command_persons⟩, o_Command_persons, b_Command_persons⟩
  have e_Swap_persons : Mec l.prog w K mg base (cAk C0 C20 C11 C12 C13 C14 C15 C16 C5 C2) "persons" 13 _ _ := ⟨cl13, _, _, _, ⟨fm13_persons, i_Command_persons, k_Command_persons⟩, o_Command_persons, b_Command_persons⟩
  have o_Row_init := fo_Row_init (P := l.prog) (w := w) (base := base) T F_Row_init d_check_people d_check_person e_Join_persons e_Free_persons e_Swap_persons e_Move_persons
  have e_Row : Mkc l.prog w K mg base (cAk C0 C20 C11 C12 C13 C14 C15 C16 C5 C2) "Row" 15 _ _ := ⟨_, _, _, ⟨mk15, in15, i_Row_init, kc15⟩, o_Row_init, PySem.W.mg_of X G g15, b_Row_init⟩
  have o_l_row := fo_l_row (P := l.prog) (w := w) (base := base) T F_l_row e_Free e_Join e_Swap e_Move e_Row
  have d_l_row : Cal l.prog w K mg base (cAk C0 C20 C11 C12 C13 C14 C15 C16 C5 C2) "_law_row" _ _ := ⟨_, _, _, o_l_row, PySem.W.mg_of X G m_l_row, k_l_row, b_l_row⟩
  have o_l_outcome := fo_l_outcome (P := l.prog) (w := w) (base := base) T F_l_outcome d_meeting
  have d_l_outcome : Cal l.prog w K mg base (cAk C0 C20 C11 C12 C13 C14 C15 C16 C5 C2) "_law_outcome" _ _ := ⟨_, _, _, o_l_outcome, PySem.W.mg_of X G m_l_outcome, k_l_outcome, b_l_outcome⟩
  have o_law := fo_law (P := l.prog) (w := w) (base := base) T F_law d_l_cell d_l_rng d_l_draw d_l_random_commands d_l_all_rooms d_l_after d_l_row d_l_all_hold d_l_pick d_l_outcome
  have d_law : Cal l.prog w K mg base (cAk C0 C20 C11 C12 C13 C14 C15 C16 C5 C2) "law" _ _ := ⟨_, _, _, o_law, PySem.W.mg_of X G m_law, k_law, b_law⟩
  exact o_law
end
end DD
namespace DD
open PySem L2
/-- the law's promise, wherever the classes stand -/
def spL (K : PySem.W.Frag) : Sp := fun vs H Q E => ∀ cA : Nat → Addr, spD cA (S_law K) vs H Q E
theorem fn_imp {P : Program} {w : World} {K : PySem.W.Frag} {mg : Str → Option Value} {base : Heap} {CX : CXT} {k : Nat} {f : Addr} {fd : FuncData} {ps : List Str} {sp sp' : Sp} (F : FnOk P w K mg base CX k f fd ps sp) (h : ∀ vs H Q E, sp' vs H Q E → sp vs H Q E) : FnOk P w K mg base CX k f fd ps sp' :=
  ⟨fun vs H Q E z => F.len vs H Q E (h _ _ _ _ z), fun A outer s H args us vs Q E hr e0 hb r z => F.run A outer s H args us vs Q E hr e0 hb r (h _ _ _ _ z)⟩
theorem sp_start {K : PySem.W.Frag} {H : Hp} {a : Addr} {ns : List Int} (hl : ns.length ≤ 63) (hO : Only H) (hS : SqL K H a (ns.map V.int)) : spL K [.ref a] H (fun v _ => v = .bl true) fun _ _ _ => False := by
  intro cA
  refine ⟨fun _ => none, H, [[a]], [.r 0], [.scr ns (scrK K ns)], fun r μ' => r = .ret (.d (.bl true)), ?_, .cons (.r (as := []) rfl) .nil, ⟨ns, rfl, rfl, hl, rfl⟩, fun r μ' G' m' H' hp l rm => ?_⟩
  · have one : ∀ {α : Type} {x c : α} {i : Nat}, ([x] : List α)[i]? = some c → i = 0 ∧ x = c := fun {α x c i} h => by
      match i, h with
      | 0, h => exact ⟨rfl, Option.some.inj h⟩
    refine ⟨fun _ _ h => (by cases h), Sub.refl H, fun _ _ h => (by cases h), rfl, fun i c as h h2 => ?_, fun i c as h h2 lv => ?_, fun i j c c' as as' x h h2 h3 h4 lv => ?_, fun i c as x h h2 lv => ?_⟩
    · obtain ⟨_, rfl⟩ := one h
      obtain ⟨_, rfl⟩ := one h2
      refine ⟨a, rfl, ?_⟩
      rcases hS with (h | ⟨o, h⟩) | h
      · rcases hO a with e | ⟨o, xs, e⟩
        · rw [e] at h; cases h
        · rw [e] at h; cases h
      · exact .inl ⟨o, h⟩
      · exact .inr h
    · obtain ⟨_, rfl⟩ := one h
      cases lv
    · obtain ⟨_, rfl⟩ := one h
      cases lv
    · obtain ⟨_, rfl⟩ := one h
      cases lv
  · subst hp
    intro v q
    cases q with
    | d q => cases q; rfl
theorem walk {l : PySem.W.OpenLaw} {q : Program} {loose : List Str} {XP : (Str → Option Value) → Heap → Prop} {YP : World → Heap → Prop} {d : DefRec} {K : Params → PySem.W.Frag} (hn : l.most = some 63) (hdf : d.params.defaults = [])
    (hY : ∀ (w : World) (h : Heap), YP w h → (K w.params).In h)
    (F : ∀ (w : World) (mg : Str → Option Value) (fa : Addr) (h : Heap), (K w.params).In h → h.Ns mainGlobals mg → mg d.name = some (.ref fa) →
      ∃ fd : FuncData, (∀ (s : Shared) (u : Value), BindsTo s fd ⟨[u], []⟩ [("_law_script", u)]) ∧ ∀ base : Heap, (K w.params).In base → base.Ns mainGlobals mg → ∃ cA : Nat → Addr, FnOk l.prog w (K w.params) mg base (L2.CX l.prog w) 8 fa fd ["_law_script"] (spD cA (S_law (K w.params)))) :
    PySem.W.WalkO q loose XP YP l.row.toRowW d [] (fun f vs => PySem.call f vs) :=
  L2.walk_of (n := 63) (k := 8) (x := "_law_script") (CX := fun w => L2.CX l.prog w) (sp := fun w => spL (K w.params)) hn (by decide) hdf ⟨rfl, by decide, by decide⟩ hY
    (fun w mg fa h hK hG hm => by
      obtain ⟨fd, hb, hF⟩ := F w mg fa h hK hG hm
      refine ⟨fd, hb, fun base h1 h2 => ?_⟩
      obtain ⟨cA, hcA⟩ := hF base h1 h2
      exact fn_imp hcA fun vs H Q E z => z cA)
    (fun _ _ a ns hl hO hS => sp_start hl hO hS) fun w H s e s' z => by
      obtain ⟨_, _, _, cls, d, _, _, _, _, _, _, _, z⟩ := z
      exact z.elim
end DD

open PySem PySem.W PyProof.Rows
set_option maxRecDepth 100000 in
set_option maxHeartbeats 0 in
theorem PySem.Challenge.cw_glueroom_k52_meetings_by_all_divisions_holds : PySem.Challenge.rw_glueroom_k52_meetings_by_all_divisions.Holds := by
  w_on; o_law; k_head; (case hw => w_witness2)
  k_fill
  refine DD.walk (l := PySem.Challenge.rw_glueroom_k52_meetings_by_all_divisions) rfl rfl (fun w h Y => PySem.W.kIn_of Y) ?F
  case F =>
    intro w mg fa h KX G hmg
    refine' DD.all_mk KX G hmg ?zq_g0 ?zq_g20 ?zq_g11 ?zq_g12 ?zq_g13 ?zq_g14 ?zq_g15 ?zq_g16 ?zq_g5 ?zq_g2 ?zq_pg20 ?zq_hd20 ?zq_po20 ?zq_sa20 ?zq_mk20 ?zq_kc20 ?zq_na20_heads ?zq_pg11 ?zq_hd11 ?zq_po11 ?zq_sa11 ?zq_mk11 ?zq_kc11 ?zq_na11_one ?zq_na11_other ?zq_pg12 ?zq_hd12 ?zq_po12 ?zq_sa12 ?zq_mk12 ?zq_kc12 ?zq_na12_one ?zq_pg13 ?zq_hd13 ?zq_po13 ?zq_sa13 ?zq_mk13 ?zq_kc13 ?zq_na13_one ?zq_na13_other ?zq_pg14 ?zq_hd14 ?zq_po14 ?zq_sa14 ?zq_mk14 ?zq_kc14 ?zq_na14_one ?zq_na14_other ?zq_pg15 ?zq_hd15 ?zq_po15 ?zq_sa15 ?zq_mk15 ?zq_kc15 ?zq_na15_people ?zq_na15_commands ?zq_pg16 ?zq_hd16 ?zq_po16 ?zq_sa16 ?zq_mk16 ?zq_kc16 ?zq_na16_classes ?zq_na16_dead ?zq_ha11 ?zq_ob11 ?zq_ha12 ?zq_ob12 ?zq_ha13 ?zq_ob13 ?zq_ha14 ?zq_ob14 ?zq_ko11_11 ?zq_ko12_11 ?zq_ko13_11 ?zq_ko14_11 ?zq_ko11_12 ?zq_ko12_12 ?zq_ko13_12 ?zq_ko14_12 ?zq_ko11_13 ?zq_ko12_13 ?zq_ko13_13 ?zq_ko14_13 ?zq_hgn ?zq_tk ?zq_lx2 ?zq_sx2 ?zq_kx2 ?zq_bx2 ?zq_tx2 ?zq_gx2 ?zq_hg2 ?zq_hx2 ?zq_na2_person ?zq_in2 ?zq_l_NoPerson_init ?zq_c_NoPerson_init ?zq_k_NoPerson_init ?zq_tf2 ?zq_rv2 ?zq_xm2_2 ?zq_xm2_5 ?zq_b_abs ?zq_b_isinstance ?zq_b_len ?zq_b_list ?zq_b_max ?zq_b_min ?zq_b_range ?zq_b_set ?zq_b_sorted ?zq_b_tuple ?zq_c_MOST_COMMANDS ?zq_c_MOST_PEOPLE ?zq_fm12_facts ?zq_fm12_persons ?zq_fm11_facts ?zq_fm11_persons ?zq_fm20_add ?zq_fm20_head ?zq_fm20_link ?zq_fm14_facts ?zq_fm14_persons ?zq_fm13_facts ?zq_fm13_persons ?zq_in20 ?zq_in11 ?zq_in12 ?zq_in13 ?zq_in14 ?zq_in15 ?zq_in16 ?zq_m_l_cell ?zq_l_l_cell ?zq_c_l_cell ?zq_k_l_cell ?zq_m_l_rng ?zq_l_l_rng ?zq_c_l_rng ?zq_k_l_rng ?zq_m_l_draw ?zq_l_l_draw ?zq_c_l_draw ?zq_k_l_draw ?zq_m_l_pick ?zq_l_l_pick ?zq_c_l_pick ?zq_k_l_pick ?zq_m_l_random_commands ?zq_l_l_random_commands ?zq_c_l_random_commands ?zq_k_l_random_commands ?zq_m_l_numbered ?zq_l_l_numbered ?zq_c_l_numbered ?zq_k_l_numbered ?zq_m_l_after ?zq_l_l_after ?zq_c_l_after ?zq_k_l_after ?zq_m_l_all_rooms ?zq_l_l_all_rooms ?zq_c_l_all_rooms ?zq_k_l_all_rooms ?zq_m_check_person ?zq_l_check_person ?zq_c_check_person ?zq_k_check_person ?zq_l_Links_init ?zq_c_Links_init ?zq_k_Links_init ?zq_i_Links_init ?zq_l_Links_head ?zq_c_Links_head ?zq_k_Links_head ?zq_i_Links_head ?zq_l_Links_link ?zq_c_Links_link ?zq_k_Links_link ?zq_i_Links_link ?zq_l_Links_add ?zq_c_Links_add ?zq_k_Links_add ?zq_i_Links_add ?zq_m_do_command ?zq_l_do_command ?zq_c_do_command ?zq_k_do_command ?zq_m_sorted_groups ?zq_l_sorted_groups ?zq_c_sorted_groups ?zq_k_sorted_groups ?zq_l_Picture_init ?zq_c_Picture_init ?zq_k_Picture_init ?zq_i_Picture_init ?zq_m_picture_of ?zq_l_picture_of ?zq_c_picture_of ?zq_k_picture_of ?zq_m_picture ?zq_l_picture ?zq_c_picture ?zq_k_picture ?zq_m_class_of ?zq_l_class_of ?zq_c_class_of ?zq_k_class_of ?zq_m_meeting ?zq_l_meeting ?zq_c_meeting ?zq_k_meeting ?zq_m_l_word ?zq_l_l_word ?zq_c_l_word ?zq_k_l_word ?zq_m_l_all_hold ?zq_l_l_all_hold ?zq_c_l_all_hold ?zq_k_l_all_hold ?zq_l_Free_init ?zq_c_Free_init ?zq_k_Free_init ?zq_i_Free_init ?zq_l_Join_init ?zq_c_Join_init ?zq_k_Join_init ?zq_i_Join_init ?zq_l_Swap_init ?zq_c_Swap_init ?zq_k_Swap_init ?zq_i_Swap_init ?zq_l_Move_init ?zq_c_Move_init ?zq_k_Move_init ?zq_i_Move_init ?zq_m_check_people ?zq_l_check_people ?zq_c_check_people ?zq_k_check_people ?zq_l_Join_facts ?zq_c_Join_facts ?zq_k_Join_facts ?zq_i_Join_facts ?zq_l_Free_facts ?zq_c_Free_facts ?zq_k_Free_facts ?zq_i_Free_facts ?zq_l_Swap_facts ?zq_c_Swap_facts ?zq_k_Swap_facts ?zq_i_Swap_facts ?zq_l_Move_facts ?zq_c_Move_facts ?zq_k_Move_facts ?zq_i_Move_facts ?zq_l_Command_persons ?zq_c_Command_persons ?zq_k_Command_persons ?zq_i_Command_persons ?zq_l_Row_init ?zq_c_Row_init ?zq_k_Row_init ?zq_i_Row_init ?zq_m_l_row ?zq_l_l_row ?zq_c_l_row ?zq_k_l_row ?zq_m_l_outcome ?zq_l_l_outcome ?zq_c_l_outcome ?zq_k_l_outcome ?zq_m_law ?zq_l_law ?zq_c_law ?zq_k_law
    (case zq_g0 => k_is)
    (case zq_g20 => k_is)
    (case zq_g11 => k_is)
    (case zq_g12 => k_is)
    (case zq_g13 => k_is)
    (case zq_g14 => k_is)
    (case zq_g15 => k_is)
    (case zq_g16 => k_is)
    (case zq_g5 => k_is)
    (case zq_g2 => k_is)
    (case zq_pg20 => k_is)
    (case zq_hd20 => k_is)
    (case zq_po20 => k_is)
    (case zq_sa20 => k_is)
    (case zq_mk20 => k_is)
    (case zq_kc20 => k_is)
    (case zq_na20_heads => k_is)
    (case zq_pg11 => k_is)
    (case zq_hd11 => k_is)
    (case zq_po11 => k_is)
    (case zq_sa11 => k_is)
    (case zq_mk11 => k_is)
    (case zq_kc11 => k_is)
    (case zq_na11_one => k_is)
    (case zq_na11_other => k_is)
    (case zq_pg12 => k_is)
    (case zq_hd12 => k_is)
    (case zq_po12 => k_is)
    (case zq_sa12 => k_is)
    (case zq_mk12 => k_is)
    (case zq_kc12 => k_is)
    (case zq_na12_one => k_is)
    (case zq_pg13 => k_is)
    (case zq_hd13 => k_is)
    (case zq_po13 => k_is)
    (case zq_sa13 => k_is)
    (case zq_mk13 => k_is)
    (case zq_kc13 => k_is)
    (case zq_na13_one => k_is)
    (case zq_na13_other => k_is)
    (case zq_pg14 => k_is)
    (case zq_hd14 => k_is)
    (case zq_po14 => k_is)
    (case zq_sa14 => k_is)
    (case zq_mk14 => k_is)
    (case zq_kc14 => k_is)
    (case zq_na14_one => k_is)
    (case zq_na14_other => k_is)
    (case zq_pg15 => k_is)
    (case zq_hd15 => k_is)
    (case zq_po15 => k_is)
    (case zq_sa15 => k_is)
    (case zq_mk15 => k_is)
    (case zq_kc15 => k_is)
    (case zq_na15_people => k_is)
    (case zq_na15_commands => k_is)
    (case zq_pg16 => k_is)
    (case zq_hd16 => k_is)
    (case zq_po16 => k_is)
    (case zq_sa16 => k_is)
    (case zq_mk16 => k_is)
    (case zq_kc16 => k_is)
    (case zq_na16_classes => k_is)
    (case zq_na16_dead => k_is)
    (case zq_ha11 => k_is)
    (case zq_ob11 => k_is)
    (case zq_ha12 => k_is)
    (case zq_ob12 => k_is)
    (case zq_ha13 => k_is)
    (case zq_ob13 => k_is)
    (case zq_ha14 => k_is)
    (case zq_ob14 => k_is)
    (case zq_ko11_11 => kit_is)
    (case zq_ko12_11 => kit_is)
    (case zq_ko13_11 => kit_is)
    (case zq_ko14_11 => kit_is)
    (case zq_ko11_12 => kit_is)
    (case zq_ko12_12 => kit_is)
    (case zq_ko13_12 => kit_is)
    (case zq_ko14_12 => kit_is)
    (case zq_ko11_13 => kit_is)
    (case zq_ko12_13 => kit_is)
    (case zq_ko13_13 => kit_is)
    (case zq_ko14_13 => kit_is)
    (case zq_hgn => k_is)
    (case zq_tk => k_is)
    (case zq_lx2 => k_is)
    (case zq_sx2 => k_is)
    (case zq_kx2 => k_is)
    (case zq_bx2 => k_is)
    (case zq_tx2 => k_is)
    (case zq_gx2 => k_is)
    (case zq_hg2 => k_is)
    (case zq_hx2 => k_is)
    (case zq_na2_person => k_is)
    (case zq_in2 => k_is)
    (case zq_xm2_2 => kts_exm)
    (case zq_xm2_5 => kts_exm)
    (case zq_b_abs => k_is)
    (case zq_b_isinstance => k_is)
    (case zq_b_len => k_is)
    (case zq_b_list => k_is)
    (case zq_b_max => k_is)
    (case zq_b_min => k_is)
    (case zq_b_range => k_is)
    (case zq_b_set => k_is)
    (case zq_b_sorted => k_is)
    (case zq_b_tuple => k_is)
    (case zq_fm12_facts => k_is)
    (case zq_fm12_persons => k_is)
    (case zq_fm11_facts => k_is)
    (case zq_fm11_persons => k_is)
    (case zq_fm20_add => k_is)
    (case zq_fm20_head => k_is)
    (case zq_fm20_link => k_is)
    (case zq_fm14_facts => k_is)
    (case zq_fm14_persons => k_is)
    (case zq_fm13_facts => k_is)
    (case zq_fm13_persons => k_is)
    (case zq_in20 => k_is)
    (case zq_in11 => k_is)
    (case zq_in12 => k_is)
    (case zq_in13 => k_is)
    (case zq_in14 => k_is)
    (case zq_in15 => k_is)
    (case zq_in16 => k_is)
    (case zq_m_l_cell => k_is)
    (case zq_m_l_rng => k_is)
    (case zq_m_l_draw => k_is)
    (case zq_m_l_pick => k_is)
    (case zq_m_l_random_commands => k_is)
    (case zq_m_l_numbered => k_is)
    (case zq_m_l_after => k_is)
    (case zq_m_l_all_rooms => k_is)
    (case zq_m_check_person => k_is)
    (case zq_m_do_command => k_is)
    (case zq_m_sorted_groups => k_is)
    (case zq_m_picture_of => k_is)
    (case zq_m_picture => k_is)
    (case zq_m_class_of => k_is)
    (case zq_m_meeting => k_is)
    (case zq_m_l_word => k_is)
    (case zq_m_l_all_hold => k_is)
    (case zq_m_check_people => k_is)
    (case zq_m_l_row => k_is)
    (case zq_m_l_outcome => k_is)
    (case zq_m_law => k_is)
    (case zq_c_MOST_COMMANDS => k_is)
    (case zq_c_MOST_PEOPLE => k_is)
    (case zq_l_NoPerson_init => k_is)
    (case zq_c_NoPerson_init => k_is)
    (case zq_k_NoPerson_init => k_is)
    (case zq_tf2 => k_is)
    (case zq_rv2 => rfl)
    (case zq_l_l_cell => k_is)
    (case zq_c_l_cell => k_is)
    (case zq_k_l_cell => k_is)
    (case zq_l_l_rng => k_is)
    (case zq_c_l_rng => k_is)
    (case zq_k_l_rng => k_is)
    (case zq_l_l_draw => k_is)
    (case zq_c_l_draw => k_is)
    (case zq_k_l_draw => k_is)
    (case zq_l_l_pick => k_is)
    (case zq_c_l_pick => k_is)
    (case zq_k_l_pick => k_is)
    (case zq_l_l_random_commands => k_is)
    (case zq_c_l_random_commands => k_is)
    (case zq_k_l_random_commands => k_is)
    (case zq_l_l_numbered => k_is)
    (case zq_c_l_numbered => k_is)
    (case zq_k_l_numbered => k_is)
    (case zq_l_l_after => k_is)
    (case zq_c_l_after => k_is)
    (case zq_k_l_after => k_is)
    (case zq_l_l_all_rooms => k_is)
    (case zq_c_l_all_rooms => k_is)
    (case zq_k_l_all_rooms => k_is)
    (case zq_l_check_person => k_is)
    (case zq_c_check_person => k_is)
    (case zq_k_check_person => k_is)
    (case zq_l_Links_init => k_is)
    (case zq_c_Links_init => k_is)
    (case zq_k_Links_init => k_is)
    (case zq_i_Links_init => k_is)
    (case zq_l_Links_head => k_is)
    (case zq_c_Links_head => k_is)
    (case zq_k_Links_head => k_is)
    (case zq_i_Links_head => k_is)
    (case zq_l_Links_link => k_is)
    (case zq_c_Links_link => k_is)
    (case zq_k_Links_link => k_is)
    (case zq_i_Links_link => k_is)
    (case zq_l_Links_add => k_is)
    (case zq_c_Links_add => k_is)
    (case zq_k_Links_add => k_is)
    (case zq_i_Links_add => k_is)
    (case zq_l_do_command => k_is)
    (case zq_c_do_command => k_is)
    (case zq_k_do_command => k_is)
    (case zq_l_sorted_groups => k_is)
    (case zq_c_sorted_groups => k_is)
    (case zq_k_sorted_groups => k_is)
    (case zq_l_Picture_init => k_is)
    (case zq_c_Picture_init => k_is)
    (case zq_k_Picture_init => k_is)
    (case zq_i_Picture_init => k_is)
    (case zq_l_picture_of => k_is)
    (case zq_c_picture_of => k_is)
    (case zq_k_picture_of => k_is)
    (case zq_l_picture => k_is)
    (case zq_c_picture => k_is)
    (case zq_k_picture => k_is)
    (case zq_l_class_of => k_is)
    (case zq_c_class_of => k_is)
    (case zq_k_class_of => k_is)
    (case zq_l_meeting => k_is)
    (case zq_c_meeting => k_is)
    (case zq_k_meeting => k_is)
    (case zq_l_l_word => k_is)
    (case zq_c_l_word => k_is)
    (case zq_k_l_word => k_is)
    (case zq_l_l_all_hold => k_is)
    (case zq_c_l_all_hold => k_is)
    (case zq_k_l_all_hold => k_is)
    (case zq_l_Free_init => k_is)
    (case zq_c_Free_init => k_is)
    (case zq_k_Free_init => k_is)
    (case zq_i_Free_init => k_is)
    (case zq_l_Join_init => k_is)
    (case zq_c_Join_init => k_is)
    (case zq_k_Join_init => k_is)
    (case zq_i_Join_init => k_is)
    (case zq_l_Swap_init => k_is)
    (case zq_c_Swap_init => k_is)
    (case zq_k_Swap_init => k_is)
    (case zq_i_Swap_init => k_is)
    (case zq_l_Move_init => k_is)
    (case zq_c_Move_init => k_is)
    (case zq_k_Move_init => k_is)
    (case zq_i_Move_init => k_is)
    (case zq_l_check_people => k_is)
    (case zq_c_check_people => k_is)
    (case zq_k_check_people => k_is)
    (case zq_l_Join_facts => k_is)
    (case zq_c_Join_facts => k_is)
    (case zq_k_Join_facts => k_is)
    (case zq_i_Join_facts => k_is)
    (case zq_l_Free_facts => k_is)
    (case zq_c_Free_facts => k_is)
    (case zq_k_Free_facts => k_is)
    (case zq_i_Free_facts => k_is)
    (case zq_l_Swap_facts => k_is)
    (case zq_c_Swap_facts => k_is)
    (case zq_k_Swap_facts => k_is)
    (case zq_i_Swap_facts => k_is)
    (case zq_l_Move_facts => k_is)
    (case zq_c_Move_facts => k_is)
    (case zq_k_Move_facts => k_is)
    (case zq_i_Move_facts => k_is)
    (case zq_l_Command_persons => k_is)
    (case zq_c_Command_persons => k_is)
    (case zq_k_Command_persons => k_is)
    (case zq_i_Command_persons => k_is)
    (case zq_l_Row_init => k_is)
    (case zq_c_Row_init => k_is)
    (case zq_k_Row_init => k_is)
    (case zq_i_Row_init => k_is)
    (case zq_l_l_row => k_is)
    (case zq_c_l_row => k_is)
    (case zq_k_l_row => k_is)
    (case zq_l_l_outcome => k_is)
    (case zq_c_l_outcome => k_is)
    (case zq_k_l_outcome => k_is)
    (case zq_l_law => k_is)
    (case zq_c_law => k_is)
    (case zq_k_law => k_is)
