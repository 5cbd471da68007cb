import PyProof.Rows.All
import Wide.All
import OpenK.AllK
import Wide.FinOn
import HandS.ForMost
import HandS.TupAny
import HandS.TupMul
import HandS.SortInts
import HandS.IsInst
import HandS.Flow
import HandS.Conv
import HandS.Gcd
import HandS.Zip
import HandS.Sort
import HandS.SortOrd
import HandS.SortRule
import HandS.SetFor
import HandS.Strs
import KE.KTupSum
import HandS.Style
import PySem.Challenge.RW_gaphouse_k49_whole_chains_of_fractions
set_option Elab.async false
set_option linter.all false
set_option maxRecDepth 100000
/-! Dk1: a layer of plain data over the hand layer: data D, what represents it in a frozen part of the heap, expressions read as partial functions of data. -/
namespace Dk
open PySem PySem.Spec PyProof.Rows L2

inductive D where
  | non
  | bl (b : Bool)
  | int (i : Int)
  | str (x : Str)
  | lst (xs : List D)
  | tup (xs : List D)
  | dic (ks : List Key) (xs : List D)
  | dit (ks : List (List Key)) (xs : List D)
  | tok (a : Addr)

/-- what stands at the places that the draws change (or read) -/
abbrev Dr := List (Addr × HO)

mutual
def Rep (G : Hp) : V → D → Prop
  | v, .non => v = .non
  | v, .bl b => v = .bl b
  | v, .int i => v = .int i
  | v, .str x => v = .str x
  | v, .lst ds => ∃ a vs, v = .ref a ∧ G a = some (.lst vs) ∧ RepL G vs ds
  | v, .tup ds => ∃ a vs, v = .ref a ∧ G a = some (.tup vs) ∧ RepL G vs ds
  | v, .dic ks ds => ∃ a vs, v = .ref a ∧ G a = some (.dK (ks.zip vs)) ∧ ks.length = vs.length ∧ RepL G vs ds
  | v, .dit ks ds => ∃ a vs, v = .ref a ∧ G a = some (.dT (ks.zip vs)) ∧ ks.length = vs.length ∧ RepL G vs ds
  | v, .tok a => v = .ref a
def RepL (G : Hp) : List V → List D → Prop
  | [], [] => True
  | v :: vs, d :: ds => Rep G v d ∧ RepL G vs ds
  | _, _ => False
end

theorem RepL.nil {G : Hp} : RepL G [] [] := by simp [RepL]
theorem RepL.cons {G : Hp} {v : V} {d : D} {vs : List V} {ds : List D} (h : Rep G v d) (t : RepL G vs ds) : RepL G (v :: vs) (d :: ds) := by
  simp only [RepL]; exact ⟨h, t⟩
theorem RepL.inv {G : Hp} {vs : List V} {d : D} {ds : List D} (h : RepL G vs (d :: ds)) : ∃ v r, vs = v :: r ∧ Rep G v d ∧ RepL G r ds := by
  cases vs with
  | nil => simp [RepL] at h
  | cons v r => simp only [RepL] at h; exact ⟨v, r, rfl, h⟩
theorem RepL.inv0 {G : Hp} {vs : List V} (h : RepL G vs []) : vs = [] := by
  cases vs with
  | nil => rfl
  | cons v r => simp [RepL] at h

mutual
theorem Rep.mono {G G' : Hp} (g : ∀ a o, G a = some o → G' a = some o) : ∀ {v : V} (d : D), Rep G v d → Rep G' v d
  | v, .non, h => by simp only [Rep] at h ⊢; exact h
  | v, .bl b, h => by simp only [Rep] at h ⊢; exact h
  | v, .int i, h => by simp only [Rep] at h ⊢; exact h
  | v, .str x, h => by simp only [Rep] at h ⊢; exact h
  | v, .tok a, h => by simp only [Rep] at h ⊢; exact h
  | v, .lst ds, h => by
    simp only [Rep] at h ⊢
    obtain ⟨a, vs, e, q, r⟩ := h
    exact ⟨a, vs, e, g _ _ q, RepL.mono g ds r⟩
  | v, .tup ds, h => by
    simp only [Rep] at h ⊢
    obtain ⟨a, vs, e, q, r⟩ := h
    exact ⟨a, vs, e, g _ _ q, RepL.mono g ds r⟩
  | v, .dic ks ds, h => by
    simp only [Rep] at h ⊢
    obtain ⟨a, vs, e, q, l, r⟩ := h
    exact ⟨a, vs, e, g _ _ q, l, RepL.mono g ds r⟩
  | v, .dit ks ds, h => by
    simp only [Rep] at h ⊢
    obtain ⟨a, vs, e, q, l, r⟩ := h
    exact ⟨a, vs, e, g _ _ q, l, RepL.mono g ds r⟩
theorem RepL.mono {G G' : Hp} (g : ∀ a o, G a = some o → G' a = some o) : ∀ {vs : List V} (ds : List D), RepL G vs ds → RepL G' vs ds
  | vs, [], h => by rw [h.inv0]; exact .nil
  | vs, d :: ds, h => by
    obtain ⟨v, r, rfl, h1, h2⟩ := h.inv
    exact .cons (Rep.mono g d h1) (RepL.mono g ds h2)
end

section lists
variable {G : Hp}
theorem RepL.length : ∀ {vs : List V} {ds : List D}, RepL G vs ds → vs.length = ds.length
  | vs, [], h => by rw [h.inv0]; rfl
  | vs, d :: ds, h => by
    obtain ⟨v, r, rfl, _, h2⟩ := h.inv
    simp [RepL.length h2]
theorem RepL.append : ∀ {vs ws : List V} {ds es : List D}, RepL G vs ds → RepL G ws es → RepL G (vs ++ ws) (ds ++ es)
  | vs, ws, [], es, h, h' => by rw [h.inv0]; exact h'
  | vs, ws, d :: ds, es, h, h' => by
    obtain ⟨v, r, rfl, h1, h2⟩ := h.inv
    exact .cons h1 (RepL.append h2 h')
theorem RepL.get : ∀ {vs : List V} {ds : List D} {i : Nat} {d : D}, RepL G vs ds → ds[i]? = some d → ∃ v, vs[i]? = some v ∧ Rep G v d
  | vs, [], i, d, h, e => by simp at e
  | vs, d :: ds, 0, d', h, e => by
    obtain ⟨v, r, rfl, h1, h2⟩ := h.inv
    simp at e; subst e; exact ⟨v, rfl, h1⟩
  | vs, d :: ds, i + 1, d', h, e => by
    obtain ⟨v, r, rfl, h1, h2⟩ := h.inv
    simp at e
    obtain ⟨u, e1, e2⟩ := RepL.get h2 e
    exact ⟨u, by simpa using e1, e2⟩
theorem RepL.getV {vs : List V} {ds : List D} {i : Nat} {v : V} (h : RepL G vs ds) (e : vs[i]? = some v) : ∃ d, ds[i]? = some d ∧ Rep G v d := by
  have hl : i < ds.length := by rw [← h.length]; exact (List.getElem?_eq_some_iff.mp e).1
  obtain ⟨u, e1, r⟩ := h.get (List.getElem?_eq_getElem hl)
  rw [e] at e1; cases e1
  exact ⟨_, List.getElem?_eq_getElem hl, r⟩
theorem RepL.set : ∀ {vs : List V} {ds : List D} (i : Nat) {v : V} {d : D}, RepL G vs ds → Rep G v d → RepL G (vs.set i v) (ds.set i d)
  | vs, [], i, v, d, h, _ => by rw [h.inv0]; exact .nil
  | vs, d0 :: ds, 0, v, d, h, hd => by
    obtain ⟨v0, r, rfl, h1, h2⟩ := h.inv
    exact .cons hd h2
  | vs, d0 :: ds, i + 1, v, d, h, hd => by
    obtain ⟨v0, r, rfl, h1, h2⟩ := h.inv
    exact .cons h1 (RepL.set i h2 hd)
theorem RepL.take : ∀ {vs : List V} {ds : List D} (i : Nat), RepL G vs ds → RepL G (vs.take i) (ds.take i)
  | vs, ds, 0, h => by simp [RepL]
  | vs, [], i + 1, h => by rw [h.inv0]; simp [RepL]
  | vs, d :: ds, i + 1, h => by
    obtain ⟨v, r, rfl, h1, h2⟩ := h.inv
    exact .cons h1 (RepL.take i h2)
theorem RepL.drop : ∀ {vs : List V} {ds : List D} (i : Nat), RepL G vs ds → RepL G (vs.drop i) (ds.drop i)
  | vs, ds, 0, h => h
  | vs, [], i + 1, h => by rw [h.inv0]; simp [RepL]
  | vs, d :: ds, i + 1, h => by
    obtain ⟨v, r, rfl, h1, h2⟩ := h.inv
    exact RepL.drop i h2
theorem RepL.rep {vs : List V} {ds : List D} (h : RepL G vs ds) : ∀ k : Nat, RepL G (List.replicate k vs).flatten (List.replicate k ds).flatten
  | 0 => by simp [RepL]
  | k + 1 => by
    simp only [List.replicate_succ, List.flatten_cons]
    exact h.append (RepL.rep h k)
theorem RepL.reverse : ∀ {vs : List V} {ds : List D}, RepL G vs ds → RepL G vs.reverse ds.reverse
  | vs, [], h => by rw [h.inv0]; exact .nil
  | vs, d :: ds, h => by
    obtain ⟨v, r, rfl, h1, h2⟩ := h.inv
    simp only [List.reverse_cons]
    exact (RepL.reverse h2).append (.cons h1 .nil)
theorem RepL.ints : ∀ (ns : List Int), RepL G (ns.map V.int) (ns.map D.int)
  | [] => .nil
  | n :: ns => .cons (by simp [Rep]) (RepL.ints ns)
theorem RepL.ints_inv : ∀ {vs : List V} {ns : List Int}, RepL G vs (ns.map D.int) → vs = ns.map V.int
  | vs, [], h => h.inv0
  | vs, n :: ns, h => by
    obtain ⟨v, r, rfl, h1, h2⟩ := h.inv
    simp only [Rep] at h1
    rw [h1, RepL.ints_inv h2]; rfl
theorem RepL.bls : ∀ (ns : List Bool), RepL G (ns.map V.bl) (ns.map D.bl)
  | [] => .nil
  | n :: ns => .cons (by simp [Rep]) (RepL.bls ns)
theorem RepL.bls_inv : ∀ {vs : List V} {ns : List Bool}, RepL G vs (ns.map D.bl) → vs = ns.map V.bl
  | vs, [], h => h.inv0
  | vs, n :: ns, h => by
    obtain ⟨v, r, rfl, h1, h2⟩ := h.inv
    simp only [Rep] at h1
    rw [h1, RepL.bls_inv h2]; rfl
end lists

/-- reading a list of data as ints, as bools -/
def intsD : List D → Option (List Int)
  | [] => some []
  | .int i :: r => (intsD r).map (i :: ·)
  | _ :: _ => none
theorem intsD_some : ∀ {ds : List D} {ns : List Int}, intsD ds = some ns → ds = ns.map D.int
  | [], ns, h => by simp [intsD] at h; subst h; rfl
  | .int i :: r, ns, h => by
    simp only [intsD, Option.map_eq_some_iff] at h
    obtain ⟨m, e, rfl⟩ := h
    rw [intsD_some e]; rfl
  | .non :: _, ns, h => by simp [intsD] at h
  | .bl _ :: _, ns, h => by simp [intsD] at h
  | .str _ :: _, ns, h => by simp [intsD] at h
  | .lst _ :: _, ns, h => by simp [intsD] at h
  | .tup _ :: _, ns, h => by simp [intsD] at h
  | .dic _ _ :: _, ns, h => by simp [intsD] at h
  | .dit _ _ :: _, ns, h => by simp [intsD] at h
  | .tok _ :: _, ns, h => by simp [intsD] at h
@[simp] theorem intsD_map : ∀ (ns : List Int), intsD (ns.map D.int) = some ns
  | [] => rfl
  | n :: ns => by simp [intsD, intsD_map ns]
def blsD : List D → Option (List Bool)
  | [] => some []
  | .bl i :: r => (blsD r).map (i :: ·)
  | _ :: _ => none
theorem blsD_some : ∀ {ds : List D} {ns : List Bool}, blsD ds = some ns → ds = ns.map D.bl
  | [], ns, h => by simp [blsD] at h; subst h; rfl
  | .bl i :: r, ns, h => by
    simp only [blsD, Option.map_eq_some_iff] at h
    obtain ⟨m, e, rfl⟩ := h
    rw [blsD_some e]; rfl
  | .non :: _, ns, h => by simp [blsD] at h
  | .int _ :: _, ns, h => by simp [blsD] at h
  | .str _ :: _, ns, h => by simp [blsD] at h
  | .lst _ :: _, ns, h => by simp [blsD] at h
  | .tup _ :: _, ns, h => by simp [blsD] at h
  | .dic _ _ :: _, ns, h => by simp [blsD] at h
  | .dit _ _ :: _, ns, h => by simp [blsD] at h
  | .tok _ :: _, ns, h => by simp [blsD] at h
@[simp] theorem blsD_map : ∀ (ns : List Bool), blsD (ns.map D.bl) = some ns
  | [] => rfl
  | n :: ns => by simp [blsD, blsD_map ns]

/-! ### views -/
def MInv : List Addr → Dr → Hp → Prop
  | [], [], _ => True
  | a :: ms, v :: dr, H => a = v.1 ∧ H a = some v.2 ∧ MInv ms dr H
  | _, _, _ => False
theorem MInv.there : ∀ {ms : List Addr} {dr : Dr} {H : Hp} {a : Addr}, MInv ms dr H → a ∈ ms → H a ≠ none
  | [], _, _, _, _, h => nomatch h
  | m :: ms, [], H, a, i, h => by simp [MInv] at i
  | m :: ms, v :: dr, H, a, i, h => by
    simp only [MInv] at i
    rcases List.mem_cons.mp h with rfl | h
    · rw [i.2.1]; simp
    · exact MInv.there i.2.2 h
theorem MInv.same : ∀ {ms : List Addr} {dr : Dr} {H H' : Hp}, MInv ms dr H → (∀ a, a ∈ ms → H' a = H a) → MInv ms dr H'
  | [], [], _, _, _, _ => by simp [MInv]
  | [], _ :: _, _, _, i, _ => by simp [MInv] at i
  | m :: ms, [], H, _, i, h => by simp [MInv] at i
  | m :: ms, v :: dr, H, H', i, h => by
    simp only [MInv] at i ⊢
    exact ⟨i.1, (h m (by simp)).trans i.2.1, MInv.same i.2.2 fun a ha => h a (List.mem_cons_of_mem _ ha)⟩
structure Vw (ms : List Addr) (dr : Dr) (G H : Hp) : Prop where
  sub : ∀ a o, G a = some o → H a = some o
  off : ∀ a, a ∈ ms → G a = none
  mem : MInv ms dr H
structure Aft (ms : List Addr) (G H G' H' : Hp) : Prop where
  gr : ∀ a o, G a = some o → G' a = some o
  nw : ∀ a, H a ≠ none → G a = none → G' a = none
  kp : ∀ a o, a ∉ ms → H a = some o → H' a = some o
  ks : ∀ a, H a ≠ none → H' a ≠ none
theorem Aft.refl {ms : List Addr} {G H : Hp} : Aft ms G H G H := ⟨fun _ _ h => h, fun _ _ h => h, fun _ _ _ h => h, fun _ h => h⟩
theorem Aft.trans {ms : List Addr} {G H G1 H1 G2 H2 : Hp} (a : Aft ms G H G1 H1) (b : Aft ms G1 H1 G2 H2) : Aft ms G H G2 H2 :=
  ⟨fun x o h => b.gr x o (a.gr x o h), fun x h g => b.nw x (a.ks x h) (a.nw x h g), fun x o m h => b.kp x o m (a.kp x o m h), fun x h => b.ks x (a.ks x h)⟩
theorem Vw.ne {ms : List Addr} {dr : Dr} {G H : Hp} (w : Vw ms dr G H) {p : Addr} (h : H p = none) : p ∉ ms := fun m => w.mem.there m h
theorem Vw.freeG {ms : List Addr} {dr : Dr} {G H : Hp} (w : Vw ms dr G H) {p : Addr} (h : H p = none) : G p = none := by
  cases e : G p with
  | none => rfl
  | some o => rw [w.sub p o e] at h; cases h
theorem Aft.alloc {ms : List Addr} {dr : Dr} {G H : Hp} (w : Vw ms dr G H) {p : Addr} (h : H p = none) (o : HO) : Aft ms G H (upd G p o) (upd H p o) := by
  refine ⟨fun a u e => ?_, fun a q e => ?_, fun a u _ e => ?_, fun a q => ?_⟩
  · rw [upd_ne (ne_of_none (w.sub a u e) h)]; exact e
  · rw [upd_ne (fun z => q (by rw [z]; exact h))]; exact e
  · rw [upd_ne (ne_of_none e h)]; exact e
  · rw [upd_ne (fun z => q (by rw [z]; exact h))]; exact q
theorem Vw.alloc {ms : List Addr} {dr : Dr} {G H : Hp} (w : Vw ms dr G H) {p : Addr} (h : H p = none) (o : HO) : Vw ms dr (upd G p o) (upd H p o) := by
  refine ⟨fun a u e => ?_, fun a m => ?_, w.mem.same fun a m => upd_ne fun z => w.mem.there m (by rw [z]; exact h)⟩
  · by_cases z : a = p
    · subst z; rw [upd_same] at e ⊢; exact e
    · rw [upd_ne z] at e ⊢; exact w.sub a u e
  · rw [upd_ne fun z => w.mem.there m (by rw [z]; exact h)]; exact w.off a m
/-- the same, the view not grown -/
theorem Aft.allocH {ms : List Addr} {G H : Hp} {p : Addr} (h : H p = none) (o : HO) : Aft ms G H G (upd H p o) := by
  refine ⟨fun a u e => e, fun a q e => e, fun a u _ e => ?_, fun a q => ?_⟩
  · rw [upd_ne (ne_of_none e h)]; exact e
  · rw [upd_ne (fun z => q (by rw [z]; exact h))]; exact q
theorem Vw.allocH {ms : List Addr} {dr : Dr} {G H : Hp} (w : Vw ms dr G H) {p : Addr} (h : H p = none) (o : HO) : Vw ms dr G (upd H p o) := by
  refine ⟨fun a u e => ?_, w.off, w.mem.same fun a m => upd_ne fun z => w.mem.there m (by rw [z]; exact h)⟩
  rw [upd_ne (ne_of_none (w.sub a u e) h)]; exact w.sub a u e

/-! ### expressions -/
abbrev ED := List (Option D) → Dr → Option (D × Dr)
abbrev TDn := List (Option D) → Dr → Option (Bool × Dr)
abbrev AD := List (Option D) → Dr → Option (List D × Dr)
def RepE (G : Hp) (ρ : List (Option D)) (σ : L2.St) : Prop := ρ.length = σ.length ∧ ∀ (i : Nat) (d : D), ρ[i]? = some (some d) → ∃ v, σ[i]? = some (some v) ∧ Rep G v d
theorem RepE.mono {G G' : Hp} {ρ : List (Option D)} {σ : L2.St} (r : RepE G ρ σ) (g : ∀ a o, G a = some o → G' a = some o) : RepE G' ρ σ := ⟨r.1, fun i d h =>
  let ⟨v, e, q⟩ := r.2 i d h
  ⟨v, e, Rep.mono g d q⟩⟩
def tD (ms : List Addr) (f : ED) : TE := fun σ H Q => ∃ G ρ dr d dr', Vw ms dr G H ∧ RepE G ρ σ ∧ f ρ dr = some (d, dr') ∧
  ∀ v G' H', Rep G' v d → Aft ms G H G' H' → Vw ms dr' G' H' → Q v H'
def tDT (ms : List Addr) (f : TDn) : TT := fun σ H Q => ∃ G ρ dr d dr', Vw ms dr G H ∧ RepE G ρ σ ∧ f ρ dr = some (d, dr') ∧
  ∀ G' H', Aft ms G H G' H' → Vw ms dr' G' H' → Q d H'
def tDA (ms : List Addr) (f : AD) : TA := fun σ H Q => ∃ G ρ dr d dr', Vw ms dr G H ∧ RepE G ρ σ ∧ f ρ dr = some (d, dr') ∧
  ∀ vs G' H', RepL G' vs d → Aft ms G H G' H' → Vw ms dr' G' H' → Q vs H'
def PEd (X : Cx) (ms : List Addr) (e : Expr) (f : ED) : Prop := PE X e (tD ms f)
def PTd (X : Cx) (ms : List Addr) (e : Expr) (f : TDn) : Prop := PT X e (tDT ms f)
def PWd (X : Cx) (ms : List Addr) (e : Expr) (f : TDn) : Prop := PW X e (tDT ms f)
def PAd (X : Cx) (ms : List Addr) (es : List Expr) (f : AD) : Prop := PA X es (tDA ms f)
theorem pe_imp {X : Cx} {e : Expr} {t t' : TE} (h : PE X e t) (i : ∀ σ H Q, t' σ H Q → t σ H Q) : PE X e t' := ⟨fun pins s σ H Q I hw => h.run pins s σ H Q I (i σ H Q hw)⟩
theorem pt_imp {X : Cx} {e : Expr} {t t' : TT} (h : PT X e t) (i : ∀ σ H Q, t' σ H Q → t σ H Q) : PT X e t' := ⟨fun pins s σ H Q I hw => h.run pins s σ H Q I (i σ H Q hw)⟩
theorem pw_imp {X : Cx} {e : Expr} {t t' : TT} (h : PW X e t) (i : ∀ σ H Q, t' σ H Q → t σ H Q) : PW X e t' := ⟨fun wh pins s σ H Q I hw => h.run wh pins s σ H Q I (i σ H Q hw)⟩
theorem pa_imp {X : Cx} {es : List Expr} {t t' : TA} (h : PA X es t) (i : ∀ σ H Q, t' σ H Q → t σ H Q) : PA X es t' := ⟨fun pos pins s σ H Q I hw => h.run pos pins s σ H Q I (i σ H Q hw)⟩
theorem op_imp {X : Cx} {f : Value → Value → Sem Value} {r r' : R2} (h : OpR X f r) (i : ∀ x y H Q, r' x y H Q → r x y H Q) : OpR X f r' := fun pins s σ H x y v u Q I rx ry q => h pins s σ H x y v u Q I rx ry (i x y H Q q)

def eV (i : Nat) : ED := fun ρ dr => match ρ[i]? with
  | some (some d) => some (d, dr)
  | _ => none
def eC (d : D) : ED := fun _ dr => some (d, dr)
def e1 (φ : D → Option D) (f : ED) : ED := fun ρ dr => (f ρ dr).bind fun p => (φ p.1).bind fun d => some (d, p.2)
def e2 (φ : D → D → Option D) (f g : ED) : ED := fun ρ dr => (f ρ dr).bind fun p => (g ρ p.2).bind fun q => (φ p.1 q.1).bind fun d => some (d, q.2)
def eN (φ : List D → Option D) (f : AD) : ED := fun ρ dr => (f ρ dr).bind fun p => (φ p.1).bind fun d => some (d, p.2)
def aN : AD := fun _ dr => some ([], dr)
def aC (f : ED) (g : AD) : AD := fun ρ dr => (f ρ dr).bind fun p => (g ρ p.2).bind fun q => some (p.1 :: q.1, q.2)
theorem e1_inv {φ : D → Option D} {f : ED} {ρ : List (Option D)} {dr dr' : Dr} {d : D} (h : e1 φ f ρ dr = some (d, dr')) : ∃ x, f ρ dr = some (x, dr') ∧ φ x = some d := by
  simp only [e1, Option.bind_eq_some_iff] at h
  obtain ⟨⟨x, dr1⟩, h1, d', h2, h3⟩ := h
  cases h3
  exact ⟨x, h1, h2⟩
theorem e2_inv {φ : D → D → Option D} {f g : ED} {ρ : List (Option D)} {dr dr' : Dr} {d : D} (h : e2 φ f g ρ dr = some (d, dr')) : ∃ x dr1 y, f ρ dr = some (x, dr1) ∧ g ρ dr1 = some (y, dr') ∧ φ x y = some d := by
  simp only [e2, Option.bind_eq_some_iff] at h
  obtain ⟨⟨x, dr1⟩, h1, ⟨y, dr2⟩, h2, d', h3, h4⟩ := h
  cases h4
  exact ⟨x, dr1, y, h1, h2, h3⟩
theorem eN_inv {φ : List D → Option D} {f : AD} {ρ : List (Option D)} {dr dr' : Dr} {d : D} (h : eN φ f ρ dr = some (d, dr')) : ∃ x, f ρ dr = some (x, dr') ∧ φ x = some d := by
  simp only [eN, Option.bind_eq_some_iff] at h
  obtain ⟨⟨x, dr1⟩, h1, d', h2, h3⟩ := h
  cases h3
  exact ⟨x, h1, h2⟩
theorem aC_inv {f : ED} {g : AD} {ρ : List (Option D)} {dr dr' : Dr} {ds : List D} (h : aC f g ρ dr = some (ds, dr')) : ∃ x dr1 r, f ρ dr = some (x, dr1) ∧ g ρ dr1 = some (r, dr') ∧ ds = x :: r := by
  simp only [aC, Option.bind_eq_some_iff] at h
  obtain ⟨⟨x, dr1⟩, h1, ⟨y, dr2⟩, h2, h4⟩ := h
  cases h4
  exact ⟨x, dr1, y, h1, h2, rfl⟩
section exprs
variable {X : Cx} {ms : List Addr} {a b e : Expr} {es : List Expr} {f g : ED} {fs : AD} {pos : Pos}
theorem ped_v (i : Nat) {x : Str} {pos : Pos} (hN : X.N[i]? = some x := by rfl) (hv : Vis X.env.scope x := by first | exact Or.inl rfl | exact Or.inr (Or.inl rfl) | exact Or.inr (Or.inr rfl)) (hd : (x == ("__debug__" : Str)) = false := by decide)
    (hcd : (x == ("__classdict__" : Str)) = false := by decide) : PEd X ms (.Name x pos) (eV i) := by
  refine pe_imp (pe_var hN hv hd hcd) fun σ H Q ⟨G, ρ, dr, d, dr', w, r, h, k⟩ => ?_
  unfold eV at h
  split at h
  · rename_i d' hd'
    cases h
    obtain ⟨v, e, q⟩ := r.2 i _ hd'
    exact ⟨v, e, k v G H q .refl w⟩
  · cases h
theorem ped_c {v : V} {d : D} (h : PE X e (tC v)) (r : ∀ G, Rep G v d) : PEd X ms e (eC d) := by
  refine pe_imp h fun σ H Q ⟨G, ρ, dr, d', dr', w, _, h, k⟩ => ?_
  cases h
  exact k v G H (r G) .refl w
theorem ped_int {i : Int} {j : Nat} : PEd X ms (.Constant (.int i) j pos) (eC (.int i)) := ped_c pe_int fun _ => by simp [Rep]
theorem ped_bl {i : Bool} {j : Nat} : PEd X ms (.Constant (.bool i) j pos) (eC (.bl i)) := ped_c pe_bl fun _ => by simp [Rep]
theorem ped_non {j : Nat} : PEd X ms (.Constant .none j pos) (eC .non) := ped_c pe_non fun _ => by simp [Rep]
theorem ped_str {x : Str} {j : Nat} : PEd X ms (.Constant (.str x) j pos) (eC (.str x)) := ped_c pe_str fun _ => by simp [Rep]
theorem pad_nil : PAd X ms [] aN := by
  refine pa_imp pa_nil fun σ H Q ⟨G, ρ, dr, d', dr', w, _, h, k⟩ => ?_
  cases h
  exact k [] G H .nil .refl w
theorem pad_cons (ha : PEd X ms e f) (hr : PAd X ms es fs) (hs : starEach (e :: es) X.env = (false, eval e X.env) :: starEach es X.env := by rfl) : PAd X ms (e :: es) (aC f fs) := by
  refine pa_imp (pa_cons ha hr hs) fun σ H Q ⟨G, ρ, dr, ds, dr', w, r, h, k⟩ => ?_
  obtain ⟨x, dr1, rs, h1, h2, rfl⟩ := aC_inv h
  refine ⟨G, ρ, dr, x, dr1, w, r, h1, fun v G1 H1 q1 a1 w1 => ?_⟩
  refine ⟨G1, ρ, dr1, rs, dr', w1, r.mono a1.gr, h2, fun vs G2 H2 q2 a2 w2 => ?_⟩
  exact k _ G2 H2 (.cons (Rep.mono a2.gr _ q1) q2) (a1.trans a2) w2
/-- a rule by values, as a function of data -/
def rD2 (ms : List Addr) (φ : D → D → Option D) : R2 := fun x y H Q => ∃ G dr dx dy d, Vw ms dr G H ∧ Rep G x dx ∧ Rep G y dy ∧ φ dx dy = some d ∧ ∀ v G' H', Rep G' v d → Aft ms G H G' H' → Vw ms dr G' H' → Q v H'
def rD1 (ms : List Addr) (φ : D → Option D) : V → Hp → VK → Prop := fun x H Q => ∃ G dr dx d, Vw ms dr G H ∧ Rep G x dx ∧ φ dx = some d ∧ ∀ v G' H', Rep G' v d → Aft ms G H G' H' → Vw ms dr G' H' → Q v H'
def rDN (ms : List Addr) (φ : List D → Option D) : List V → Hp → VK → Prop := fun xs H Q => ∃ G dr ds d, Vw ms dr G H ∧ RepL G xs ds ∧ φ ds = some d ∧ ∀ v G' H', Rep G' v d → Aft ms G H G' H' → Vw ms dr G' H' → Q v H'
theorem tOp_of {φ : D → D → Option D} : ∀ {σ : L2.St} {H : Hp} {Q : VK}, tD ms (e2 φ f g) σ H Q → tOp (rD2 ms φ) (tD ms f) (tD ms g) σ H Q := fun {σ H Q} ⟨G, ρ, dr, d, dr', w, r, h, k⟩ => by
  obtain ⟨x, dr1, y, h1, h2, h3⟩ := e2_inv h
  refine ⟨G, ρ, dr, x, dr1, w, r, h1, fun v G1 H1 q1 a1 w1 => ?_⟩
  refine ⟨G1, ρ, dr1, y, dr', w1, r.mono a1.gr, h2, fun u G2 H2 q2 a2 w2 => ?_⟩
  exact ⟨G2, dr', x, y, d, w2, Rep.mono a2.gr _ q1, q2, h3, fun z G3 H3 q3 a3 w3 => k z G3 H3 q3 (a1.trans (a2.trans a3)) w3⟩
theorem ped_op {op : Operator} {φ : D → D → Option D} (ho : OpR X (binaryOp op) (rD2 ms φ)) (ha : PEd X ms a f) (hb : PEd X ms b g) : PEd X ms (.BinOp a op b pos) (e2 φ f g) :=
  pe_imp (pe_op ho ha hb) fun _ _ _ h => tOp_of h
theorem ped_cmp {op : CmpOp} {φ : D → D → Option D} (ho : OpR X (compareOp op) (rD2 ms φ)) (ha : PEd X ms a f) (hb : PEd X ms b g) (hm : behindInMarks op b = false := by first | exact nomark _ | rfl) : PEd X ms (.Compare a [op] [b] pos) (e2 φ f g) :=
  pe_imp (pe_cmpR ho ha hb hm) fun _ _ _ h => tOp_of h
theorem ped_un {op : UnaryOp} {φ : D → Option D} (ho : UnR X (unaryOp op) (rD1 ms φ)) (ha : PEd X ms a f) : PEd X ms (.UnaryOp op a pos) (e1 φ f) := by
  refine pe_imp (pe_un ho ha) fun σ H Q ⟨G, ρ, dr, d, dr', w, r, h, k⟩ => ?_
  obtain ⟨x, h1, h2⟩ := e1_inv h
  refine ⟨G, ρ, dr, x, dr', w, r, h1, fun v G1 H1 q1 a1 w1 => ?_⟩
  exact ⟨G1, dr', x, d, w1, q1, h2, fun z G3 H3 q3 a3 w3 => k z G3 H3 q3 (a1.trans a3) w3⟩
theorem ped_ix {φ : D → D → Option D} (ho : IxR X (rD2 ms φ)) (ha : PEd X ms a f) (hb : PEd X ms b g) (hs : PlainIx b := by exact fun _ _ => rfl) : PEd X ms (.Subscript a b pos) (e2 φ f g) :=
  pe_imp (pe_ix ho ha hb hs) fun _ _ _ h => tOp_of h
theorem ped_tup {x1} (h : PAd X ms es fs) : PEd X ms (.Tuple es x1 pos) (eN (fun ds => if ds.length ≤ sizeLine then some (.tup ds) else none) fs) := by
  refine pe_imp (pe_tup h) fun σ H Q ⟨G, ρ, dr, d, dr', w, r, h, k⟩ => ?_
  obtain ⟨x, h1, h2⟩ := eN_inv h
  refine ⟨G, ρ, dr, x, dr', w, r, h1, fun vs G1 H1 q1 a1 w1 => ?_⟩
  split at h2
  · rename_i hl
    cases h2
    refine ⟨by rw [q1.length]; exact hl, fun p hp => ?_⟩
    refine k _ (upd G1 p (.tup vs)) _ ?_ (a1.trans (.alloc w1 hp _)) (w1.alloc hp _)
    simp only [Rep]
    exact ⟨p, vs, rfl, upd_same, RepL.mono (Aft.alloc w1 hp _).gr _ q1⟩
  · cases h2
theorem ped_lst (h : PAd X ms es fs) : PEd X ms (.List es pos) (eN (fun ds => if ds.length ≤ sizeLine then some (.lst ds) else none) fs) := by
  refine pe_imp (pe_lst h) fun σ H Q ⟨G, ρ, dr, d, dr', w, r, h, k⟩ => ?_
  obtain ⟨x, h1, h2⟩ := eN_inv h
  refine ⟨G, ρ, dr, x, dr', w, r, h1, fun vs G1 H1 q1 a1 w1 => ?_⟩
  split at h2
  · rename_i hl
    cases h2
    refine ⟨by rw [q1.length]; exact hl, fun p hp => ?_⟩
    refine k _ (upd G1 p (.lst vs)) _ ?_ (a1.trans (.alloc w1 hp _)) (w1.alloc hp _)
    simp only [Rep]
    exact ⟨p, vs, rfl, upd_same, RepL.mono (Aft.alloc w1 hp _).gr _ q1⟩
  · cases h2
/-- a built-in's call -/
theorem ped_callB {id : String} {x : Str} {p : Pos} {φ : List D → Option D} (hc : CallR X (.builtin id) (rDN ms φ)) (hg : Gl X x) (hm : X.mg x = none) (hv : bootBuiltins x = some (.builtin id)) (ha : PAd X ms (e :: es) fs) (hn : x ≠ "__name__" := by decide) (hdb : (x == ("__debug__" : Str)) = false := by decide)
    (he : starEach (e :: es) X.env = (false, eval e X.env) :: starEach es X.env := by rfl) (hpl : (backTo pos (starEach es X.env)).any (·.1) = false := by rfl) : PEd X ms (.Call (.Name x p) (e :: es) [] pos) (eN φ fs) := by
  refine pe_imp (pe_callB hc hg hm hv ha hn hdb he hpl) fun σ H Q ⟨G, ρ, dr, d, dr', w, r, h, k⟩ => ?_
  obtain ⟨y, h1, h2⟩ := eN_inv h
  refine ⟨G, ρ, dr, y, dr', w, r, h1, fun v G1 H1 q1 a1 w1 => ?_⟩
  exact ⟨G1, dr', y, d, w1, q1, h2, fun z G3 H3 q3 a3 w3 => k z G3 H3 q3 (a1.trans a3) w3⟩
theorem ped_callTy {T : String} {x : Str} {p : Pos} {φ : List D → Option D} (hc : CallR X (.type T) (rDN ms φ)) (hg : Gl X x) (hm : X.mg x = none) (hv : bootBuiltins x = some (.type T)) (ha : PAd X ms (e :: es) fs) (hn : x ≠ "__name__" := by decide) (hdb : (x == ("__debug__" : Str)) = false := by decide)
    (he : starEach (e :: es) X.env = (false, eval e X.env) :: starEach es X.env := by rfl) (hpl : (backTo pos (starEach es X.env)).any (·.1) = false := by rfl) : PEd X ms (.Call (.Name x p) (e :: es) [] pos) (eN φ fs) := by
  refine pe_imp (pe_callTy hc hg hm hv ha hn hdb he hpl) fun σ H Q ⟨G, ρ, dr, d, dr', w, r, h, k⟩ => ?_
  obtain ⟨y, h1, h2⟩ := eN_inv h
  refine ⟨G, ρ, dr, y, dr', w, r, h1, fun v G1 H1 q1 a1 w1 => ?_⟩
  exact ⟨G1, dr', y, d, w1, q1, h2, fun z G3 H3 q3 a3 w3 => k z G3 H3 q3 (a1.trans a3) w3⟩
/-- tests -/
def tOf (f : ED) : TDn := fun ρ dr => (f ρ dr).bind fun p => match p.1 with
  | .bl b => some (b, p.2)
  | _ => none
def tNot (f : TDn) : TDn := fun ρ dr => (f ρ dr).bind fun p => some (!p.1, p.2)
def tAnd (f g : TDn) : TDn := fun ρ dr => (f ρ dr).bind fun p => if p.1 = true then g ρ p.2 else some (false, p.2)
def tOr (f g : TDn) : TDn := fun ρ dr => (f ρ dr).bind fun p => if p.1 = true then some (true, p.2) else g ρ p.2
def eIf (c : TDn) (f g : ED) : ED := fun ρ dr => (c ρ dr).bind fun p => if p.1 = true then f ρ p.2 else g ρ p.2
theorem ptd_val (h : PEd X ms e f) (he : ∀ whole, isTrue e X.env whole = (do let v ← whole; standAt e.pos; holding [v] (truthy v)) := by intro _; rfl) : PTd X ms e (tOf f) := by
  refine pt_imp (pt_val h he) fun σ H Q ⟨G, ρ, dr, d, dr', w, r, h, k⟩ => ?_
  simp only [tOf, Option.bind_eq_some_iff] at h
  obtain ⟨⟨x, dr1⟩, h1, h2⟩ := h
  refine ⟨G, ρ, dr, x, dr1, w, r, h1, fun v G1 H1 q1 a1 w1 => ?_⟩
  cases x with
  | bl b =>
    cases h2
    simp only [Rep] at q1
    exact ⟨_, q1, k G1 H1 a1 w1⟩
  | _ => cases h2
theorem ptd_cmp {op : CmpOp} {φ : D → D → Option D} (ho : OpR X (compareOp op) (rD2 ms φ)) (ha : PEd X ms a f) (hb : PEd X ms b g) (hm : behindInMarks op b = false := by first | exact nomark _ | rfl) : PTd X ms (.Compare a [op] [b] pos) (tOf (e2 φ f g)) := by
  refine pt_imp (pt_cmpR ho ha hb hm) fun σ H Q ⟨G, ρ, dr, d, dr', w, r, h, k⟩ => ?_
  simp only [tOf, Option.bind_eq_some_iff] at h
  obtain ⟨⟨x, dr1⟩, h1, h2⟩ := h
  refine tOp_of (f := f) (g := g) ⟨G, ρ, dr, x, dr1, w, r, h1, fun v G1 H1 q1 a1 w1 => ?_⟩
  cases x with
  | bl b =>
    cases h2
    simp only [Rep] at q1
    exact ⟨_, q1, k G1 H1 a1 w1⟩
  | _ => cases h2
variable {c : Expr} {fc gc : TDn} {rest : List Expr}
theorem ptd_not (ha : PTd X ms a fc) : PTd X ms (.UnaryOp .Not a pos) (tNot fc) := by
  refine pt_imp (pt_not ha) fun σ H Q ⟨G, ρ, dr, d, dr', w, r, h, k⟩ => ?_
  simp only [tNot, Option.bind_eq_some_iff] at h
  obtain ⟨⟨x, dr1⟩, h1, h2⟩ := h
  cases h2
  exact ⟨G, ρ, dr, x, dr1, w, r, h1, fun G1 H1 a1 w1 => k G1 H1 a1 w1⟩
theorem pwd_and1 (ha : PTd X ms a fc) : PWd X ms (.BoolOp .And [a] pos) fc := pw_and1 ha
theorem pwd_or1 (ha : PTd X ms a fc) : PWd X ms (.BoolOp .Or [a] pos) fc := pw_or1 ha
theorem pwd_and (ha : PTd X ms a fc) (hb : PWd X ms (.BoolOp .And (b :: rest) pos) gc) : PWd X ms (.BoolOp .And (a :: b :: rest) pos) (tAnd fc gc) := by
  refine pw_imp (pw_and ha hb) fun σ H Q ⟨G, ρ, dr, d, dr', w, r, h, k⟩ => ?_
  simp only [tAnd, Option.bind_eq_some_iff] at h
  obtain ⟨⟨x, dr1⟩, h1, h2⟩ := h
  refine ⟨G, ρ, dr, x, dr1, w, r, h1, fun G1 H1 a1 w1 => ?_⟩
  cases x with
  | true =>
    rw [if_pos rfl] at h2 ⊢
    exact ⟨G1, ρ, dr1, d, dr', w1, r.mono a1.gr, h2, fun G2 H2 a2 w2 => k G2 H2 (a1.trans a2) w2⟩
  | false =>
    rw [if_neg Bool.false_ne_true] at h2 ⊢
    cases h2
    exact k G1 H1 a1 w1
theorem pwd_or (ha : PTd X ms a fc) (hb : PWd X ms (.BoolOp .Or (b :: rest) pos) gc) : PWd X ms (.BoolOp .Or (a :: b :: rest) pos) (tOr fc gc) := by
  refine pw_imp (pw_or ha hb) fun σ H Q ⟨G, ρ, dr, d, dr', w, r, h, k⟩ => ?_
  simp only [tOr, Option.bind_eq_some_iff] at h
  obtain ⟨⟨x, dr1⟩, h1, h2⟩ := h
  refine ⟨G, ρ, dr, x, dr1, w, r, h1, fun G1 H1 a1 w1 => ?_⟩
  cases x with
  | true =>
    rw [if_pos rfl] at h2 ⊢
    cases h2
    exact k G1 H1 a1 w1
  | false =>
    rw [if_neg Bool.false_ne_true] at h2 ⊢
    exact ⟨G1, ρ, dr1, d, dr', w1, r.mono a1.gr, h2, fun G2 H2 a2 w2 => k G2 H2 (a1.trans a2) w2⟩
theorem PWd.pt (h : PWd X ms e fc) : PTd X ms e fc := PW.pt h
theorem ped_ifExp (hc : PTd X ms c fc) (ha : PEd X ms a f) (hb : PEd X ms b g) : PEd X ms (.IfExp c a b pos) (eIf fc f g) := by
  refine pe_imp (pe_ifExp hc ha hb) fun σ H Q ⟨G, ρ, dr, d, dr', w, r, h, k⟩ => ?_
  simp only [eIf, Option.bind_eq_some_iff] at h
  obtain ⟨⟨x, dr1⟩, h1, h2⟩ := h
  refine ⟨G, ρ, dr, x, dr1, w, r, h1, fun G1 H1 a1 w1 => ?_⟩
  cases x with
  | true =>
    rw [if_pos rfl] at h2 ⊢
    exact ⟨G1, ρ, dr1, d, dr', w1, r.mono a1.gr, h2, fun v G2 H2 q a2 w2 => k v G2 H2 q (a1.trans a2) w2⟩
  | false =>
    rw [if_neg Bool.false_ne_true] at h2 ⊢
    exact ⟨G1, ρ, dr1, d, dr', w1, r.mono a1.gr, h2, fun v G2 H2 q a2 w2 => k v G2 H2 q (a1.trans a2) w2⟩
/-- and, or, not of bools as values -/
def eAnd (f g : ED) : ED := fun ρ dr => (f ρ dr).bind fun p => match p.1 with
  | .bl true => g ρ p.2
  | .bl false => some (.bl false, p.2)
  | _ => none
def eOr (f g : ED) : ED := fun ρ dr => (f ρ dr).bind fun p => match p.1 with
  | .bl false => g ρ p.2
  | .bl true => some (.bl true, p.2)
  | _ => none
def eNot (f : ED) : ED := fun ρ dr => (f ρ dr).bind fun p => match p.1 with
  | .bl b => some (.bl (!b), p.2)
  | _ => none
theorem ped_one {op} (h : PEd X ms a f) : PEd X ms (.BoolOp op [a] pos) f := pe_one h
theorem ped_and (ha : PEd X ms a f) (hb : PEd X ms (.BoolOp .And (b :: rest) pos) g) : PEd X ms (.BoolOp .And (a :: b :: rest) pos) (eAnd f g) := by
  refine pe_imp (pe_and ha hb) fun σ H Q ⟨G, ρ, dr, d, dr', w, r, h, k⟩ => ?_
  simp only [eAnd, Option.bind_eq_some_iff] at h
  obtain ⟨⟨x, dr1⟩, h1, h2⟩ := h
  refine ⟨G, ρ, dr, x, dr1, w, r, h1, fun v G1 H1 q1 a1 w1 => ?_⟩
  cases x with
  | bl c =>
    simp only [Rep] at q1
    refine ⟨c, q1, ?_⟩
    cases c with
    | true =>
      rw [if_pos rfl]
      exact ⟨G1, ρ, dr1, d, dr', w1, r.mono a1.gr, h2, fun v G2 H2 q a2 w2 => k v G2 H2 q (a1.trans a2) w2⟩
    | false =>
      rw [if_neg Bool.false_ne_true]
      cases h2
      exact k _ G1 H1 (by simp [Rep]) a1 w1
  | _ => cases h2
theorem ped_or (ha : PEd X ms a f) (hb : PEd X ms (.BoolOp .Or (b :: rest) pos) g) : PEd X ms (.BoolOp .Or (a :: b :: rest) pos) (eOr f g) := by
  refine pe_imp (pe_or ha hb) fun σ H Q ⟨G, ρ, dr, d, dr', w, r, h, k⟩ => ?_
  simp only [eOr, Option.bind_eq_some_iff] at h
  obtain ⟨⟨x, dr1⟩, h1, h2⟩ := h
  refine ⟨G, ρ, dr, x, dr1, w, r, h1, fun v G1 H1 q1 a1 w1 => ?_⟩
  cases x with
  | bl c =>
    simp only [Rep] at q1
    refine ⟨c, q1, ?_⟩
    cases c with
    | false =>
      rw [if_neg Bool.false_ne_true]
      exact ⟨G1, ρ, dr1, d, dr', w1, r.mono a1.gr, h2, fun v G2 H2 q a2 w2 => k v G2 H2 q (a1.trans a2) w2⟩
    | true =>
      rw [if_pos rfl]
      cases h2
      exact k _ G1 H1 (by simp [Rep]) a1 w1
  | _ => cases h2
theorem ped_not (ha : PEd X ms a f) : PEd X ms (.UnaryOp .Not a pos) (eNot f) := by
  refine pe_imp (pe_not ha) fun σ H Q ⟨G, ρ, dr, d, dr', w, r, h, k⟩ => ?_
  simp only [eNot, Option.bind_eq_some_iff] at h
  obtain ⟨⟨x, dr1⟩, h1, h2⟩ := h
  refine ⟨G, ρ, dr, x, dr1, w, r, h1, fun v G1 H1 q1 a1 w1 => ?_⟩
  cases x with
  | bl c =>
    simp only [Rep] at q1
    cases h2
    exact ⟨c, q1, k _ G1 H1 (by simp [Rep]) a1 w1⟩
  | _ => cases h2
end exprs
end Dk

set_option maxRecDepth 100000
namespace Dk
open PySem PySem.Spec PyProof.Rows L2

/-! ### data as the library's own (for ==) -/
mutual
def toPy : D → Option PyData
  | .non => some .none
  | .bl b => some (.bool b)
  | .int i => some (.int i)
  | .str _ => none
  | .lst ds => (toPyL ds).bind fun xs => some (.list xs)
  | .tup ds => (toPyL ds).bind fun xs => some (.tuple xs)
  | .dic _ _ => none
  | .dit _ _ => none
  | .tok _ => none
def toPyL : List D → Option (List PyData)
  | [] => some []
  | d :: ds => (toPy d).bind fun x => (toPyL ds).bind fun xs => some (x :: xs)
end
mutual
theorem dp_of {K : PySem.W.Frag} {G H : Hp} (s : ∀ a o, G a = some o → H a = some o) : ∀ {v : V} (d : D) {x : PyData}, Rep G v d → toPy d = some x → Dp K H v x
  | v, .non, x, r, h => by
    simp only [toPy, Option.some.injEq] at h; simp only [Rep] at r; subst h; subst r; exact .non
  | v, .bl b, x, r, h => by
    simp only [toPy, Option.some.injEq] at h; simp only [Rep] at r; subst h; subst r; exact .bl b
  | v, .int b, x, r, h => by
    simp only [toPy, Option.some.injEq] at h; simp only [Rep] at r; subst h; subst r; exact .int b
  | v, .str b, x, r, h => by simp [toPy] at h
  | v, .dic _ _, x, r, h => by simp [toPy] at h
  | v, .dit _ _, x, r, h => by simp [toPy] at h
  | v, .tok _, x, r, h => by simp [toPy] at h
  | v, .lst ds, x, r, h => by
    simp only [toPy, Option.bind_eq_some_iff, Option.some.injEq] at h
    obtain ⟨xs, h1, rfl⟩ := h
    simp only [Rep] at r
    obtain ⟨a, vs, rfl, e, q⟩ := r
    exact .lst (SqL.of (s _ _ e)) (dpL_of s ds q h1)
  | v, .tup ds, x, r, h => by
    simp only [toPy, Option.bind_eq_some_iff, Option.some.injEq] at h
    obtain ⟨xs, h1, rfl⟩ := h
    simp only [Rep] at r
    obtain ⟨a, vs, rfl, e, q⟩ := r
    exact .tup (SqT.of (s _ _ e)) (dpL_of s ds q h1)
theorem dpL_of {K : PySem.W.Frag} {G H : Hp} (s : ∀ a o, G a = some o → H a = some o) : ∀ {vs : List V} (ds : List D) {xs : List PyData}, RepL G vs ds → toPyL ds = some xs → DpAll K H vs xs
  | vs, [], xs, r, h => by
    simp only [toPyL, Option.some.injEq] at h
    rw [r.inv0, ← h]; exact .nil
  | vs, d :: ds, xs, r, h => by
    simp only [toPyL, Option.bind_eq_some_iff, Option.some.injEq] at h
    obtain ⟨x, h1, ys, h2, rfl⟩ := h
    obtain ⟨v, r', rfl, q1, q2⟩ := r.inv
    exact .cons (dp_of s d q1 h1) (dpL_of s ds q2 h2)
end

/-! ### operators on data -/
instance (i j : Int) : Decidable (CMul i j) := by unfold CMul; exact inferInstance
instance (i j : Int) : Decidable (CDivN i j) := by unfold CDivN; exact inferInstance
instance (i j : Int) : Decidable (CPow i j) := by unfold CPow; exact inferInstance
def addV : D → D → Option D
  | .int i, .int j => some (.int (i + j))
  | .tup xs, .tup ys => if xs.length + ys.length ≤ sizeLine then some (.tup (xs ++ ys)) else none
  | .lst xs, .lst ys => if xs.length + ys.length ≤ sizeLine then some (.lst (xs ++ ys)) else none
  | _, _ => none
def subV : D → D → Option D
  | .int i, .int j => some (.int (i - j))
  | _, _ => none
def mulV : D → D → Option D
  | .int i, .int j => if CMul i j then some (.int (i * j)) else none
  | .lst xs, .int k => if -(2 ^ 63) ≤ k ∧ k < 2 ^ 63 ∧ xs.length * k.toNat ≤ sizeLine then some (.lst (List.replicate k.toNat xs).flatten) else none
  | .tup xs, .int k => if xs ≠ [] ∧ 2 ≤ k ∧ k ≤ 1000 ∧ xs.length ≤ 1000 then some (.tup (List.replicate k.toNat xs).flatten) else none
  | _, _ => none
def fdivV : D → D → Option D
  | .int i, .int j => if CDivN i j then some (.int (i.fdiv j)) else none
  | _, _ => none
def modV : D → D → Option D
  | .int i, .int j => if j ≠ 0 then some (.int (i.fmod j)) else none
  | _, _ => none
def powV : D → D → Option D
  | .int i, .int j => if CPow i j then some (.int (i ^ j.toNat)) else none
  | _, _ => none
def negV : D → Option D
  | .int i => some (.int (-i))
  | _ => none
def cmpV (p : Int → Int → Bool) : D → D → Option D
  | .int i, .int j => some (.bl (p i j))
  | _, _ => none
abbrev ltV := cmpV fun i j => decide (i < j)
abbrev leV := cmpV fun i j => decide (i ≤ j)
abbrev gtV := cmpV fun i j => decide (j < i)
abbrev geV := cmpV fun i j => decide (j ≤ i)
/-- ==: of ints, bools, None, lists, tuples -/
def eqD (x y : D) : Option Bool := (toPy x).bind fun a => (toPy y).bind fun b => if (SeqAt.shaped a && SeqAt.shaped b) = true then some (PyData.eqv a b) else none
def eqV (x y : D) : Option D := (eqD x y).bind fun b => some (.bl b)
def neV (x y : D) : Option D := (eqD x y).bind fun b => some (.bl (!b))
def isNonD : D → Bool
  | .non => true
  | _ => false
def isNV (x : D) (y : D) : Option D := match y with
  | .non => some (.bl (isNonD x))
  | _ => none
def notNV (x : D) (y : D) : Option D := match y with
  | .non => some (.bl (!isNonD x))
  | _ => none
/-- x in a list -/
def inV (neg : Bool) (x y : D) : Option D := (toPy x).bind fun a => match y with
  | .lst ds => (toPyL ds).bind fun bs => if (SeqAt.shaped a && SeqAt.shaped (.list bs)) = true then some (.bl (if neg then !(bs.any fun z => PyData.eqv z a) else bs.any fun z => PyData.eqv z a)) else none
  | _ => none
def ixV : D → D → Option D
  | .lst xs, .int i => atI xs i
  | .tup xs, .int i => atI xs i
  | _, _ => none
def lenV : List D → Option D
  | [.lst xs] => some (.int xs.length)
  | [.tup xs] => some (.int xs.length)
  | [.dic ks _] => some (.int ks.length)
  | _ => none
section ops
variable {X : Cx} {ms : List Addr}
theorem Rep.int {G : Hp} {v : V} {i : Int} (h : Rep G v (.int i)) : v = .int i := by simpa only [Rep] using h
theorem Rep.bl {G : Hp} {v : V} {i : Bool} (h : Rep G v (.bl i)) : v = .bl i := by simpa only [Rep] using h
theorem rep_int {G : Hp} {i : Int} : Rep G (.int i) (.int i) := by simp only [Rep]
theorem rep_bl {G : Hp} {i : Bool} : Rep G (.bl i) (.bl i) := by simp only [Rep]
theorem rep_non {G : Hp} : Rep G .non .non := by simp only [Rep]
theorem Rep.lst {G : Hp} {v : V} {ds : List D} (h : Rep G v (.lst ds)) : ∃ a vs, v = .ref a ∧ G a = some (.lst vs) ∧ RepL G vs ds := by simpa only [Rep] using h
theorem Rep.tup {G : Hp} {v : V} {ds : List D} (h : Rep G v (.tup ds)) : ∃ a vs, v = .ref a ∧ G a = some (.tup vs) ∧ RepL G vs ds := by simpa only [Rep] using h
theorem rep_new {dr : Dr} {G H : Hp} {p : Addr} {vs : List V} {ds : List D} (w : Vw ms dr G H) (hp : H p = none) (q : RepL G vs ds) : Rep (upd G p (.lst vs)) (.ref p) (.lst ds) := by
  simp only [Rep]
  exact ⟨p, vs, rfl, upd_same, RepL.mono (Aft.alloc w hp _).gr _ q⟩
theorem rep_newT {dr : Dr} {G H : Hp} {p : Addr} {vs : List V} {ds : List D} (w : Vw ms dr G H) (hp : H p = none) (q : RepL G vs ds) : Rep (upd G p (.tup vs)) (.ref p) (.tup ds) := by
  simp only [Rep]
  exact ⟨p, vs, rfl, upd_same, RepL.mono (Aft.alloc w hp _).gr _ q⟩
theorem opd_add : OpR X (binaryOp .Add) (rD2 ms addV) := by
  intro pins s σ H x y v u Q I rx ry h
  obtain ⟨G, dr, dx, dy, d, w, q1, q2, h, k⟩ := h
  unfold addV at h
  split at h
  · cases h
    exact op_add pins s σ H x y v u Q I rx ry ⟨_, _, q1.int, q2.int, k _ G H rep_int .refl w⟩
  · split at h
    · cases h
      rename_i hl
      obtain ⟨a, vs, rfl, e1, r1⟩ := q1.tup
      obtain ⟨b, us, rfl, e2, r2⟩ := q2.tup
      refine op_catA pins s σ H _ _ v u Q I rx ry ⟨a, b, vs, us, rfl, rfl, .of (w.sub _ _ e1), .of (w.sub _ _ e2), by rw [r1.length, r2.length]; exact hl, fun z => ?_, fun _ z => ?_, fun _ _ p hp => ?_⟩
      · refine k _ G H ?_ .refl w
        subst z
        have e := r1.length
        simp at e
        rw [List.eq_nil_of_length_eq_zero e.symm]
        exact q2
      · refine k _ G H ?_ .refl w
        subst z
        have e := r2.length
        simp at e
        rw [List.eq_nil_of_length_eq_zero e.symm, List.append_nil]
        exact q1
      · exact k _ _ _ (rep_newT w hp (r1.append r2)) (.alloc w hp _) (w.alloc hp _)
    · cases h
  · split at h
    · cases h
      rename_i hl
      obtain ⟨a, vs, rfl, e1, r1⟩ := q1.lst
      obtain ⟨b, us, rfl, e2, r2⟩ := q2.lst
      refine op_cat pins s σ H _ _ v u Q I rx ry ⟨a, b, vs, us, rfl, rfl, w.sub _ _ e1, w.sub _ _ e2, by rw [r1.length, r2.length]; exact hl, fun p hp => ?_⟩
      exact k _ _ _ (rep_new w hp (r1.append r2)) (.alloc w hp _) (w.alloc hp _)
    · cases h
  · cases h
theorem opd_int {f : Value → Value → Sem Value} {C : Int → Int → Prop} {g : Int → Int → Int} {φ : D → D → Option D} (ho : OpR X f (rI C fun i j => .int (g i j))) (hφ : ∀ x y d, φ x y = some d → ∃ i j, x = .int i ∧ y = .int j ∧ C i j ∧ d = .int (g i j)) : OpR X f (rD2 ms φ) := by
  refine op_imp ho fun x y H Q ⟨G, dr, dx, dy, d, w, q1, q2, h, k⟩ => ?_
  obtain ⟨i, j, rfl, rfl, c, rfl⟩ := hφ _ _ _ h
  exact ⟨i, j, q1.int, q2.int, c, k _ G H rep_int .refl w⟩
theorem opd_sub : OpR X (binaryOp .Sub) (rD2 ms subV) := by
  refine op_imp op_sub fun x y H Q ⟨G, dr, dx, dy, d, w, q1, q2, h, k⟩ => ?_
  unfold subV at h
  split at h
  · cases h
    exact ⟨_, _, q1.int, q2.int, k _ G H rep_int .refl w⟩
  · cases h
theorem opd_mul : OpR X (binaryOp .Mult) (rD2 ms mulV) := by
  intro pins s σ H x y v u Q I rx ry h
  obtain ⟨G, dr, dx, dy, d, w, q1, q2, h, k⟩ := h
  unfold mulV at h
  split at h
  · split at h
    · cases h
      rename_i c
      exact op_mul pins s σ H x y v u Q I rx ry ⟨_, _, q1.int, q2.int, c, k _ G H rep_int .refl w⟩
    · cases h
  · split at h
    · cases h
      rename_i c
      obtain ⟨a, vs, rfl, e1, r1⟩ := q1.lst
      refine op_rep pins s σ H _ _ v u Q I rx ry ⟨a, _, vs, rfl, q2.int, w.sub _ _ e1, c.1, c.2.1, by rw [r1.length]; exact c.2.2, fun p hp => ?_⟩
      exact k _ _ _ (rep_new w hp (r1.rep _)) (.alloc w hp _) (w.alloc hp _)
    · cases h
  · split at h
    · cases h
      rename_i c
      obtain ⟨a, vs, rfl, e1, r1⟩ := q1.tup
      refine op_repT pins s σ H _ _ v u Q I rx ry ⟨a, _, vs, rfl, q2.int, .of (w.sub _ _ e1), ?_, c.2.1, c.2.2.1, by rw [r1.length]; exact c.2.2.2, fun p hp => ?_⟩
      · intro z
        subst z
        have e := r1.length
        simp at e
        exact c.1 (List.eq_nil_of_length_eq_zero e.symm)
      · exact k _ _ _ (rep_newT w hp (r1.rep _)) (.alloc w hp _) (w.alloc hp _)
    · cases h
  · cases h
theorem opd_fdiv : OpR X (binaryOp .FloorDiv) (rD2 ms fdivV) := opd_int op_fdivN fun x y d h => by
  unfold fdivV at h
  split at h
  · split at h
    · cases h
      exact ⟨_, _, rfl, rfl, by assumption, rfl⟩
    · cases h
  · cases h
theorem opd_mod : OpR X (binaryOp .Mod) (rD2 ms modV) := opd_int op_modN fun x y d h => by
  unfold modV at h
  split at h
  · split at h
    · cases h
      exact ⟨_, _, rfl, rfl, by assumption, rfl⟩
    · cases h
  · cases h
theorem opd_pow : OpR X (binaryOp .Pow) (rD2 ms powV) := opd_int op_pow fun x y d h => by
  unfold powV at h
  split at h
  · split at h
    · cases h
      exact ⟨_, _, rfl, rfl, by assumption, rfl⟩
    · cases h
  · cases h
theorem und_neg : UnR X (unaryOp .USub) (rD1 ms negV) := by
  intro pins s σ H x v Q I rx h
  obtain ⟨G, dr, dx, d, w, q1, h, k⟩ := h
  unfold negV at h
  split at h
  · cases h
    exact un_neg pins s σ H x v Q I rx ⟨_, q1.int, k _ G H rep_int .refl w⟩
  · cases h
theorem opd_cmp {op : CmpOp} {p : Int → Int → Bool} (ho : OpR X (compareOp op) (rI0 fun i j => .bl (p i j))) : OpR X (compareOp op) (rD2 ms (cmpV p)) := by
  refine op_imp ho fun x y H Q ⟨G, dr, dx, dy, d, w, q1, q2, h, k⟩ => ?_
  unfold cmpV at h
  split at h
  · cases h
    exact ⟨_, _, q1.int, q2.int, k _ G H rep_bl .refl w⟩
  · cases h
theorem opd_lt : OpR X (compareOp .Lt) (rD2 ms ltV) := opd_cmp op_lt
theorem opd_le : OpR X (compareOp .LtE) (rD2 ms leV) := opd_cmp op_le
theorem opd_gt : OpR X (compareOp .Gt) (rD2 ms gtV) := opd_cmp op_gt
theorem opd_ge : OpR X (compareOp .GtE) (rD2 ms geV) := opd_cmp op_ge
theorem eqD_inv {x y : D} {b : Bool} (h : eqD x y = some b) : ∃ p q, toPy x = some p ∧ toPy y = some q ∧ SeqAt.shaped p = true ∧ SeqAt.shaped q = true ∧ b = PyData.eqv p q := by
  unfold eqD at h
  simp only [Option.bind_eq_some_iff] at h
  obtain ⟨p, h1, q, h2, h3⟩ := h
  split at h3
  · rename_i hs
    cases h3
    exact ⟨p, q, h1, h2, (Bool.and_eq_true_iff.mp hs).1, (Bool.and_eq_true_iff.mp hs).2, rfl⟩
  · cases h3
theorem opd_eq (hu : X.A.units + 64 < cLine) : OpR X (compareOp .Eq) (rD2 ms eqV) := by
  refine op_imp (op_eqD hu) fun x y H Q ⟨G, dr, dx, dy, d, w, q1, q2, h, k⟩ => ?_
  unfold eqV at h
  simp only [Option.bind_eq_some_iff] at h
  obtain ⟨b, h, h'⟩ := h
  cases h'
  obtain ⟨p, q, e1, e2, s1, s2, rfl⟩ := eqD_inv h
  exact ⟨p, q, dp_of w.sub _ q1 e1, dp_of w.sub _ q2 e2, s1, s2, k _ G H rep_bl .refl w⟩
theorem opd_ne (hu : X.A.units + 64 < cLine) : OpR X (compareOp .NotEq) (rD2 ms neV) := by
  refine op_imp (op_neD hu) fun x y H Q ⟨G, dr, dx, dy, d, w, q1, q2, h, k⟩ => ?_
  unfold neV at h
  simp only [Option.bind_eq_some_iff] at h
  obtain ⟨b, h, h'⟩ := h
  cases h'
  obtain ⟨p, q, e1, e2, s1, s2, rfl⟩ := eqD_inv h
  exact ⟨p, q, dp_of w.sub _ q1 e1, dp_of w.sub _ q2 e2, s1, s2, k _ G H rep_bl .refl w⟩
theorem Rep.non_iff {G : Hp} {v : V} {d : D} (h : Rep G v d) : decide (v = .non) = isNonD d := by
  cases d with
  | non => simp only [Rep] at h; subst h; rfl
  | bl b => simp only [Rep] at h; subst h; rfl
  | int b => simp only [Rep] at h; subst h; rfl
  | str b => simp only [Rep] at h; subst h; rfl
  | tok b => simp only [Rep] at h; subst h; rfl
  | lst b => simp only [Rep] at h; obtain ⟨a, vs, rfl, _⟩ := h; rfl
  | tup b => simp only [Rep] at h; obtain ⟨a, vs, rfl, _⟩ := h; rfl
  | dic ks b => simp only [Rep] at h; obtain ⟨a, vs, rfl, _⟩ := h; rfl
  | dit ks b => simp only [Rep] at h; obtain ⟨a, vs, rfl, _⟩ := h; rfl
theorem opd_isN : OpR X (compareOp .Is) (rD2 ms isNV) := by
  refine op_imp op_isN fun x y H Q ⟨G, dr, dx, dy, d, w, q1, q2, h, k⟩ => ?_
  unfold isNV at h
  split at h
  · simp only [Rep] at q2
    refine ⟨q2, ?_⟩
    rw [q1.non_iff]
    refine k _ G H ?_ .refl w
    cases h
    exact rep_bl
  · cases h
theorem opd_notN : OpR X (compareOp .IsNot) (rD2 ms notNV) := by
  refine op_imp op_notN fun x y H Q ⟨G, dr, dx, dy, d, w, q1, q2, h, k⟩ => ?_
  unfold notNV at h
  split at h
  · simp only [Rep] at q2
    refine ⟨q2, ?_⟩
    rw [q1.non_iff]
    refine k _ G H ?_ .refl w
    cases h
    exact rep_bl
  · cases h
theorem atI_rep {G : Hp} {vs : List V} {ds : List D} {i : Int} {d : D} (r : RepL G vs ds) (h : atI ds i = some d) : ∃ v, atI vs i = some v ∧ Rep G v d := by
  unfold atI at h ⊢
  rw [r.length]
  simp only [Option.bind_eq_some_iff] at h ⊢
  obtain ⟨j, h1, h2⟩ := h
  obtain ⟨v, e, q⟩ := r.get h2
  exact ⟨v, ⟨j, h1, e⟩, q⟩
theorem ixd : IxR X (rD2 ms ixV) := by
  intro value slice pins s σ H x y v u Q I rx ry h hs
  obtain ⟨G, dr, dx, dy, d, w, q1, q2, h, k⟩ := h
  unfold ixV at h
  split at h
  · obtain ⟨a, vs, rfl, e1, r1⟩ := q1.lst
    obtain ⟨z, e, q⟩ := atI_rep r1 h
    exact ix_list value slice pins s σ H _ _ v u Q I rx ry ⟨a, vs, _, z, rfl, q2.int, .of (w.sub _ _ e1), e, k _ G H q .refl w⟩ hs
  · obtain ⟨a, vs, rfl, e1, r1⟩ := q1.tup
    obtain ⟨z, e, q⟩ := atI_rep r1 h
    exact ix_tup value slice pins s σ H _ _ v u Q I rx ry ⟨a, vs, _, z, rfl, q2.int, .of (w.sub _ _ e1), e, k _ G H q .refl w⟩ hs
  · cases h
theorem RepL.one {G : Hp} {xs : List V} {d : D} (h : RepL G xs [d]) : ∃ v, xs = [v] ∧ Rep G v d := by
  obtain ⟨v, r, rfl, h1, h2⟩ := h.inv
  rw [h2.inv0]; exact ⟨v, rfl, h1⟩
theorem RepL.two {G : Hp} {xs : List V} {d e : D} (h : RepL G xs [d, e]) : ∃ v u, xs = [v, u] ∧ Rep G v d ∧ Rep G u e := by
  obtain ⟨v, r, rfl, h1, h2⟩ := h.inv
  obtain ⟨u, rfl, h3⟩ := h2.one
  exact ⟨v, u, rfl, h1, h3⟩
theorem callR_imp {f : Value} {r r' : List V → Hp → VK → Prop} (h : CallR X f r) (i : ∀ xs H Q, r' xs H Q → r xs H Q) : CallR X f r' := fun pins s σ H xs us Q I rx q => h pins s σ H xs us Q I rx (i xs H Q q)
end ops
end Dk

set_option maxRecDepth 100000
namespace Dk
open PySem PySem.Spec PyProof.Rows L2

/-! ### calls of defs -/
abbrev FD := List D → Dr → Option (D × Dr)
def spD (n : Nat) (m : FD) : Sp := fun vs H Q _ => ∃ ms G dr ds d dr', vs.length = n ∧ Vw ms dr G H ∧ RepL G vs ds ∧ m ds dr = some (d, dr') ∧ ∀ v G' H', Rep G' v d → Aft ms G H G' H' → Vw ms dr' G' H' → Q v H'
structure FnX (P : Program) (w : World) (K : PySem.W.Frag) (mg : Str → Option Value) (base : Heap) (x : Str) (k n : Nat) (m : FD) : Prop where
  ex : ∃ f fd ps, FnOk P w K mg base CX0 k f fd ps (spD n m) ∧ mg x = some (.ref f) ∧ PySem.W.keepIn K (.ref f) = true ∧ Binds K fd ps []
  ar : ∀ ds dr r, m ds dr = some r → ds.length = n
def eCall (m : FD) (fs : AD) : ED := fun ρ dr => (fs ρ dr).bind fun p => m p.1 p.2
section
variable {X : Cx} {ms : List Addr} {e : Expr} {es : List Expr} {fs : AD} {pos : Pos} {x : Str} {p : Pos} {k n : Nat} {m : FD}
theorem FnX.mono {P : Program} {w : World} {K : PySem.W.Frag} {mg : Str → Option Value} {base : Heap} {j : Nat} (F : FnX P w K mg base x j n m) (h : j ≤ k) : FnX P w K mg base x k n m := by
  obtain ⟨⟨f, fd, ps, F, r⟩, a⟩ := F
  exact ⟨⟨f, fd, ps, F.mono h, r⟩, a⟩
theorem ped_call (F : FnX X.prog X.w X.K X.mg X.base x k n m) (hr : Room k X.A) (ha : PAd X ms (e :: es) fs) (hg : Gl X x := by rfl) (hdb : (x == ("__debug__" : Str)) = false := by decide)
    (he : starEach (e :: es) X.env = (false, eval e X.env) :: starEach es X.env := by rfl) (hpl : (backTo pos (starEach es X.env)).any (·.1) = false := by rfl) : PEd X ms (.Call (.Name x p) (e :: es) [] pos) (eCall m fs) := by
  obtain ⟨⟨f, fd, ps, F, hm, hk, hb⟩, ar⟩ := F
  refine pe_imp (pe_call F hr hg hm hk hb .nil pass0 ha hdb he hpl) fun σ H Q ⟨G, ρ, dr, d, dr', w, r, h, kk⟩ => ?_
  simp only [eCall, Option.bind_eq_some_iff] at h
  obtain ⟨⟨ds, dr1⟩, h1, h2⟩ := h
  refine ⟨G, ρ, dr, ds, dr1, w, r, h1, fun vs G1 H1 q1 a1 w1 => ?_⟩
  refine ⟨ms, G1, dr1, ds, d, dr', ?_, w1, ?_, h2, fun v G2 H2 q2 a2 w2 => kk v G2 H2 q2 (a1.trans a2) w2⟩
  · rw [List.append_nil, q1.length]; exact ar _ _ _ h2
  · rw [List.append_nil]; exact q1
end

/-! ### statements -/
inductive Sl where
  | no
  | fr (d : D)
  | ow (d : D)
def Sl.f : Sl → Option D
  | .fr d => some d
  | _ => none
def Sl.p : Sl → Option D
  | .fr d => some d
  | .ow d => some d
  | .no => none
inductive Fl where
  | nx (e : List Sl)
  | bk (e : List Sl)
  | ct (e : List Sl)
  | rt (d : D)
abbrev SDn := List Sl → Dr → Option (Fl × Dr)
abbrev frz (env : List Sl) : List (Option D) := env.map Sl.f
abbrev pk (env : List Sl) : List (Option D) := env.map Sl.p
def Own (F H : Hp) (p : Addr) : D → Prop
  | .lst ds => ∃ vs, H p = some (.lst vs) ∧ RepL F vs ds
  | .dic ks ds => ∃ vs, H p = some (.dK (ks.zip vs)) ∧ ks.length = vs.length ∧ RepL F vs ds
  | .dit ks ds => ∃ vs, H p = some (.dT (ks.zip vs)) ∧ ks.length = vs.length ∧ RepL F vs ds
  | _ => False
theorem Own.there {F H : Hp} {p : Addr} : ∀ {d : D}, Own F H p d → H p ≠ none
  | .lst ds, ⟨vs, e, _⟩ => by rw [e]; simp
  | .dic ks ds, ⟨vs, e, _⟩ => by rw [e]; simp
  | .dit ks ds, ⟨vs, e, _⟩ => by rw [e]; simp
theorem Own.mono {F H F' H' : Hp} {p : Addr} (g : ∀ a o, F a = some o → F' a = some o) (h : ∀ o, H p = some o → H' p = some o) : ∀ {d : D}, Own F H p d → Own F' H' p d
  | .lst ds, ⟨vs, e, r⟩ => ⟨vs, h _ e, RepL.mono g _ r⟩
  | .dic ks ds, ⟨vs, e, l, r⟩ => ⟨vs, h _ e, l, RepL.mono g _ r⟩
  | .dit ks ds, ⟨vs, e, l, r⟩ => ⟨vs, h _ e, l, RepL.mono g _ r⟩
/-- an owned thing, frozen -/
theorem Own.frz {F H : Hp} {p : Addr} (n : F p = none) : ∀ {d : D}, Own F H p d → ∃ o, H p = some o ∧ Rep (upd F p o) (.ref p) d
  | .lst ds, ⟨vs, e, r⟩ => ⟨_, e, by
    simp only [Rep]
    exact ⟨p, vs, rfl, upd_same, RepL.mono (fun a o q => by rw [upd_ne (ne_of_none q n)]; exact q) _ r⟩⟩
  | .dic ks ds, ⟨vs, e, l, r⟩ => ⟨_, e, by
    simp only [Rep]
    exact ⟨p, vs, rfl, upd_same, l, RepL.mono (fun a o q => by rw [upd_ne (ne_of_none q n)]; exact q) _ r⟩⟩
  | .dit ks ds, ⟨vs, e, l, r⟩ => ⟨_, e, by
    simp only [Rep]
    exact ⟨p, vs, rfl, upd_same, l, RepL.mono (fun a o q => by rw [upd_ne (ne_of_none q n)]; exact q) _ r⟩⟩
structure EInv (ms : List Addr) (G0 H0 F : Hp) (env : List Sl) (dr : Dr) (σ : L2.St) (H : Hp) : Prop where
  vw : Vw ms dr F H
  af : Aft ms G0 H0 F H
  len : σ.length = env.length
  fr : ∀ (i : Nat) d, env[i]? = some (.fr d) → ∃ v, σ[i]? = some (some v) ∧ Rep F v d
  ow : ∀ (i : Nat) d, env[i]? = some (.ow d) → ∃ p, σ[i]? = some (some (.ref p)) ∧ Own F H p d ∧ F p = none ∧ p ∉ ms ∧ H0 p = none
  di : ∀ (i j : Nat) d d' p, env[i]? = some (.ow d) → env[j]? = some (.ow d') → σ[i]? = some (some (.ref p)) → σ[j]? = some (some (.ref p)) → i = j
abbrev Sub (F F' : Hp) : Prop := ∀ a o, F a = some o → F' a = some o
def Post (ms : List Addr) (G0 H0 F : Hp) (D : Ends) : Option (Fl × Dr) → Prop
  | none => False
  | some (.nx e, dr) => ∀ F' σ H, EInv ms G0 H0 F' e dr σ H → Sub F F' → D.nx σ H
  | some (.bk e, dr) => ∀ F' σ H, EInv ms G0 H0 F' e dr σ H → Sub F F' → D.bk σ H
  | some (.ct e, dr) => ∀ F' σ H, EInv ms G0 H0 F' e dr σ H → Sub F F' → D.ct σ H
  | some (.rt d, dr) => ∀ v G' H', Rep G' v d → Aft ms G0 H0 G' H' → Vw ms dr G' H' → D.rt v H'
theorem Post.sub {ms : List Addr} {G0 H0 F F' : Hp} {D : Ends} (s : Sub F F') : ∀ {r : Option (Fl × Dr)}, Post ms G0 H0 F D r → Post ms G0 H0 F' D r
  | none, h => h
  | some (.nx e, dr), h => fun F2 σ H i q => h F2 σ H i fun a o z => q a o (s a o z)
  | some (.bk e, dr), h => fun F2 σ H i q => h F2 σ H i fun a o z => q a o (s a o z)
  | some (.ct e, dr), h => fun F2 σ H i q => h F2 σ H i fun a o z => q a o (s a o z)
  | some (.rt d, dr), h => h
def tS (ms : List Addr) (G0 H0 : Hp) (g : SDn) : TS := fun D σ H => ∃ F env dr, EInv ms G0 H0 F env dr σ H ∧ Post ms G0 H0 F D (g env dr)
def PSd (X : Cx) (ms : List Addr) (G0 H0 : Hp) (st : Stmt) (g : SDn) : Prop := PS X st (tS ms G0 H0 g)
def PSsd (X : Cx) (ms : List Addr) (G0 H0 : Hp) (st : List Stmt) (g : SDn) : Prop := PSs X st (tS ms G0 H0 g)
theorem ps_imp {X : Cx} {st : Stmt} {t t' : TS} (h : PS X st t) (i : ∀ D σ H, t' D σ H → t D σ H) : PS X st t' := ⟨fun pins s σ H D I hw => h.run pins s σ H D I (i D σ H hw)⟩
theorem pss_imp {X : Cx} {st : List Stmt} {t t' : TS} (h : PSs X st t) (i : ∀ D σ H, t' D σ H → t D σ H) : PSs X st t' := ⟨fun pins s σ H D I hw => h.run pins s σ H D I (i D σ H hw)⟩

section inv
variable {ms : List Addr} {G0 H0 F F' H H' : Hp} {env : List Sl} {dr dr' : Dr} {σ : L2.St}
theorem frz_get {i : Nat} {d : D} (h : (frz env)[i]? = some (some d)) : env[i]? = some (.fr d) := by
  rw [List.getElem?_map] at h
  cases e : env[i]? with
  | none => rw [e] at h; cases h
  | some x =>
    rw [e] at h
    cases x with
    | fr d' => simp [Sl.f] at h; rw [h]
    | _ => simp [Sl.f] at h
theorem pk_get {i : Nat} {d : D} (h : (pk env)[i]? = some (some d)) : env[i]? = some (.fr d) ∨ env[i]? = some (.ow d) := by
  rw [List.getElem?_map] at h
  cases e : env[i]? with
  | none => rw [e] at h; cases h
  | some x =>
    rw [e] at h
    cases x with
    | fr d' => simp [Sl.p] at h; rw [h]; exact .inl rfl
    | ow d' => simp [Sl.p] at h; rw [h]; exact .inr rfl
    | _ => simp [Sl.p] at h
theorem EInv.repF (I : EInv ms G0 H0 F env dr σ H) : RepE F (frz env) σ := ⟨by rw [List.length_map, I.len], fun i d h => I.fr i d (frz_get h)⟩
/-- behind an expression in the frozen view -/
theorem EInv.step (I : EInv ms G0 H0 F env dr σ H) (a : Aft ms F H F' H') (w : Vw ms dr' F' H') : EInv ms G0 H0 F' env dr' σ H' := by
  refine ⟨w, I.af.trans a, I.len, fun i d h => ?_, fun i d h => ?_, I.di⟩
  · obtain ⟨v, e, r⟩ := I.fr i d h
    exact ⟨v, e, Rep.mono a.gr _ r⟩
  · obtain ⟨p, e, o, n, m, z⟩ := I.ow i d h
    exact ⟨p, e, o.mono a.gr fun u q => a.kp p u m q, a.nw p o.there n, m, z⟩
/-- all that is frozen or owned, as a view -/
noncomputable def Pk (F : Hp) (env : List Sl) (σ : L2.St) (H : Hp) : Hp := fun a => match F a with
  | some o => some o
  | none => open Classical in if ∃ (i : Nat) (d : D), env[i]? = some (.ow d) ∧ σ[i]? = some (some (.ref a)) then H a else none
theorem Pk.sub : Sub F (Pk F env σ H) := fun a o h => by unfold Pk; rw [h]
theorem EInv.pkV (I : EInv ms G0 H0 F env dr σ H) : Vw ms dr (Pk F env σ H) H := by
  refine ⟨fun a o h => ?_, fun a m => ?_, I.vw.mem⟩
  · unfold Pk at h
    split at h
    · rename_i o' e
      cases h
      exact I.vw.sub _ _ e
    · split at h
      · exact h
      · cases h
  · unfold Pk
    rw [I.vw.off a m]
    simp only
    split
    · rename_i hh
      obtain ⟨i, d, e, e2⟩ := hh
      obtain ⟨p, e3, _, _, m', _⟩ := I.ow i d e
      rw [e2] at e3
      cases e3
      exact absurd m m'
    · rfl
theorem EInv.pkE (I : EInv ms G0 H0 F env dr σ H) : RepE (Pk F env σ H) (pk env) σ := ⟨by rw [List.length_map, I.len], fun i d h => by
  rcases pk_get h with h | h
  · obtain ⟨v, e, r⟩ := I.fr i d h
    exact ⟨v, e, Rep.mono Pk.sub _ r⟩
  · obtain ⟨p, e, o, n, m, z⟩ := I.ow i d h
    obtain ⟨ob, e', r⟩ := o.frz n
    refine ⟨.ref p, e, Rep.mono (fun a u q => ?_) _ r⟩
    by_cases ha : a = p
    · subst ha
      rw [upd_same] at q
      cases q
      unfold Pk
      rw [n]
      simp only
      rw [if_pos ⟨i, d, h, e⟩, e']
    · rw [upd_ne ha] at q
      exact Pk.sub _ _ q⟩
/-- behind an expression in the wide view, of which nothing is kept -/
theorem EInv.stepP {G' : Hp} (I : EInv ms G0 H0 F env dr σ H) (a : Aft ms (Pk F env σ H) H G' H') (w : Vw ms dr' G' H') : EInv ms G0 H0 F env dr' σ H' :=
  I.step ⟨fun _ _ h => h, fun _ _ h => h, a.kp, a.ks⟩ ⟨fun x o h => w.sub x o (a.gr x o (Pk.sub x o h)), I.vw.off, w.mem⟩
theorem EInv.setF (I : EInv ms G0 H0 F env dr σ H) {i : Nat} {v : V} {d : D} (r : Rep F v d) : EInv ms G0 H0 F (env.set i (.fr d)) dr (σ.set i (some v)) H := by
  refine ⟨I.vw, I.af, by simp [I.len], fun j d' h => ?_, fun j d' h => ?_, fun j k d1 d2 p h1 h2 h3 h4 => ?_⟩
  · by_cases e : i = j
    · subst e
      have hl : i < env.length := by have := (List.getElem?_eq_some_iff.mp h).1; simpa using this
      rw [List.getElem?_set_self hl] at h
      cases h
      exact ⟨v, List.getElem?_set_self (by rw [I.len]; exact hl), r⟩
    · rw [List.getElem?_set_ne e] at h ⊢
      exact I.fr j d' h
  · by_cases e : i = j
    · subst e
      have hl : i < env.length := by have := (List.getElem?_eq_some_iff.mp h).1; simpa using this
      rw [List.getElem?_set_self hl] at h
      cases h
    · rw [List.getElem?_set_ne e] at h ⊢
      exact I.ow j d' h
  · have n1 : i ≠ j := fun e => by
      subst e
      have hl : i < env.length := by have := (List.getElem?_eq_some_iff.mp h1).1; simpa using this
      rw [List.getElem?_set_self hl] at h1
      cases h1
    have n2 : i ≠ k := fun e => by
      subst e
      have hl : i < env.length := by have := (List.getElem?_eq_some_iff.mp h2).1; simpa using this
      rw [List.getElem?_set_self hl] at h2
      cases h2
    rw [List.getElem?_set_ne n1] at h1 h3
    rw [List.getElem?_set_ne n2] at h2 h4
    exact I.di j k d1 d2 p h1 h2 h3 h4
theorem EInv.setO (I : EInv ms G0 H0 F env dr σ H) {i : Nat} {p : Addr} {d : D} (o : Own F H p d) (n : F p = none) (m : p ∉ ms) (z : H0 p = none) (new : ∀ j d', env[j]? = some (.ow d') → j ≠ i → σ[j]? ≠ some (some (.ref p))) :
    EInv ms G0 H0 F (env.set i (.ow d)) dr (σ.set i (some (.ref p))) H := by
  refine ⟨I.vw, I.af, by simp [I.len], fun j d' h => ?_, fun j d' h => ?_, fun j k d1 d2 q h1 h2 h3 h4 => ?_⟩
  · by_cases e : i = j
    · subst e
      have hl : i < env.length := by have := (List.getElem?_eq_some_iff.mp h).1; simpa using this
      rw [List.getElem?_set_self hl] at h
      cases h
    · rw [List.getElem?_set_ne e] at h ⊢
      exact I.fr j d' h
  · by_cases e : i = j
    · subst e
      have hl : i < env.length := by have := (List.getElem?_eq_some_iff.mp h).1; simpa using this
      rw [List.getElem?_set_self hl] at h
      cases h
      exact ⟨p, List.getElem?_set_self (by rw [I.len]; exact hl), o, n, m, z⟩
    · rw [List.getElem?_set_ne e] at h ⊢
      exact I.ow j d' h
  · by_cases e1 : i = j
    · by_cases e2 : i = k
      · exact e1.symm.trans e2
      · subst e1
        have hl : i < env.length := by have := (List.getElem?_eq_some_iff.mp h1).1; simpa using this
        rw [List.getElem?_set_self (by rw [I.len]; exact hl)] at h3
        cases h3
        rw [List.getElem?_set_ne e2] at h2 h4
        exact absurd h4 (new k d2 h2 (Ne.symm e2))
    · rw [List.getElem?_set_ne e1] at h1 h3
      by_cases e2 : i = k
      · subst e2
        have hl : i < env.length := by have := (List.getElem?_eq_some_iff.mp h2).1; simpa using this
        rw [List.getElem?_set_self (by rw [I.len]; exact hl)] at h4
        cases h4
        exact absurd h3 (new j d1 h1 (Ne.symm e1))
      · rw [List.getElem?_set_ne e2] at h2 h4
        exact I.di j k d1 d2 q h1 h2 h3 h4
/-- the object of slot i is written -/
theorem EInv.write (I : EInv ms G0 H0 F env dr σ H) {i : Nat} {p : Addr} {d d' : D} {o : HO} (h : env[i]? = some (.ow d)) (e : σ[i]? = some (some (.ref p))) (ow : Own F (upd H p o) p d') :
    EInv ms G0 H0 F (env.set i (.ow d')) dr σ (upd H p o) := by
  obtain ⟨p', e', o', n, m, z⟩ := I.ow i d h
  rw [e] at e'; cases e'
  have hl : i < env.length := (List.getElem?_eq_some_iff.mp h).1
  have np : ∀ a u, F a = some u → a ≠ p := fun a u q => ne_of_none q n
  refine ⟨⟨fun a u q => by rw [upd_ne (np a u q)]; exact I.vw.sub a u q, I.vw.off, I.vw.mem.same fun a ha => upd_ne fun q => m (by rw [← q]; exact ha)⟩,
    ⟨I.af.gr, I.af.nw, fun a u ha q => ?_, fun a q => ?_⟩, by simp [I.len], fun j x hj => ?_, fun j x hj => ?_, fun j k d1 d2 q h1 h2 h3 h4 => ?_⟩
  · rw [upd_ne (ne_of_none q z)]; exact I.af.kp a u ha q
  · by_cases ha : a = p
    · subst ha; rw [upd_same]; simp
    · rw [upd_ne ha]; exact I.af.ks a q
  · by_cases e2 : i = j
    · subst e2
      rw [List.getElem?_set_self hl] at hj
      cases hj
    · rw [List.getElem?_set_ne e2] at hj
      exact I.fr j x hj
  · by_cases e2 : i = j
    · subst e2
      rw [List.getElem?_set_self hl] at hj
      cases hj
      exact ⟨p, e, ow, n, m, z⟩
    · rw [List.getElem?_set_ne e2] at hj
      obtain ⟨q, e3, o3, n3, m3, z3⟩ := I.ow j x hj
      refine ⟨q, e3, o3.mono (fun _ _ y => y) fun u y => ?_, n3, m3, z3⟩
      rw [upd_ne (fun y => by subst y; exact e2 (I.di i j _ _ _ h hj e e3))]; exact y
  · have key : ∀ {j : Nat} {d : D}, (env.set i (Sl.ow d'))[j]? = some (Sl.ow d) → ∃ d : D, env[j]? = some (Sl.ow d) := fun {j d} hj => by
      by_cases e2 : i = j
      · subst e2; exact ⟨_, h⟩
      · rw [List.getElem?_set_ne e2] at hj; exact ⟨_, hj⟩
    obtain ⟨_, h1⟩ := key h1
    obtain ⟨_, h2⟩ := key h2
    exact I.di j k _ _ q h1 h2 h3 h4
/-- slot i is frozen -/
theorem EInv.freeze (I : EInv ms G0 H0 F env dr σ H) {i : Nat} {d : D} (h : env[i]? = some (.ow d)) : ∃ F', EInv ms G0 H0 F' (env.set i (.fr d)) dr σ H ∧ Sub F F' := by
  obtain ⟨p, e, o, n, m, z⟩ := I.ow i d h
  obtain ⟨u, hp, r⟩ := o.frz n
  have s : Sub F (upd F p u) := fun a x q => by rw [upd_ne (ne_of_none q n)]; exact q
  have hl : i < env.length := (List.getElem?_eq_some_iff.mp h).1
  refine ⟨upd F p u, ⟨⟨fun a x q => ?_, fun a ha => ?_, I.vw.mem⟩, ⟨fun a x q => s _ _ (I.af.gr a x q), fun a q g => ?_, I.af.kp, I.af.ks⟩, by simp [I.len], fun j x hj => ?_, fun j x hj => ?_, fun j k d1 d2 q h1 h2 h3 h4 => ?_⟩, s⟩
  · by_cases ha : a = p
    · subst ha; rw [upd_same] at q; cases q; exact hp
    · rw [upd_ne ha] at q; exact I.vw.sub a x q
  · rw [upd_ne fun q => m (by rw [← q]; exact ha)]; exact I.vw.off a ha
  · rw [upd_ne fun y => q (by rw [y]; exact z)]; exact I.af.nw a q g
  · by_cases e2 : i = j
    · subst e2
      rw [List.getElem?_set_self hl] at hj
      cases hj
      exact ⟨_, e, r⟩
    · rw [List.getElem?_set_ne e2] at hj
      obtain ⟨v, e3, r3⟩ := I.fr j x hj
      exact ⟨v, e3, Rep.mono s _ r3⟩
  · by_cases e2 : i = j
    · subst e2
      rw [List.getElem?_set_self hl] at hj
      cases hj
    · rw [List.getElem?_set_ne e2] at hj
      obtain ⟨q, e3, o3, n3, m3, z3⟩ := I.ow j x hj
      refine ⟨q, e3, o3.mono s fun _ y => y, ?_, m3, z3⟩
      rw [upd_ne (fun y => by subst y; exact e2 (I.di i j _ _ _ h hj e e3))]; exact n3
  · have key : ∀ {j : Nat} {d0 : D}, (env.set i (Sl.fr d))[j]? = some (Sl.ow d0) → env[j]? = some (Sl.ow d0) := fun {j d0} hj => by
      by_cases e2 : i = j
      · subst e2
        rw [List.getElem?_set_self hl] at hj
        cases hj
      · rw [List.getElem?_set_ne e2] at hj; exact hj
    exact I.di j k d1 d2 q (key h1) (key h2) h3 h4
end inv

mutual
/-- what holds no list and no dict: it never bears what is owned -/
def isSc : D → Bool
  | .non => true
  | .bl _ => true
  | .int _ => true
  | .str _ => true
  | .tok _ => true
  | .tup xs => isScL xs
  | .lst _ => false
  | .dic _ _ => false
  | .dit _ _ => false
def isScL : List D → Bool
  | [] => true
  | x :: xs => isSc x && isScL xs
end
mutual
theorem rep_sc {G G' : Hp} (k : ∀ a xs, G a = some (.tup xs) → G' a = some (.tup xs)) : ∀ {v : V} (d : D), isSc d = true → Rep G v d → Rep G' v d
  | v, .non, _, h => by simp only [Rep] at h ⊢; exact h
  | v, .bl _, _, h => by simp only [Rep] at h ⊢; exact h
  | v, .int _, _, h => by simp only [Rep] at h ⊢; exact h
  | v, .str _, _, h => by simp only [Rep] at h ⊢; exact h
  | v, .tok _, _, h => by simp only [Rep] at h ⊢; exact h
  | v, .lst _, h, _ => by simp [isSc] at h
  | v, .dic _ _, h, _ => by simp [isSc] at h
  | v, .dit _ _, h, _ => by simp [isSc] at h
  | v, .tup ds, c, h => by
    simp only [Rep] at h ⊢
    obtain ⟨a, vs, e, q, r⟩ := h
    exact ⟨a, vs, e, k a vs q, rep_scL k ds (by simpa [isSc] using c) r⟩
theorem rep_scL {G G' : Hp} (k : ∀ a xs, G a = some (.tup xs) → G' a = some (.tup xs)) : ∀ {vs : List V} (ds : List D), isScL ds = true → RepL G vs ds → RepL G' vs ds
  | vs, [], _, h => by rw [h.inv0]; exact .nil
  | vs, d :: ds, c, h => by
    obtain ⟨v, r, rfl, h1, h2⟩ := h.inv
    simp only [isScL, Bool.and_eq_true] at c
    exact .cons (rep_sc k d c.1 h1) (rep_scL k ds c.2 h2)
end
theorem Own.notTup {F H : Hp} {p : Addr} {xs : List V} : ∀ {d : D}, Own F H p d → H p ≠ some (.tup xs)
  | .lst ds, ⟨vs, e, _⟩, h => by rw [e] at h; cases h
  | .dic ks ds, ⟨vs, e, _⟩, h => by rw [e] at h; cases h
  | .dit ks ds, ⟨vs, e, _⟩, h => by rw [e] at h; cases h
open Classical in
/-- the view without what is owned -/
noncomputable def Cut (env : List Sl) (σ : L2.St) (G' : Hp) : Hp := fun a => if ∃ (i : Nat) (d : D), env[i]? = some (.ow d) ∧ σ[i]? = some (some (.ref a)) then none else G' a
/-- behind an expression in the wide view, of which what holds no list may be kept -/
theorem EInv.stepC {ms : List Addr} {G0 H0 F H H' G' : Hp} {env : List Sl} {dr dr' : Dr} {σ : L2.St} (I : EInv ms G0 H0 F env dr σ H) (a : Aft ms (Pk F env σ H) H G' H') (w : Vw ms dr' G' H') :
    EInv ms G0 H0 (Cut env σ G') env dr' σ H' ∧ Sub F (Cut env σ G') ∧ ∀ {v : V} {d : D}, isSc d = true → Rep G' v d → Rep (Cut env σ G') v d := by
  have out : ∀ b, (∃ (i : Nat) (d : D), env[i]? = some (.ow d) ∧ σ[i]? = some (some (.ref b))) → F b = none ∧ (∀ xs, G' b ≠ some (.tup xs)) := by
    rintro b ⟨i, d, e1, e2⟩
    obtain ⟨p, e3, o, n, m, z⟩ := I.ow i d e1
    rw [e2] at e3; cases e3
    refine ⟨n, fun xs h => ?_⟩
    cases hb : H b with
    | none => exact o.there hb
    | some u =>
      have h1 := a.kp b u m hb
      rw [w.sub b _ h] at h1
      cases h1
      exact o.notTup hb
  have sub : Sub F (Cut env σ G') := fun b o h => by
    unfold Cut
    rw [if_neg fun q => by rw [(out b q).1] at h; cases h]
    exact a.gr b o (Pk.sub b o h)
  refine ⟨I.step ⟨sub, fun b hb hF => ?_, a.kp, a.ks⟩ ⟨fun b o h => ?_, fun b hb => ?_, w.mem⟩, sub, fun {v d} hs r => rep_sc (fun b xs h => ?_) d hs r⟩
  · unfold Cut
    split
    · rfl
    · rename_i hn
      refine a.nw b hb ?_
      unfold Pk
      rw [hF]
      simp only
      rw [if_neg hn]
  · unfold Cut at h
    split at h
    · cases h
    · exact w.sub b o h
  · unfold Cut
    split
    · rfl
    · exact w.off b hb
  · unfold Cut
    rw [if_neg fun q => (out b q).2 xs h]
    exact h
def sNop : SDn := fun env dr => some (.nx env, dr)
def sSeq (g h : SDn) : SDn := fun env dr => match g env dr with
  | some (.nx e, d) => h e d
  | r => r
def sIf (c : TDn) (g h : SDn) : SDn := fun env dr => (c (pk env) dr).bind fun p => if p.1 = true then g env p.2 else h env p.2
def sRet (f : ED) : SDn := fun env dr => (f (frz env) dr).bind fun p => some (.rt p.1, p.2)
def sRetP (f : ED) : SDn := fun env dr => (f (pk env) dr).bind fun p => if isSc p.1 = true then some (.rt p.1, p.2) else none
def sSet (i : Nat) (f : ED) : SDn := fun env dr => (f (frz env) dr).bind fun p => some (.nx (env.set i (.fr p.1)), p.2)
def sSetP (i : Nat) (f : ED) : SDn := fun env dr => (f (pk env) dr).bind fun p => if isSc p.1 = true then some (.nx (env.set i (.fr p.1)), p.2) else none
def sSetO (i : Nat) (f : ED) : SDn := fun env dr => (f (frz env) dr).bind fun p => some (.nx (env.set i (.ow p.1)), p.2)
def sFrz (i : Nat) (g : SDn) : SDn := fun env dr => match env[i]? with
  | some (.ow d) => g (env.set i (.fr d)) dr
  | _ => none
def sApp (i : Nat) (f : ED) : SDn := fun env dr => match env[i]? with
  | some (.ow (.lst ds)) => (f (frz env) dr).bind fun p => if ds.length < sizeLine then some (.nx (env.set i (.ow (.lst (ds ++ [p.1])))), p.2) else none
  | _ => none
def sAppP (i : Nat) (f : ED) : SDn := fun env dr => match env[i]? with
  | some (.ow (.lst ds)) => (f (pk env) dr).bind fun p => if isSc p.1 = true ∧ ds.length < sizeLine then some (.nx (env.set i (.ow (.lst (ds ++ [p.1])))), p.2) else none
  | _ => none
/-- x[i] = v, x owned; both are read in the wide view, v is none that is kept in the heap -/
def sPutP (i : Nat) (fv fi : ED) : SDn := fun env dr => match env[i]? with
  | some (.ow (.lst ds)) => (fv (pk env) dr).bind fun p => (fi (pk env) p.2).bind fun q => match q.1 with
    | .int k => if isSc p.1 = true then (ixN ds.length k).bind fun j => some (.nx (env.set i (.ow (.lst (ds.set j p.1)))), q.2) else none
    | _ => none
  | _ => none
def sPut (i : Nat) (fv fi : ED) : SDn := fun env dr => match env[i]? with
  | some (.ow (.lst ds)) => (fv (frz env) dr).bind fun p => (fi (pk env) p.2).bind fun q => match q.1 with
    | .int k => (ixN ds.length k).bind fun j => some (.nx (env.set i (.ow (.lst (ds.set j p.1)))), q.2)
    | _ => none
  | _ => none
/-- a fresh list -/
def tF (ms : List Addr) (f : ED) : TE := fun σ H Q => ∃ G ρ dr d dr', Vw ms dr G H ∧ RepE G ρ σ ∧ f ρ dr = some (d, dr') ∧
  ∀ p G' H', Own G' H' p d → Aft ms G H G' H' → Vw ms dr' G' H' → G' p = none → H p = none → Q (.ref p) H'
def PFd (X : Cx) (ms : List Addr) (e : Expr) (f : ED) : Prop := PE X e (tF ms f)

section stm
variable {X : Cx} {ms : List Addr} {G0 H0 : Hp} {st : Stmt} {rest sts : List Stmt} {g h : SDn} {e a b c : Expr} {f f' : ED} {fc : TDn} {pos : Pos}
theorem pssd_nil : PSsd X ms G0 H0 [] sNop := pss_imp pss_nil fun D σ H ⟨F, env, dr, I, q⟩ => q F σ H I fun _ _ z => z
theorem seq_post {D : Ends} {σ : L2.St} {H : Hp} (q : tS ms G0 H0 (sSeq g h) D σ H) : tSeq (tS ms G0 H0 g) (tS ms G0 H0 h) D σ H := by
  obtain ⟨F, env, dr, I, q⟩ := q
  refine ⟨F, env, dr, I, ?_⟩
  unfold sSeq at q
  cases e : g env dr with
  | none => rw [e] at q; exact q
  | some r =>
    rw [e] at q
    obtain ⟨fl, d⟩ := r
    cases fl with
    | nx e1 => exact fun F' σ' H' I' s => ⟨F', e1, d, I', Post.sub s q⟩
    | bk e1 => exact q
    | ct e1 => exact q
    | rt e1 => exact q
theorem pssd_cons (h1 : PSd X ms G0 H0 st g) (h2 : PSsd X ms G0 H0 rest h) : PSsd X ms G0 H0 (st :: rest) (sSeq g h) := pss_imp (pss_cons h1 h2) fun _ _ _ q => seq_post q
theorem pssd_one (h1 : PSd X ms G0 H0 st g) : PSsd X ms G0 H0 [st] g := pss_one h1
theorem psd_pass : PSd X ms G0 H0 (.Pass pos) sNop := ps_imp ps_pass fun D σ H ⟨F, env, dr, I, q⟩ => q F σ H I fun _ _ z => z
theorem psd_break : PSd X ms G0 H0 (.Break pos) (fun env dr => some (.bk env, dr)) := ps_imp ps_break fun D σ H ⟨F, env, dr, I, q⟩ => q F σ H I fun _ _ z => z
theorem psd_continue : PSd X ms G0 H0 (.Continue pos) (fun env dr => some (.ct env, dr)) := ps_imp ps_continue fun D σ H ⟨F, env, dr, I, q⟩ => q F σ H I fun _ _ z => z
theorem pssd_frz (i : Nat) (h1 : PSsd X ms G0 H0 sts g) : PSsd X ms G0 H0 sts (sFrz i g) := pss_imp h1 fun D σ H ⟨F, env, dr, I, q⟩ => by
  unfold sFrz at q
  split at q
  · rename_i d hd
    obtain ⟨F', I', s⟩ := I.freeze hd
    exact ⟨F', _, dr, I', Post.sub s q⟩
  · exact q.elim
theorem psd_frz (i : Nat) (h1 : PSd X ms G0 H0 st g) : PSd X ms G0 H0 st (sFrz i g) := ps_imp h1 fun D σ H ⟨F, env, dr, I, q⟩ => by
  unfold sFrz at q
  split at q
  · rename_i d hd
    obtain ⟨F', I', s⟩ := I.freeze hd
    exact ⟨F', _, dr, I', Post.sub s q⟩
  · exact q.elim
theorem psd_if {ss tt : List Stmt} (hc : PTd X ms c fc) (ha : PSsd X ms G0 H0 ss g) (hb : PSsd X ms G0 H0 tt h) : PSd X ms G0 H0 (.If c ss tt pos) (sIf fc g h) := by
  refine ps_imp (ps_if hc ha hb) fun D σ H ⟨F, env, dr, I, q⟩ => ?_
  unfold sIf at q
  cases e1 : fc (pk env) dr with
  | none => rw [e1] at q; exact q.elim
  | some r =>
    rw [e1] at q
    obtain ⟨b, d⟩ := r
    simp only [Option.bind_some] at q
    refine ⟨_, pk env, dr, b, d, I.pkV, I.pkE, e1, fun G' H' a' w' => ?_⟩
    have I' := I.stepP a' w'
    cases b with
    | true =>
      show if true = true then tS ms G0 H0 g D σ H' else tS ms G0 H0 h D σ H'
      rw [if_pos rfl] at q ⊢
      exact ⟨F, env, d, I', q⟩
    | false =>
      show if false = true then tS ms G0 H0 g D σ H' else tS ms G0 H0 h D σ H'
      rw [if_neg Bool.false_ne_true] at q ⊢
      exact ⟨F, env, d, I', q⟩
theorem psd_ret (he : PEd X ms e f) : PSd X ms G0 H0 (.Return (some e) pos) (sRet f) := by
  refine ps_imp (ps_ret he) fun D σ H ⟨F, env, dr, I, q⟩ => ?_
  unfold sRet at q
  cases e1 : f (frz env) dr with
  | none => rw [e1] at q; exact q.elim
  | some r =>
    rw [e1] at q
    exact ⟨F, frz env, dr, r.1, r.2, I.vw, I.repF, e1, fun v G' H' r' a' w' => q v G' H' r' (I.af.trans a') w'⟩
theorem psd_retP (he : PEd X ms e f) : PSd X ms G0 H0 (.Return (some e) pos) (sRetP f) := by
  refine ps_imp (ps_ret he) fun D σ H ⟨F, env, dr, I, q⟩ => ?_
  unfold sRetP at q
  cases e1 : f (pk env) dr with
  | none => rw [e1] at q; exact q.elim
  | some r =>
    rw [e1] at q
    simp only [Option.bind_some] at q
    split at q
    · rename_i hs
      refine ⟨_, pk env, dr, r.1, r.2, I.pkV, I.pkE, e1, fun v G' H' r' a' w' => ?_⟩
      obtain ⟨I', _, kp⟩ := I.stepC a' w'
      exact q v _ H' (kp hs r') I'.af I'.vw
    · exact q.elim
theorem psd_retN : PSd X ms G0 H0 (.Return none pos) (fun _ dr => some (.rt .non, dr)) := by
  refine ps_imp ps_retN fun D σ H ⟨F, env, dr, I, q⟩ => ?_
  exact q .non F H rep_non I.af I.vw
theorem set_post {i : Nat} {D : Ends} {σ : L2.St} {H : Hp} (q : tS ms G0 H0 (sSet i f) D σ H) : tAsg (tD ms f) (gName i) D σ H := by
  obtain ⟨F, env, dr, I, q⟩ := q
  unfold sSet at q
  cases e1 : f (frz env) dr with
  | none => rw [e1] at q; exact q.elim
  | some r =>
    rw [e1] at q
    refine ⟨F, frz env, dr, r.1, r.2, I.vw, I.repF, e1, fun v G' H' r' a' w' => ?_⟩
    exact q G' _ H' ((I.step a' w').setF r') a'.gr
theorem setP_post {i : Nat} {D : Ends} {σ : L2.St} {H : Hp} (q : tS ms G0 H0 (sSetP i f) D σ H) : tAsg (tD ms f) (gName i) D σ H := by
  obtain ⟨F, env, dr, I, q⟩ := q
  unfold sSetP at q
  cases e1 : f (pk env) dr with
  | none => rw [e1] at q; exact q.elim
  | some r =>
    rw [e1] at q
    simp only [Option.bind_some] at q
    split at q
    · rename_i hs
      refine ⟨_, pk env, dr, r.1, r.2, I.pkV, I.pkE, e1, fun v G' H' r' a' w' => ?_⟩
      obtain ⟨I', sb, kp⟩ := I.stepC a' w'
      exact q _ _ H' (I'.setF (kp hs r')) sb
    · exact q.elim
theorem setO_post {i : Nat} {D : Ends} {σ : L2.St} {H : Hp} (q : tS ms G0 H0 (sSetO i f) D σ H) : tAsg (tF ms f) (gName i) D σ H := by
  obtain ⟨F, env, dr, I, q⟩ := q
  unfold sSetO at q
  cases e1 : f (frz env) dr with
  | none => rw [e1] at q; exact q.elim
  | some r =>
    rw [e1] at q
    refine ⟨F, frz env, dr, r.1, r.2, I.vw, I.repF, e1, fun p G' H' o' a' w' n' z' => ?_⟩
    have I' := I.step a' w'
    refine q G' _ H' (I'.setO o' n' (I.vw.ne z') ?_ fun j d' hj _ hp => ?_) a'.gr
    · cases e0 : H0 p with
      | none => rfl
      | some u => exact absurd z' (I.af.ks p (by rw [e0]; simp))
    · obtain ⟨q', e', o2, _⟩ := I.ow j d' hj
      rw [hp] at e'
      cases e'
      exact o2.there z'
variable {x : Str} {pos' : Pos} {i : Nat}
theorem psd_set (hN : X.N.Nodup) (he : PEd X ms e f) (hi : X.N[i]? = some x := by rfl) (hx : Loc X.env.scope x := by first | exact Or.inl rfl | exact Or.inr rfl) (hs : swapsWith e (some (.Name x pos')) pos.line X.env = pure false := by rfl)
    (hf : X.fn x = true ∨ X.env.scope.names.lookup x = some .local := by first | exact .inl rfl | exact .inr rfl | assumption) : PSd X ms G0 H0 (.Assign [.Name x pos'] e pos) (sSet i f) :=
  ps_imp (ps_set hN hi hx he hs hf) fun _ _ _ q => set_post q
theorem psd_setP (hN : X.N.Nodup) (he : PEd X ms e f) (hi : X.N[i]? = some x := by rfl) (hx : Loc X.env.scope x := by first | exact Or.inl rfl | exact Or.inr rfl) (hs : swapsWith e (some (.Name x pos')) pos.line X.env = pure false := by rfl)
    (hf : X.fn x = true ∨ X.env.scope.names.lookup x = some .local := by first | exact .inl rfl | exact .inr rfl | assumption) : PSd X ms G0 H0 (.Assign [.Name x pos'] e pos) (sSetP i f) :=
  ps_imp (ps_set hN hi hx he hs hf) fun _ _ _ q => setP_post q
theorem psd_setO (hN : X.N.Nodup) (he : PFd X ms e f) (hi : X.N[i]? = some x := by rfl) (hx : Loc X.env.scope x := by first | exact Or.inl rfl | exact Or.inr rfl) (hs : swapsWith e (some (.Name x pos')) pos.line X.env = pure false := by rfl)
    (hf : X.fn x = true ∨ X.env.scope.names.lookup x = some .local := by first | exact .inl rfl | exact .inr rfl | assumption) : PSd X ms G0 H0 (.Assign [.Name x pos'] e pos) (sSetO i f) :=
  ps_imp (ps_set hN hi hx he hs hf) fun _ _ _ q => setO_post q
end stm
end Dk

set_option maxRecDepth 100000
namespace Dk
open PySem PySem.Spec PyProof.Rows L2

/-! ### what is walked -/
structure ItD (ms : List Addr) (J : It) (G : Hp) (ds : List D) : Prop where
  go : ∀ (i : Nat) H, Sub G H → i < ds.length → J.go i H
  stop : ∀ (i : Nat) H, Sub G H → ds.length ≤ i → J.stop i H
  yld : ∀ (i : Nat) d H x H', Sub G H → ds[i]? = some d → J.yld i H x H' → ∀ G2 dr2, Vw ms dr2 G2 H → Sub G G2 → ∃ G3, Rep G3 x d ∧ Aft ms G2 H G3 H' ∧ Vw ms dr2 G3 H'
def tI (ms : List Addr) (f : AD) : TI := fun σ H R => ∃ G ρ dr ds dr', Vw ms dr G H ∧ RepE G ρ σ ∧ f ρ dr = some (ds, dr') ∧
  ∀ J G' H', ItD ms J G' ds → Aft ms G H G' H' → Vw ms dr' G' H' → R J H'
def PId (X : Cx) (ms : List Addr) (tg iter : Expr) (f : AD) : Prop := PI X tg iter (tI ms f)
theorem pi_imp {X : Cx} {tg iter : Expr} {t t' : TI} (h : PI X tg iter t) (i : ∀ σ H R, t' σ H R → t σ H R) : PI X tg iter t' := ⟨fun pins s σ H R I hw => h.run pins s σ H R I (i σ H R hw)⟩
def aSeq (f : ED) : AD := fun ρ dr => (f ρ dr).bind fun p => match p.1 with
  | .lst ds => some (ds, p.2)
  | _ => none
def aSeqT (f : ED) : AD := fun ρ dr => (f ρ dr).bind fun p => match p.1 with
  | .tup ds => some (ds, p.2)
  | _ => none
def rgD (lo : Int) (n : Nat) : List D := (List.range n).map fun (k : Nat) => D.int (lo + (k : Int))
theorem rgD_length (lo : Int) (n : Nat) : (rgD lo n).length = n := by simp [rgD]
theorem rgD_get (lo : Int) {n i : Nat} (h : i < n) : (rgD lo n)[i]? = some (.int (lo + (i : Int))) := by simp [rgD, h]
def okR (i j : Int) : Prop := -(2 ^ 62) ≤ i ∧ i < 2 ^ 62 ∧ -(2 ^ 62) ≤ j ∧ j < 2 ^ 62
instance (i j : Int) : Decidable (okR i j) := by unfold okR; exact inferInstance
def aRg1 (f : AD) : AD := fun ρ dr => (f ρ dr).bind fun p => match p.1 with
  | [.int j] => if okR 0 j then some (rgD 0 j.toNat, p.2) else none
  | _ => none
def aRg2 (f : AD) : AD := fun ρ dr => (f ρ dr).bind fun p => match p.1 with
  | [.int i, .int j] => if okR i j then some (rgD i (j - i).toNat, p.2) else none
  | _ => none
def enD (k : Nat) : List D → List D
  | [] => []
  | d :: ds => .tup [.int k, d] :: enD (k + 1) ds
theorem enD_length : ∀ (ds : List D) (k : Nat), (enD k ds).length = ds.length
  | [], _ => rfl
  | _ :: ds, k => by simp [enD, enD_length ds]
theorem enD_get : ∀ (ds : List D) (k i : Nat) {d : D}, (enD k ds)[i]? = some d → ∃ d', ds[i]? = some d' ∧ d = .tup [.int ((k + i : Nat) : Int), d']
  | [], _, _, _, h => by simp [enD] at h
  | d0 :: ds, k, 0, d, h => by simp [enD] at h; exact ⟨d0, rfl, by rw [← h]; simp⟩
  | d0 :: ds, k, i + 1, d, h => by
    simp [enD] at h
    obtain ⟨d', h1, h2⟩ := enD_get ds (k + 1) i h
    exact ⟨d', by simpa using h1, by rw [h2, show k + 1 + i = k + (i + 1) by omega]⟩
def aEn (f : AD) : AD := fun ρ dr => (f ρ dr).bind fun p => match p.1 with
  | [.lst ds] => some (enD 0 ds, p.2)
  | _ => none
def zipD (xs ys : List D) : List D := (xs.zip ys).map fun p => .tup [p.1, p.2]
def aZip (f : AD) : AD := fun ρ dr => (f ρ dr).bind fun p => match p.1 with
  | [.lst xs, .lst ys] => some (zipD xs ys, p.2)
  | _ => none
section iters
variable {X : Cx} {ms : List Addr} {tg e e2 : Expr} {f : ED} {fs : AD} {p pos : Pos}
theorem pid_list (he : PEd X ms e f) : PId X ms tg e (aSeq f) := by
  refine pi_imp (pi_list he) fun σ H R ⟨G, ρ, dr, ds, dr', w, r, h, k⟩ => ?_
  simp only [aSeq, Option.bind_eq_some_iff] at h
  obtain ⟨⟨d, dr1⟩, h1, h2⟩ := h
  split at h2
  · rename_i ds' hd
    simp only at hd
    subst hd
    cases h2
    refine ⟨G, ρ, dr, _, _, w, r, h1, fun v G' H' q a w' => ?_⟩
    obtain ⟨l, vs, rfl, e1, r1⟩ := q.lst
    refine ⟨l, rfl, ⟨vs, .of (w'.sub _ _ e1)⟩, k _ G' H' ⟨fun i H s hi => ?_, fun i H s hi => ?_, fun i d H x H2 s hd y G2 dr2 w2 s2 => ?_⟩ a w'⟩
    · obtain ⟨v, e2, _⟩ := r1.get (List.getElem?_eq_getElem hi)
      exact ⟨vs, v, .of (s _ _ e1), e2⟩
    · exact ⟨vs, .of (s _ _ e1), by rw [r1.length]; exact hi⟩
    · obtain ⟨rfl, y⟩ := y
      obtain ⟨v, e2, r2⟩ := r1.get hd
      have := y vs (.of (s _ _ e1))
      rw [e2] at this; cases this
      exact ⟨G2, Rep.mono s2 _ r2, .refl, w2⟩
  · cases h2
theorem pid_tup (he : PEd X ms e f) : PId X ms tg e (aSeqT f) := by
  refine pi_imp (pi_tup he) fun σ H R ⟨G, ρ, dr, ds, dr', w, r, h, k⟩ => ?_
  simp only [aSeqT, Option.bind_eq_some_iff] at h
  obtain ⟨⟨d, dr1⟩, h1, h2⟩ := h
  split at h2
  · rename_i ds' hd
    simp only at hd
    subst hd
    cases h2
    refine ⟨G, ρ, dr, _, _, w, r, h1, fun v G' H' q a w' => ?_⟩
    obtain ⟨l, vs, rfl, e1, r1⟩ := q.tup
    refine ⟨l, rfl, ⟨vs, .of (w'.sub _ _ e1)⟩, k _ G' H' ⟨fun i H s hi => ?_, fun i H s hi => ?_, fun i d H x H2 s hd y G2 dr2 w2 s2 => ?_⟩ a w'⟩
    · obtain ⟨v, e2, _⟩ := r1.get (List.getElem?_eq_getElem hi)
      exact ⟨vs, v, .of (s _ _ e1), e2⟩
    · exact ⟨vs, .of (s _ _ e1), by rw [r1.length]; exact hi⟩
    · obtain ⟨rfl, y⟩ := y
      obtain ⟨v, e2, r2⟩ := r1.get hd
      have := y vs (.of (s _ _ e1))
      rw [e2] at this; cases this
      exact ⟨G2, Rep.mono s2 _ r2, .refl, w2⟩
  · cases h2
theorem itr_d (lo : Int) (n : Nat) {G : Hp} : ItD ms (Itr lo n) G (rgD lo n) :=
  ⟨fun i H _ hi => by rw [rgD_length] at hi; exact hi, fun i H _ hi => by rw [rgD_length] at hi; exact hi, fun i d H x H' _ hd y G2 dr2 w2 s2 => by
    obtain ⟨rfl, rfl⟩ := y
    have hi : i < n := by have := (List.getElem?_eq_some_iff.mp hd).1; rw [rgD_length] at this; exact this
    rw [rgD_get lo hi] at hd
    cases hd
    exact ⟨G2, rep_int, .refl, w2⟩⟩
theorem pid_range1 {a : Expr} (hm : X.mg "range" = none) (ha : PAd X ms [a] fs) (hg : Gl X "range" := by rfl) (hs : starEach [a] X.env = [(false, eval a X.env)] := by rfl) : PId X ms tg (.Call (.Name "range" p) [a] [] pos) (aRg1 fs) := by
  refine pi_imp (pi_range1 hg hm ha hs) fun σ H R ⟨G, ρ, dr, ds, dr', w, r, h, k⟩ => ?_
  simp only [aRg1, Option.bind_eq_some_iff] at h
  obtain ⟨⟨d, dr1⟩, h1, h2⟩ := h
  split at h2
  · rename_i j hd
    simp only at hd
    subst hd
    split at h2
    · rename_i ok
      cases h2
      refine ⟨G, ρ, dr, _, _, w, r, h1, fun vs G' H' q a w' => ?_⟩
      obtain ⟨v, rfl, q1⟩ := q.one
      rw [q1.int]
      exact ⟨j, rfl, ok.2.2.1, ok.2.2.2, k _ G' H' (itr_d 0 _) a w'⟩
    · cases h2
  · cases h2
theorem pid_range2 {a b : Expr} (hm : X.mg "range" = none) (ha : PAd X ms [a, b] fs) (hg : Gl X "range" := by rfl) (hs : starEach [a, b] X.env = [(false, eval a X.env), (false, eval b X.env)] := by rfl) (hs2 : starEach [b] X.env = [(false, eval b X.env)] := by rfl) : PId X ms tg (.Call (.Name "range" p) [a, b] [] pos) (aRg2 fs) := by
  refine pi_imp (pi_range2 hg hm ha hs hs2) fun σ H R ⟨G, ρ, dr, ds, dr', w, r, h, k⟩ => ?_
  simp only [aRg2, Option.bind_eq_some_iff] at h
  obtain ⟨⟨d, dr1⟩, h1, h2⟩ := h
  split at h2
  · rename_i i j hd
    simp only at hd
    subst hd
    split at h2
    · rename_i ok
      cases h2
      refine ⟨G, ρ, dr, _, _, w, r, h1, fun vs G' H' q a w' => ?_⟩
      obtain ⟨v, u, rfl, q1, q2⟩ := q.two
      rw [q1.int, q2.int]
      exact ⟨i, j, rfl, ok, k _ G' H' (itr_d i _) a w'⟩
    · cases h2
  · cases h2
theorem pid_enum {elts : List Expr} {kk : Nat} {tpos : Pos} (hm : X.mg "enumerate" = none) (ha : PAd X ms [e] fs) (hg : Gl X "enumerate" := by rfl) (hs : starEach [e] X.env = [(false, eval e X.env)] := by rfl) :
    PId X ms (.Tuple elts kk tpos) (.Call (.Name "enumerate" p) [e] [] pos) (aEn fs) := by
  refine pi_imp (pi_enum hg hm ha hs) fun σ H R ⟨G, ρ, dr, ds, dr', w, r, h, k⟩ => ?_
  simp only [aEn, Option.bind_eq_some_iff] at h
  obtain ⟨⟨d, dr1⟩, h1, h2⟩ := h
  split at h2
  · rename_i ds' hd
    simp only at hd
    subst hd
    cases h2
    refine ⟨G, ρ, dr, _, _, w, r, h1, fun vs0 G' H' q a w' => ?_⟩
    obtain ⟨v, rfl, q1⟩ := q.one
    obtain ⟨l, vs, rfl, e1, r1⟩ := q1.lst
    refine ⟨l, vs, rfl, .of (w'.sub _ _ e1), k _ G' H' ⟨fun i H s hi => ?_, fun i H s hi => ?_, fun i d H x H2 s hd y G2 dr2 w2 s2 => ?_⟩ a w'⟩
    · rw [enD_length] at hi
      obtain ⟨v, e2, _⟩ := r1.get (List.getElem?_eq_getElem hi)
      exact ⟨vs, v, .of (s _ _ e1), e2⟩
    · rw [enD_length] at hi
      exact ⟨vs, .of (s _ _ e1), by rw [r1.length]; exact hi⟩
    · obtain ⟨T, z, rfl, nT, rfl, y⟩ := y
      obtain ⟨d', hd', rfl⟩ := enD_get _ _ _ hd
      obtain ⟨v, e2, r2⟩ := r1.get hd'
      have := y vs (.of (s _ _ e1))
      rw [e2] at this; cases this
      refine ⟨upd G2 T (.tup [.int (i : Nat), z]), rep_newT w2 nT (.cons ?_ (.cons (Rep.mono s2 _ r2) .nil)), .alloc w2 nT _, w2.alloc nT _⟩
      simp only [Rep, Nat.zero_add]
  · cases h2
theorem zipD_length (xs ys : List D) : (zipD xs ys).length = min xs.length ys.length := by simp [zipD]
theorem zipD_get {xs ys : List D} {i : Nat} {d : D} (h : (zipD xs ys)[i]? = some d) : ∃ x y, xs[i]? = some x ∧ ys[i]? = some y ∧ d = .tup [x, y] := by
  simp only [zipD, List.getElem?_map, Option.map_eq_some_iff] at h
  obtain ⟨⟨x, y⟩, h1, rfl⟩ := h
  rw [List.getElem?_zip_eq_some] at h1
  exact ⟨x, y, h1.1, h1.2, rfl⟩
theorem pid_zip {elts : List Expr} {kk : Nat} {tpos : Pos} (hm : X.mg "zip" = none) (ha : PAd X ms [e, e2] fs) (hg : Gl X "zip" := by rfl) (hs : starEach [e, e2] X.env = (false, eval e X.env) :: starEach [e2] X.env := by rfl) (hpl : (backTo pos (starEach [e2] X.env)).any (·.1) = false := by rfl) :
    PId X ms (.Tuple elts kk tpos) (.Call (.Name "zip" p) [e, e2] [] pos) (aZip fs) := by
  refine pi_imp (pi_zip hg hm ha hs hpl) fun σ H R ⟨G, ρ, dr, ds, dr', w, r, h, k⟩ => ?_
  simp only [aZip, Option.bind_eq_some_iff] at h
  obtain ⟨⟨d, dr1⟩, h1, h2⟩ := h
  split at h2
  · rename_i xs ys hd
    simp only at hd
    subst hd
    cases h2
    refine ⟨G, ρ, dr, _, _, w, r, h1, fun vs0 G' H' q a w' => ?_⟩
    obtain ⟨v, u, rfl, q1, q2⟩ := q.two
    obtain ⟨l, vs, rfl, e1, r1⟩ := q1.lst
    obtain ⟨l2, us, rfl, e2, r2⟩ := q2.lst
    refine ⟨l, l2, vs, us, rfl, .of (w'.sub _ _ e1), .of (w'.sub _ _ e2), k _ G' H' ⟨fun i H s hi => ?_, fun i H s hi => ?_, fun i d H x H2 s hd y G2 dr2 w2 s2 => ?_⟩ a w'⟩
    · rw [zipD_length] at hi
      have i1 : i < xs.length := by omega
      have i2 : i < ys.length := by omega
      obtain ⟨v, z1, _⟩ := r1.get (List.getElem?_eq_getElem i1)
      obtain ⟨u, z2, _⟩ := r2.get (List.getElem?_eq_getElem i2)
      exact ⟨vs, us, v, u, .of (s _ _ e1), .of (s _ _ e2), z1, z2⟩
    · rw [zipD_length] at hi
      refine ⟨vs, us, .of (s _ _ e1), .of (s _ _ e2), ?_⟩
      rw [r1.length, r2.length]
      omega
    · obtain ⟨T, z, z', rfl, nT, rfl, y1, y2⟩ := y
      obtain ⟨x', y', g1, g2, rfl⟩ := zipD_get hd
      obtain ⟨v, z1, t1⟩ := r1.get g1
      obtain ⟨u, z2, t2⟩ := r2.get g2
      have := y1 vs (.of (s _ _ e1))
      rw [z1] at this; cases this
      have := y2 us (.of (s _ _ e2))
      rw [z2] at this; cases this
      exact ⟨upd G2 T (.tup [z, z']), rep_newT w2 nT (.cons (Rep.mono s2 _ t1) (.cons (Rep.mono s2 _ t2) .nil)), .alloc w2 nT _, w2.alloc nT _⟩
  · cases h2
end iters

/-! ### targets of a statement -/
abbrev TgD := D → List Sl → Option (List Sl)
def tG (ms : List Addr) (G0 H0 : Hp) (t : TgD) : TG := fun v σ H Q => ∃ F env dr d env', EInv ms G0 H0 F env dr σ H ∧ Rep F v d ∧ t d env = some env' ∧ ∀ σ', EInv ms G0 H0 F env' dr σ' H → Q σ' H
def tGs (ms : List Addr) (G0 H0 : Hp) (t : List D → List Sl → Option (List Sl)) : TGs := fun vs σ H Q => ∃ F env dr ds env', EInv ms G0 H0 F env dr σ H ∧ RepL F vs ds ∧ t ds env = some env' ∧ ∀ σ', EInv ms G0 H0 F env' dr σ' H → Q σ' H
def PGd (X : Cx) (ms : List Addr) (G0 H0 : Hp) (tg : Expr) (t : TgD) : Prop := PG X tg (tG ms G0 H0 t)
def PGsd (X : Cx) (ms : List Addr) (G0 H0 : Hp) (tg : List Expr) (t : List D → List Sl → Option (List Sl)) : Prop := PGs X tg (tGs ms G0 H0 t)
theorem pg_imp {X : Cx} {tg : Expr} {t t' : TG} (h : PG X tg t) (i : ∀ v σ H Q, t' v σ H Q → t v σ H Q) : PG X tg t' := ⟨fun pins s σ H v u Q I r hw => h.run pins s σ H v u Q I r (i v σ H Q hw)⟩
theorem pgs_imp {X : Cx} {tg : List Expr} {t t' : TGs} (h : PGs X tg t) (i : ∀ v σ H Q, t' v σ H Q → t v σ H Q) : PGs X tg t' := ⟨fun pins s σ H v u Q I r hw => h.run pins s σ H v u Q I r (i v σ H Q hw)⟩
def gN (i : Nat) : TgD := fun d env => some (env.set i (.fr d))
def gT (t : List D → List Sl → Option (List Sl)) : TgD := fun d env => match d with
  | .tup ds => t ds env
  | _ => none
def gs0 : List D → List Sl → Option (List Sl) := fun ds env => match ds with
  | [] => some env
  | _ => none
def gsC (t : TgD) (u : List D → List Sl → Option (List Sl)) : List D → List Sl → Option (List Sl) := fun ds env => match ds with
  | d :: r => (t d env).bind (u r)
  | [] => none
section targets
variable {X : Cx} {ms : List Addr} {G0 H0 : Hp} {pos : Pos} {e : Expr} {es : List Expr} {t : TgD} {ts : List D → List Sl → Option (List Sl)}
theorem pgd_name (i : Nat) {x : Str} (hN : X.N.Nodup) (hi : X.N[i]? = some x := by rfl) (hx : Loc X.env.scope x := by first | exact Or.inl rfl | exact Or.inr rfl) (hf : X.fn x = true ∨ X.env.scope.names.lookup x = some .local := by first | exact .inl rfl | exact .inr rfl | assumption) : PGd X ms G0 H0 (.Name x pos) (gN i) :=
  pg_imp (pg_name hN hi hx hf) fun v σ H Q ⟨F, env, dr, d, env', I, r, h, k⟩ => by
    cases h
    exact k _ (I.setF r)
theorem pgsd_nil : PGsd X ms G0 H0 [] gs0 := pgs_imp pgs_nil fun vs σ H Q ⟨F, env, dr, ds, env', I, r, h, k⟩ => by
  unfold gs0 at h
  split at h
  · cases h
    exact ⟨r.inv0, k _ I⟩
  · cases h
theorem pgsd_cons (h1 : PGd X ms G0 H0 e t) (h2 : PGsd X ms G0 H0 es ts) (hs : (assignEach (e :: es) X.env).map (·.2) = assign e X.env :: (assignEach es X.env).map (·.2) := by rfl) : PGsd X ms G0 H0 (e :: es) (gsC t ts) :=
  pgs_imp (pgs_cons h1 h2 hs) fun vs σ H Q ⟨F, env, dr, ds, env', I, r, h, k⟩ => by
    unfold gsC at h
    split at h
    · simp only [Option.bind_eq_some_iff] at h
      obtain ⟨env1, h1, h2⟩ := h
      obtain ⟨v, vr, rfl, r1, r2⟩ := r.inv
      exact ⟨v, vr, rfl, F, env, dr, _, env1, I, r1, h1, fun σ' I' => ⟨F, env1, dr, _, env', I', r2, h2, k⟩⟩
    · cases h
theorem arity_t : ∀ {ts : List D → List Sl → Option (List Sl)} {es : List Expr}, PGsd X ms G0 H0 es ts → True := fun _ => trivial
theorem pgd_tup {k n : Nat} (hc : X.calm = true) (h : PGsd X ms G0 H0 es ts) (hl : ∀ ds env r, ts ds env = some r → ds.length = n)
    (hn : (assignEach es X.env).length = n := by rfl) (hst : (assignEach es X.env).findIdx? (·.1) = none := by rfl) : PGd X ms G0 H0 (.Tuple es k pos) (gT ts) :=
  pg_imp (pg_tup hc h hn hst) fun v σ H Q ⟨F, env, dr, d, env', I, r, h, kk⟩ => by
    unfold gT at h
    split at h
    · obtain ⟨a, vs, rfl, e1, r1⟩ := r.tup
      exact ⟨a, vs, rfl, .of (I.vw.sub _ _ e1), by rw [r1.length]; exact hl _ _ _ h, F, env, dr, _, env', I, r1, h, kk⟩
    · cases h
theorem gs0_len : ∀ ds env r, gs0 ds env = some r → ds.length = 0 := fun ds env r h => by
  unfold gs0 at h
  split at h
  · rfl
  · cases h
theorem gsC_len {n : Nat} (h : ∀ ds env r, ts ds env = some r → ds.length = n) : ∀ ds env r, gsC t ts ds env = some r → ds.length = n + 1 := fun ds env r q => by
  unfold gsC at q
  split at q
  · simp only [Option.bind_eq_some_iff] at q
    obtain ⟨e1, _, h2⟩ := q
    simp [h _ _ _ h2]
  · cases q
end targets

/-! ### loops -/
def loopD (t : TgD) (g : SDn) : List D → SDn
  | [] => fun env dr => some (.nx env, dr)
  | d :: ds => fun env dr => (t d env).bind fun env1 => match g env1 dr with
    | some (.nx e, d1) => loopD t g ds e d1
    | some (.ct e, d1) => loopD t g ds e d1
    | some (.bk e, d1) => some (.nx e, d1)
    | r => r
def sFor (t : TgD) (f : AD) (g : SDn) : SDn := fun env dr => (f (frz env) dr).bind fun p => loopD t g p.1 env p.2
def whileD (c : TDn) (g : SDn) : Nat → SDn
  | 0 => fun _ _ => none
  | n + 1 => fun env dr => (c (pk env) dr).bind fun p => if p.1 = true then match g env p.2 with
    | some (.nx e, d1) => whileD c g n e d1
    | some (.ct e, d1) => whileD c g n e d1
    | some (.bk e, d1) => some (.nx e, d1)
    | r => r else some (.nx env, p.2)
section loops
variable {X : Cx} {ms : List Addr} {G0 H0 : Hp} {pos : Pos} {tg iter c : Expr} {body : List Stmt} {t : TgD} {fi : AD} {g : SDn} {fc : TDn}
theorem psd_for (hp : PassesOwn (model X.prog X.w) X.A X.env X.xe) (hc : X.calm = true) (hi : PId X ms tg iter fi) (hg : PGd X ms G0 H0 tg t) (hb : PSsd X ms G0 H0 body g) (hs : ∀ x, foldedSetIterable iter X.env x = pure x := by intro _; rfl) :
    PSd X ms G0 H0 (.For tg iter body [] pos) (sFor t fi g) := by
  refine ps_imp (ps_for hp hc hi hg hb hs) fun D σ H ⟨F0, env, dr, I, q⟩ => ?_
  unfold sFor at q
  cases e1 : fi (frz env) dr with
  | none => rw [e1] at q; exact q.elim
  | some r =>
    obtain ⟨ds, dr1⟩ := r
    rw [e1] at q
    simp only [Option.bind_some] at q
    refine ⟨F0, frz env, dr, ds, dr1, I.vw, I.repF, e1, fun J G' H' it a w => ?_⟩
    have I1 := I.step a w
    refine ⟨fun i m σ H => m = ds.length - i ∧ i ≤ ds.length ∧ ∃ F env dr, EInv ms G0 H0 F env dr σ H ∧ Sub G' F ∧ Sub F0 F ∧ Post ms G0 H0 F0 D (loopD t g (ds.drop i) env dr),
      ⟨ds.length, by simp, Nat.zero_le _, G', env, dr1, I1, fun _ _ z => z, a.gr, q⟩, ?_⟩
    rintro i m σ H ⟨rfl, hi, F, env, dr, I, s1, s2, q⟩
    have sH : Sub G' H := fun x o z => I.vw.sub x o (s1 x o z)
    by_cases hlt : i < ds.length
    · rw [List.drop_eq_getElem_cons hlt] at q
      unfold loopD at q
      cases e2 : t ds[i] env with
      | none => rw [e2] at q; exact q.elim
      | some env1 =>
        rw [e2] at q
        simp only [Option.bind_some] at q
        refine .inr ⟨it.go i H sH hlt, fun σ' H' => ∃ F env dr, EInv ms G0 H0 F env dr σ' H' ∧ Sub G' F ∧ Sub F0 F ∧ Post ms G0 H0 F0 D (loopD t g (ds.drop (i + 1)) env dr), fun σ' H' hN => ?_, fun x H' y => ?_⟩
        · exact ⟨ds.length - (i + 1), by omega, rfl, hlt, hN⟩
        · obtain ⟨G3, r3, a3, w3⟩ := it.yld i ds[i] H x H' sH (List.getElem?_eq_getElem hlt) y F dr I.vw s1
          have I3 := I.step a3 w3
          refine ⟨G3, env, dr, ds[i], env1, I3, r3, e2, fun σ' I4 => ⟨G3, env1, dr, I4, ?_⟩⟩
          cases e3 : g env1 dr with
          | none => rw [e3] at q; exact q.elim
          | some r =>
            rw [e3] at q
            obtain ⟨fl, d1⟩ := r
            have s3 : Sub G' G3 := fun x o z => a3.gr _ _ (s1 x o z)
            have s4 : Sub F0 G3 := fun x o z => a3.gr _ _ (s2 x o z)
            cases fl with
            | nx e => exact fun F' σ2 H2 I5 s5 => ⟨F', e, d1, I5, fun x o z => s5 _ _ (s3 x o z), fun x o z => s5 _ _ (s4 x o z), q⟩
            | ct e => exact fun F' σ2 H2 I5 s5 => ⟨F', e, d1, I5, fun x o z => s5 _ _ (s3 x o z), fun x o z => s5 _ _ (s4 x o z), q⟩
            | bk e => exact fun F' σ2 H2 I5 s5 => q F' σ2 H2 I5 fun x o z => s5 _ _ (s4 x o z)
            | rt e => exact q
    · have e : i = ds.length := by omega
      subst e
      rw [List.drop_length] at q
      unfold loopD at q
      exact .inl ⟨it.stop _ H sH (Nat.le_refl _), q F σ H I s2⟩
theorem psd_while (n : Nat) (hp : PassesOwn (model X.prog X.w) X.A X.env X.xe) (hc : PTd X ms c fc) (hb : PSsd X ms G0 H0 body g) : PSd X ms G0 H0 (.While c body [] pos) (whileD fc g n) := by
  refine ps_imp (ps_while hp hc hb) fun D σ H ⟨F0, env, dr, I, q⟩ => ?_
  refine ⟨fun m σ H => ∃ F env dr, EInv ms G0 H0 F env dr σ H ∧ Sub F0 F ∧ Post ms G0 H0 F0 D (whileD fc g m env dr), ⟨n, F0, env, dr, I, fun _ _ z => z, q⟩, ?_⟩
  rintro m σ H ⟨F, env, dr, I, s, q⟩
  cases m with
  | zero => exact q.elim
  | succ m =>
    unfold whileD at q
    cases e1 : fc (pk env) dr with
    | none => rw [e1] at q; exact q.elim
    | some r =>
      rw [e1] at q
      obtain ⟨b, d⟩ := r
      simp only [Option.bind_some] at q
      refine ⟨_, pk env, dr, b, d, I.pkV, I.pkE, e1, fun G' H' a' w' => ?_⟩
      have I' := I.stepP a' w'
      cases b with
      | true =>
        rw [if_pos rfl] at q
        refine iteT ⟨fun σ' H' => ∃ F env dr, EInv ms G0 H0 F env dr σ' H' ∧ Sub F0 F ∧ Post ms G0 H0 F0 D (whileD fc g m env dr), fun σ' H' h => ⟨m, Nat.lt_succ_self m, h⟩, F, env, d, I', ?_⟩
        cases e3 : g env d with
        | none => rw [e3] at q; exact q.elim
        | some r =>
          rw [e3] at q
          obtain ⟨fl, d1⟩ := r
          cases fl with
          | nx e => exact fun F' σ2 H2 I5 s5 => ⟨F', e, d1, I5, fun x o z => s5 _ _ (s x o z), q⟩
          | ct e => exact fun F' σ2 H2 I5 s5 => ⟨F', e, d1, I5, fun x o z => s5 _ _ (s x o z), q⟩
          | bk e => exact fun F' σ2 H2 I5 s5 => q F' σ2 H2 I5 fun x o z => s5 _ _ (s x o z)
          | rt e => exact q
      | false =>
        rw [if_neg Bool.false_ne_true] at q
        exact iteF (q F σ H' I' s)
end loops
end Dk

set_option maxRecDepth 100000
namespace Dk
open PySem PySem.Spec PyProof.Rows L2

/-! ### what is fresh is a thing like others -/
section fresh
variable {X : Cx} {ms : List Addr} {e a b : Expr} {es : List Expr} {f g : ED} {fs : AD} {pos : Pos}
theorem ped_of (h : PFd X ms e f) : PEd X ms e f := by
  refine pe_imp h fun σ H Q ⟨G, ρ, dr, d, dr', w, r, h, k⟩ => ⟨G, ρ, dr, d, dr', w, r, h, fun p G' H' o a w' n z => ?_⟩
  obtain ⟨u, hp, q⟩ := o.frz n
  refine k _ (upd G' p u) H' q ⟨fun x o' y => ?_, fun x y y2 => ?_, a.kp, a.ks⟩ ⟨fun x o' y => ?_, fun x m => ?_, w'.mem⟩
  · rw [upd_ne (ne_of_none (a.gr _ _ y) n)]; exact a.gr _ _ y
  · rw [upd_ne fun y3 => y (by rw [y3]; exact z)]; exact a.nw x y y2
  · by_cases hx : x = p
    · subst hx; rw [upd_same] at y; cases y; exact hp
    · rw [upd_ne hx] at y; exact w'.sub _ _ y
  · rw [upd_ne fun y => w.ne z (by rw [← y]; exact m)]; exact w'.off x m
/-- a rule by values that makes a thing -/
def rF2 (ms : List Addr) (φ : D → D → Option D) : R2 := fun x y H Q => ∃ G dr dx dy d, Vw ms dr G H ∧ Rep G x dx ∧ Rep G y dy ∧ φ dx dy = some d ∧
  ∀ p G' H', Own G' H' p d → Aft ms G H G' H' → Vw ms dr G' H' → G' p = none → H p = none → Q (.ref p) H'
def rFN (ms : List Addr) (φ : List D → Option D) : List V → Hp → VK → Prop := fun xs H Q => ∃ G dr ds d, Vw ms dr G H ∧ RepL G xs ds ∧ φ ds = some d ∧
  ∀ p G' H', Own G' H' p d → Aft ms G H G' H' → Vw ms dr G' H' → G' p = none → H p = none → Q (.ref p) H'
theorem pfd_op {op : Operator} {φ : D → D → Option D} (ho : OpR X (binaryOp op) (rF2 ms φ)) (ha : PEd X ms a f) (hb : PEd X ms b g) : PFd X ms (.BinOp a op b pos) (e2 φ f g) := by
  refine pe_imp (pe_op ho ha hb) fun σ H Q ⟨G, ρ, dr, d, dr', w, r, h, k⟩ => ?_
  obtain ⟨x, dr1, y, h1, h2, h3⟩ := e2_inv h
  refine ⟨G, ρ, dr, x, dr1, w, r, h1, fun v G1 H1 q1 a1 w1 => ?_⟩
  refine ⟨G1, ρ, dr1, y, dr', w1, r.mono a1.gr, h2, fun u G2 H2 q2 a2 w2 => ?_⟩
  refine ⟨G2, dr', x, y, d, w2, Rep.mono a2.gr _ q1, q2, h3, fun p G3 H3 o a3 w3 n z => k p G3 H3 o (a1.trans (a2.trans a3)) w3 n ?_⟩
  cases e0 : H p with
  | none => rfl
  | some u => exact absurd z (a2.ks p (a1.ks p (by rw [e0]; simp)))
theorem pfd_callB {id : String} {x : Str} {p : Pos} {φ : List D → Option D} (hc : CallR X (.builtin id) (rFN ms φ)) (hg : Gl X x) (hm : X.mg x = none) (hv : bootBuiltins x = some (.builtin id)) (ha : PAd X ms (e :: es) fs) (hn : x ≠ "__name__" := by decide) (hdb : (x == ("__debug__" : Str)) = false := by decide)
    (he : starEach (e :: es) X.env = (false, eval e X.env) :: starEach es X.env := by rfl) (hpl : (backTo pos (starEach es X.env)).any (·.1) = false := by rfl) : PFd X ms (.Call (.Name x p) (e :: es) [] pos) (eN φ fs) := by
  refine pe_imp (pe_callB hc hg hm hv ha hn hdb he hpl) fun σ H Q ⟨G, ρ, dr, d, dr', w, r, h, k⟩ => ?_
  obtain ⟨y, h1, h2⟩ := eN_inv h
  refine ⟨G, ρ, dr, y, dr', w, r, h1, fun v G1 H1 q1 a1 w1 => ?_⟩
  refine ⟨G1, dr', y, d, w1, q1, h2, fun p G3 H3 o a3 w3 n z => k p G3 H3 o (a1.trans a3) w3 n ?_⟩
  cases e0 : H p with
  | none => rfl
  | some u => exact absurd z (a1.ks p (by rw [e0]; simp))
theorem pfd_callTy {T : String} {x : Str} {p : Pos} {φ : List D → Option D} (hc : CallR X (.type T) (rFN ms φ)) (hg : Gl X x) (hm : X.mg x = none) (hv : bootBuiltins x = some (.type T)) (ha : PAd X ms (e :: es) fs) (hn : x ≠ "__name__" := by decide) (hdb : (x == ("__debug__" : Str)) = false := by decide)
    (he : starEach (e :: es) X.env = (false, eval e X.env) :: starEach es X.env := by rfl) (hpl : (backTo pos (starEach es X.env)).any (·.1) = false := by rfl) : PFd X ms (.Call (.Name x p) (e :: es) [] pos) (eN φ fs) := by
  refine pe_imp (pe_callTy hc hg hm hv ha hn hdb he hpl) fun σ H Q ⟨G, ρ, dr, d, dr', w, r, h, k⟩ => ?_
  obtain ⟨y, h1, h2⟩ := eN_inv h
  refine ⟨G, ρ, dr, y, dr', w, r, h1, fun v G1 H1 q1 a1 w1 => ?_⟩
  refine ⟨G1, dr', y, d, w1, q1, h2, fun p G3 H3 o a3 w3 n z => k p G3 H3 o (a1.trans a3) w3 n ?_⟩
  cases e0 : H p with
  | none => rfl
  | some u => exact absurd z (a1.ks p (by rw [e0]; simp))
/-- a new list, its view not grown -/
theorem own_new {dr : Dr} {G H : Hp} {p : Addr} {vs : List V} {ds : List D} (w : Vw ms dr G H) (hp : H p = none) (q : RepL G vs ds) : Own G (upd H p (.lst vs)) p (.lst ds) ∧ Aft ms G H G (upd H p (.lst vs)) ∧ Vw ms dr G (upd H p (.lst vs)) ∧ G p = none :=
  ⟨⟨vs, upd_same, q⟩, .allocH hp _, w.allocH hp _, w.freeG hp⟩
theorem pfd_lst (h : PAd X ms es fs) : PFd X ms (.List es pos) (eN (fun ds => if ds.length ≤ sizeLine then some (.lst ds) else none) fs) := by
  refine pe_imp (pe_lst h) fun σ H Q ⟨G, ρ, dr, d, dr', w, r, h, k⟩ => ?_
  obtain ⟨x, h1, h2⟩ := eN_inv h
  refine ⟨G, ρ, dr, x, dr', w, r, h1, fun vs G1 H1 q1 a1 w1 => ?_⟩
  split at h2
  · rename_i hl
    cases h2
    refine ⟨by rw [q1.length]; exact hl, fun p hp => ?_⟩
    obtain ⟨o, a2, w2, n⟩ := own_new w1 hp q1
    refine k p G1 _ o (a1.trans a2) w2 n ?_
    cases e0 : H p with
    | none => rfl
    | some u => exact absurd hp (a1.ks p (by rw [e0]; simp))
  · cases h2
def addL : D → D → Option D
  | .lst xs, .lst ys => if xs.length + ys.length ≤ sizeLine then some (.lst (xs ++ ys)) else none
  | _, _ => none
def mulL : D → D → Option D
  | .lst xs, .int k => if -(2 ^ 63) ≤ k ∧ k < 2 ^ 63 ∧ xs.length * k.toNat ≤ sizeLine then some (.lst (List.replicate k.toNat xs).flatten) else none
  | _, _ => none
theorem opf_add : OpR X (binaryOp .Add) (rF2 ms addL) := by
  refine op_imp op_cat fun x y H Q ⟨G, dr, dx, dy, d, w, q1, q2, h, k⟩ => ?_
  unfold addL at h
  split at h
  · split at h
    · cases h
      rename_i hl
      obtain ⟨a, vs, rfl, e1, r1⟩ := q1.lst
      obtain ⟨b, us, rfl, e2, r2⟩ := q2.lst
      refine ⟨a, b, vs, us, rfl, rfl, w.sub _ _ e1, w.sub _ _ e2, by rw [r1.length, r2.length]; exact hl, fun p hp => ?_⟩
      obtain ⟨o, a2, w2, n⟩ := own_new w hp (r1.append r2)
      exact k p G _ o a2 w2 n hp
    · cases h
  · cases h
theorem opf_mul : OpR X (binaryOp .Mult) (rF2 ms mulL) := by
  refine op_imp op_rep fun x y H Q ⟨G, dr, dx, dy, d, w, q1, q2, h, k⟩ => ?_
  unfold mulL at h
  split at h
  · split at h
    · cases h
      rename_i c
      obtain ⟨a, vs, rfl, e1, r1⟩ := q1.lst
      refine ⟨a, _, vs, rfl, q2.int, w.sub _ _ e1, c.1, c.2.1, by rw [r1.length]; exact c.2.2, fun p hp => ?_⟩
      obtain ⟨o, a2, w2, n⟩ := own_new w hp (r1.rep _)
      exact k p G _ o a2 w2 n hp
    · cases h
  · cases h
end fresh

/-! ### comprehensions -/
abbrev TcD := D → List (Option D) → Option (List (Option D))
def wipeE (ρ : List (Option D)) : List Nat → List (Option D)
  | [] => ρ
  | v :: vs => (wipeE ρ vs).set v none
theorem wipeE_length (ρ : List (Option D)) : ∀ vs : List Nat, (wipeE ρ vs).length = ρ.length
  | [] => rfl
  | v :: vs => by simp [wipeE, wipeE_length ρ vs]
theorem wipeE_some {ρ : List (Option D)} {i : Nat} {d : D} : ∀ {vs : List Nat}, (wipeE ρ vs)[i]? = some (some d) → ρ[i]? = some (some d) ∧ i ∉ vs
  | [], h => ⟨h, by simp⟩
  | v :: vs, h => by
    unfold wipeE at h
    by_cases e : v = i
    · subst e
      have hl : v < (wipeE ρ vs).length := by have := (List.getElem?_eq_some_iff.mp h).1; simpa using this
      rw [List.getElem?_set_self hl] at h
      cases h
    · rw [List.getElem?_set_ne e] at h
      obtain ⟨h1, h2⟩ := wipeE_some h
      exact ⟨h1, by simp [h2, Ne.symm e]⟩
theorem RepE.wipe {G : Hp} {ρ : List (Option D)} {σ : L2.St} (r : RepE G ρ σ) (vs : List Nat) : RepE G (wipeE ρ vs) (L2.wipe σ vs) :=
  ⟨by rw [wipeE_length, wipe_length]; exact r.1, fun i d h => by
    obtain ⟨h1, h2⟩ := wipeE_some h
    obtain ⟨v, e, q⟩ := r.2 i d h1
    exact ⟨v, by rw [wipe_out h2]; exact e, q⟩⟩
theorem wipe_set {σ : L2.St} {i : Nat} {x : Option V} : ∀ {vs : List Nat}, L2.wipe (σ.set i x) vs = if i ∈ vs then L2.wipe σ vs else (L2.wipe σ vs).set i x
  | [] => by simp [L2.wipe]
  | v :: vs => by
    unfold L2.wipe
    rw [wipe_set]
    by_cases e : i = v
    · subst e
      by_cases h : i ∈ vs
      · rw [if_pos h, if_pos (by simp)]
      · rw [if_neg h, if_pos (by simp), List.set_set]
    · by_cases h : i ∈ vs
      · rw [if_pos h, if_pos (by simp [h])]
      · rw [if_neg h, if_neg (by simp [h, e]), List.set_comm _ _ (by exact e)]
theorem wipe_idem {σ : L2.St} : ∀ {vs : List Nat}, L2.wipe (L2.wipe σ vs) vs = L2.wipe σ vs
  | [] => rfl
  | v :: vs => by
    show (L2.wipe ((L2.wipe σ vs).set v none) vs).set v none = (L2.wipe σ vs).set v none
    rw [wipe_set, wipe_idem]
    split
    · rfl
    · rw [List.set_set]
structure TgE (K : PySem.W.Frag) (g : TG) (vs : List Nat) (t : TcD) : Prop where
  run : ∀ {ms : List Addr} {dr : Dr} {G : Hp} {v : V} {d : D} {ρ ρ' : List (Option D)} {σ : L2.St} {H : Hp} {Q : L2.St → Hp → Prop}, Vw ms dr G H → RepE G ρ σ → Rep G v d → t d ρ = some ρ' → (∀ σ', RepE G ρ' σ' → L2.wipe σ' vs = L2.wipe σ vs → Q σ' H) → g v σ H Q
structure TgEs (K : PySem.W.Frag) (g : TGs) (vs : List Nat) (t : List D → List (Option D) → Option (List (Option D))) : Prop where
  run : ∀ {ms : List Addr} {dr : Dr} {G : Hp} {us : List V} {ds : List D} {ρ ρ' : List (Option D)} {σ : L2.St} {H : Hp} {Q : L2.St → Hp → Prop}, Vw ms dr G H → RepE G ρ σ → RepL G us ds → t ds ρ = some ρ' → (∀ σ', RepE G ρ' σ' → L2.wipe σ' vs = L2.wipe σ vs → Q σ' H) → g us σ H Q
def cN (i : Nat) : TcD := fun d ρ => some (ρ.set i (some d))
def cT (t : List D → List (Option D) → Option (List (Option D))) : TcD := fun d ρ => match d with
  | .tup ds => t ds ρ
  | _ => none
def cs0 : List D → List (Option D) → Option (List (Option D)) := fun ds ρ => match ds with
  | [] => some ρ
  | _ => none
def csC (t : TcD) (u : List D → List (Option D) → Option (List (Option D))) : List D → List (Option D) → Option (List (Option D)) := fun ds ρ => match ds with
  | d :: r => (t d ρ).bind (u r)
  | [] => none
theorem RepE.set {G : Hp} {ρ : List (Option D)} {σ : L2.St} (r : RepE G ρ σ) (i : Nat) {v : V} {d : D} (h : Rep G v d) : RepE G (ρ.set i (some d)) (σ.set i (some v)) :=
  ⟨by simp [r.1], fun j d' e => by
    by_cases q : i = j
    · subst q
      have hl : i < ρ.length := by have := (List.getElem?_eq_some_iff.mp e).1; simpa using this
      rw [List.getElem?_set_self hl] at e
      cases e
      exact ⟨v, List.getElem?_set_self (by rw [← r.1]; exact hl), h⟩
    · rw [List.getElem?_set_ne q] at e ⊢
      exact r.2 j d' e⟩
theorem tge_name {K : PySem.W.Frag} (i : Nat) {vs : List Nat} (h : i ∈ vs) : TgE K (gName i) vs (cN i) := ⟨fun {ms dr G v d ρ ρ' σ H Q} w r q e k => by
  cases e
  exact k _ (r.set i q) (by rw [wipe_set, if_pos h])⟩
theorem tges_nil {K : PySem.W.Frag} {vs : List Nat} : TgEs K gNil vs cs0 := ⟨fun {ms dr G us ds ρ ρ' σ H Q} w r q e k => by
  unfold cs0 at e
  split at e
  · cases e
    exact ⟨q.inv0, k _ r rfl⟩
  · cases e⟩
theorem tges_cons {K : PySem.W.Frag} {vs : List Nat} {g : TG} {gs : TGs} {t : TcD} {ts : List D → List (Option D) → Option (List (Option D))} (h : TgE K g vs t) (hs : TgEs K gs vs ts) : TgEs K (gCons g gs) vs (csC t ts) := ⟨fun {ms dr G us ds ρ ρ' σ H Q} w r q e k => by
  unfold csC at e
  split at e
  · simp only [Option.bind_eq_some_iff] at e
    obtain ⟨ρ1, e1, e2⟩ := e
    obtain ⟨v, vr, rfl, r1, r2⟩ := q.inv
    exact ⟨v, vr, rfl, h.run w r r1 e1 fun σ1 q1 z1 => hs.run w q1 r2 e2 fun σ2 q2 z2 => k σ2 q2 (z2.trans z1)⟩
  · cases e⟩
theorem tge_tup {K : PySem.W.Frag} {vs : List Nat} {gs : TGs} {n : Nat} {ts : List D → List (Option D) → Option (List (Option D))} (hs : TgEs K gs vs ts) (hl : ∀ ds ρ r, ts ds ρ = some r → ds.length = n) : TgE K (gTup K n gs) vs (cT ts) := ⟨fun {ms dr G v d ρ ρ' σ H Q} w r q e k => by
  unfold cT at e
  split at e
  · obtain ⟨a, us, rfl, e1, r1⟩ := q.tup
    exact ⟨a, us, rfl, .of (w.sub _ _ e1), by rw [r1.length]; exact hl _ _ _ e, hs.run w r r1 e k⟩
  · cases e⟩
theorem cs0_len : ∀ ds ρ r, cs0 ds ρ = some r → ds.length = 0 := fun ds env r h => by
  unfold cs0 at h
  split at h
  · rfl
  · cases h
theorem csC_len {n : Nat} {t : TcD} {ts : List D → List (Option D) → Option (List (Option D))} (h : ∀ ds env r, ts ds env = some r → ds.length = n) : ∀ ds env r, csC t ts ds env = some r → ds.length = n + 1 := fun ds env r q => by
  unfold csC at q
  split at q
  · simp only [Option.bind_eq_some_iff] at q
    obtain ⟨e1, _, h2⟩ := q
    simp [h _ _ _ h2]
  · cases q
def lcD (ρ0 : List (Option D)) (t : TcD) (c : TDn) (e : ED) : List D → Dr → Option (List D × Dr)
  | [], dr => some ([], dr)
  | d :: ds, dr => (t d ρ0).bind fun ρ1 => (c ρ1 dr).bind fun p => if p.1 = true then (e ρ1 p.2).bind fun q => (lcD ρ0 t c e ds q.2).bind fun r => some (q.1 :: r.1, r.2) else lcD ρ0 t c e ds p.2
def eLc (vs : List Nat) (src : AD) (t : TcD) (c : TDn) (e : ED) : ED := fun ρ dr => (src ρ dr).bind fun p => (lcD (wipeE ρ vs) t c e p.1 p.2).bind fun q => if q.1.length ≤ sizeLine then some (.lst q.1, q.2) else none
def cYes : TDn := fun _ dr => some (true, dr)
section comp
variable {X : Cx} {ms : List Addr}
theorem ptd_nil : PTs X [] (tDT ms cYes) := ⟨fun pins s σ H Q I hw => pts_nil.run pins s σ H Q I (by
  obtain ⟨G, ρ, dr, d, dr', w, r, h, k⟩ := hw
  cases h
  exact k G H .refl w)⟩
theorem ptd_one {c : Expr} {f : TDn} (h : PTd X ms c f) : PTs X [c] (tDT ms f) := pts_one h
/-- the reading of a comprehension, over data -/
theorem lc_read {src : AD} {t : TcD} {c : TDn} {e : ED} {g : TG} {K : PySem.W.Frag} {vs : List Nat} (hg : TgE K g vs t) {σ : L2.St} {H : Hp} {Q : VK} (h : tF ms (eLc vs src t c e) σ H Q) : tLc (tI ms src) g (tDT ms c) (tD ms e) vs σ H Q := by
  obtain ⟨G, ρ, dr, d, dr', w, r, h, k⟩ := h
  unfold eLc at h
  simp only [Option.bind_eq_some_iff] at h
  obtain ⟨⟨ds, dr1⟩, h1, ⟨xs, drF⟩, h2, h3⟩ := h
  split at h3
  · rename_i hlen
    cases h3
    simp only at h2 hlen
    refine ⟨G, ρ, dr, ds, dr1, w, r, h1, fun J G' H' it a w' => fun Dd hD => ?_⟩
    have r' : RepE G' (wipeE ρ vs) (L2.wipe σ vs) := (r.mono a.gr).wipe vs
    have hD0 : H Dd = none := by
      cases e0 : H Dd with
      | none => rfl
      | some u => exact absurd hD (a.ks Dd (by rw [e0]; simp))
    refine ⟨fun i m H2 => m = ds.length - i ∧ i ≤ ds.length ∧ ∃ G2 dr2 acc accd rest, Vw ms dr2 G2 H2 ∧ Sub G' G2 ∧ Aft ms G' H' G2 H2 ∧ H2 Dd = some (.lst acc) ∧ G2 Dd = none ∧ RepL G2 acc accd ∧ lcD (wipeE ρ vs) t c e (ds.drop i) dr2 = some (rest, drF) ∧ accd ++ rest = xs,
      ⟨ds.length, by simp, Nat.zero_le _, G', dr1, [], [], xs, w'.allocH hD _, fun _ _ z => z, .allocH hD _, upd_same, w'.freeG hD, .nil, h2, rfl⟩, ?_⟩
    rintro i m H2 ⟨rfl, hi, G2, dr2, acc, accd, rest, w2, s2, a2, hacc, hn, hr, hrun, hsum⟩
    have sH : Sub G' H2 := fun x o z => w2.sub x o (s2 x o z)
    by_cases hlt : i < ds.length
    · rw [List.drop_eq_getElem_cons hlt] at hrun
      unfold lcD at hrun
      simp only [Option.bind_eq_some_iff] at hrun
      obtain ⟨ρ1, ht, ⟨b, dr3⟩, hc, hrun⟩ := hrun
      refine .inr ⟨it.go i H2 sH hlt, fun H2 => i + 1 ≤ ds.length ∧ ∃ G2 dr2 acc accd rest, Vw ms dr2 G2 H2 ∧ Sub G' G2 ∧ Aft ms G' H' G2 H2 ∧ H2 Dd = some (.lst acc) ∧ G2 Dd = none ∧ RepL G2 acc accd ∧ lcD (wipeE ρ vs) t c e (ds.drop (i + 1)) dr2 = some (rest, drF) ∧ accd ++ rest = xs,
        fun H3 hN => ⟨ds.length - (i + 1), by omega, rfl, hN.1, hN.2⟩, fun x H3 y => ?_⟩
      obtain ⟨G3, r3, a3, w3⟩ := it.yld i ds[i] H2 x H3 sH (List.getElem?_eq_getElem hlt) y G2 dr2 w2 s2
      refine hg.run w3 ((r'.mono s2).mono a3.gr) r3 ht fun σ' q' z' => ⟨z'.trans wipe_idem, G3, ρ1, dr2, b, dr3, w3, q', hc, fun G4 H4 a4 w4 => ?_⟩
      have hacc4 : H4 Dd = some (.lst acc) := by
        have hm : Dd ∉ ms := w'.ne hD
        exact a4.kp _ _ hm (a3.kp _ _ hm hacc)
      have a04 := a2.trans (a3.trans a4)
      cases b with
      | true =>
        rw [if_pos rfl] at hrun
        simp only [Option.bind_eq_some_iff] at hrun
        obtain ⟨⟨yv, dr5⟩, he, ⟨rest', drF'⟩, hrest, hfin⟩ := hrun
        simp only [Option.some.injEq, Prod.mk.injEq] at hfin
        obtain ⟨hf1, hf2⟩ := hfin
        subst hf1
        subst hf2
        refine iteT ⟨G4, ρ1, dr3, yv, dr5, w4, q'.mono a4.gr, he, fun yv' G5 H5 q5 a5 w5 => ?_⟩
        have hm : Dd ∉ ms := w'.ne hD
        have hacc5 := a5.kp _ _ hm hacc4
        have a05 := a04.trans a5
        have n3 : G3 Dd = none := a3.nw Dd (by rw [hacc]; simp) hn
        have n4 : G4 Dd = none := a4.nw Dd (by rw [a3.kp _ _ hm hacc]; simp) n3
        have n5 : G5 Dd = none := a5.nw Dd (by rw [hacc4]; simp) n4
        have hl : acc.length < sizeLine := by
          have e1 := hr.length
          have e2 : xs.length = accd.length + (rest'.length + 1) := by rw [← hsum]; simp
          omega
        refine ⟨acc, hacc5, hl, hlt, G5, dr5, acc ++ [yv'], accd ++ [yv], rest', ⟨fun x o z => ?_, w5.off, w5.mem.same fun x hx => upd_ne fun z => hm (by rw [← z]; exact hx)⟩, fun x o z => a5.gr _ _ (a4.gr _ _ (a3.gr _ _ (s2 _ _ z))), ⟨a05.gr, a05.nw, fun x o hx z => ?_, fun x z => ?_⟩, upd_same, n5, ?_, hrest, by rw [← hsum]; simp⟩
        · rw [upd_ne (ne_of_none z n5)]; exact w5.sub _ _ z
        · rw [upd_ne (ne_of_none z hD)]; exact a05.kp _ _ hx z
        · rw [upd_ne fun y => z (by rw [y]; exact hD)]; exact a05.ks _ z
        · exact (RepL.mono (fun x o z => a5.gr _ _ (a4.gr _ _ (a3.gr _ _ z))) _ hr).append (.cons q5 .nil)
      | false =>
        rw [if_neg Bool.false_ne_true] at hrun
        have hm : Dd ∉ ms := w'.ne hD
        have n3 : G3 Dd = none := a3.nw Dd (by rw [hacc]; simp) hn
        have n4 : G4 Dd = none := a4.nw Dd (by rw [a3.kp _ _ hm hacc]; simp) n3
        exact iteF ⟨hlt, G4, dr3, acc, accd, rest, w4, fun x o z => a4.gr _ _ (a3.gr _ _ (s2 _ _ z)), a04, hacc4, n4, RepL.mono (fun x o z => a4.gr _ _ (a3.gr _ _ z)) _ hr, hrun, hsum⟩
    · have e0 : i = ds.length := by omega
      subst e0
      rw [List.drop_length] at hrun
      unfold lcD at hrun
      cases hrun
      rw [List.append_nil] at hsum
      subst hsum
      refine .inl ⟨it.stop _ H2 sH (Nat.le_refl _), k Dd G2 H2 ⟨acc, hacc, hr⟩ (a.trans a2) w2 hn hD0⟩
  · cases h3
variable {elt tg iter : Expr} {ifs : List Expr} {scope : Scope} {own : List (Str × Nat)} {pos : Pos} {src : AD} {t : TcD} {c : TDn} {e : ED} {g : TG}
theorem pfd_lc (own : List (Str × Nat)) (hc : X.calm = true) (hN : X.N.Nodup) (hi : PId X ms tg iter src) (ok : BlkOk X.N X.env.scope scope own)
    (tgt : TgE X.K g (own.map (·.2)) t)
    (hg : ∀ (s : Shared) (H : Hp) (C : Addr) (cl : List (Str × Addr)) (fp : List Addr), PG (X.blk s H scope (compEnvC scope cl C X.env) fp) tg g) (ht : ∀ (s : Shared) (H : Hp) (C : Addr) (cl : List (Str × Addr)) (fp : List Addr), PTs (X.blk s H scope (compEnvC scope cl C X.env) fp) ifs (tDT ms c))
    (he : ∀ (s : Shared) (H : Hp) (C : Addr) (cl : List (Str × Addr)) (fp : List Addr), PEd (X.blk s H scope (compEnvC scope cl C X.env) fp) ms elt e) (hs : ∀ x, foldedSetIterable iter X.env x = pure x := by intro _; rfl) :
    PFd X ms (.ListComp elt [⟨tg, iter, ifs, 0⟩] scope pos) (eLc (own.map (·.2)) src t c e) :=
  pe_imp (pe_lc hc hN hi ok hg ht he hs) fun σ H Q h => lc_read tgt h
variable {G0 H0 : Hp} {i : Nat} {y : Str} {py spos : Pos}
theorem psd_setLc (own : List (Str × Nat)) (hc : X.calm = true) (hN : X.N.Nodup) (hi : PId X ms tg iter src) (ok : BlkOk X.N X.env.scope scope own)
    (tgt : TgE X.K g (own.map (·.2)) t)
    (hg : ∀ (s : Shared) (H : Hp) (C : Addr) (cl : List (Str × Addr)) (fp : List Addr), PG (X.blk s H scope (compEnvC scope cl C X.env) fp) tg g) (ht : ∀ (s : Shared) (H : Hp) (C : Addr) (cl : List (Str × Addr)) (fp : List Addr), PTs (X.blk s H scope (compEnvC scope cl C X.env) fp) ifs (tDT ms c))
    (he : ∀ (s : Shared) (H : Hp) (C : Addr) (cl : List (Str × Addr)) (fp : List Addr), PEd (X.blk s H scope (compEnvC scope cl C X.env) fp) ms elt e)
    (hsw : swapsWith (.ListComp elt [⟨tg, iter, ifs, 0⟩] scope pos) (some (.Name y py)) spos.line X.env = pure true)
    (hy : X.N[i]? = some y := by rfl) (hyl : X.env.scope.names.lookup y = some .local := by rfl) (hs : ∀ x, foldedSetIterable iter X.env x = pure x := by intro _; rfl) :
    PSd X ms G0 H0 (.Assign [.Name y py] (.ListComp elt [⟨tg, iter, ifs, 0⟩] scope pos) spos) (sSetO i (eLc (own.map (·.2)) src t c e)) := by
  refine ps_imp (ps_setLc hc hN hy hyl hsw hi ok hg ht he hs) fun D σ H q => ?_
  exact lc_read tgt (Q := fun x H1 => gName i x σ H1 D.nx) (setO_post q)
end comp

/-! ### append, x[i] = v -/
section put
variable {X : Cx} {ms : List Addr} {G0 H0 : Hp} {a e : Expr} {f g : ED} {pos : Pos} {i : Nat} {x : Str}
theorem own_lst {F H : Hp} {p : Addr} {ds : List D} (h : Own F H p (.lst ds)) : ∃ vs, H p = some (.lst vs) ∧ RepL F vs ds := h
theorem psd_app (i : Nat) {apos cpos p : Pos} (he : PEd X ms e f) (hN : X.N[i]? = some x := by rfl) (hv : Vis X.env.scope x := by first | exact Or.inl rfl | exact Or.inr (Or.inl rfl) | exact Or.inr (Or.inr rfl)) (hd : (x == ("__debug__" : Str)) = false := by decide)
    (hcd : (x == ("__classdict__" : Str)) = false := by decide) (hbase : attributeBase (.Name x p) "append" X.env (eval (.Name x p) X.env) = eval (.Name x p) X.env := by rfl)
    (hfew : ((backTo cpos (starEach [e] X.env)).all (fun x => !x.1) && (backToKw cpos (keywordEach [] X.env)).all (fun x => x.1.isSome)
      && decide ([e].length + ([] : List Keyword).length + (if ([] : List Keyword).isEmpty then 0 else 1) < 30)) = true := by rfl)
    (hline : (apos.endLine == cpos.line) = true := by rfl) (hs1 : starEach [e] X.env = (false, eval e X.env) :: starEach [] X.env := by rfl) (hplain : (backTo cpos (starEach [] X.env)).any (·.1) = false := by rfl)
    (hs : swapsWith (.Call (.Attribute (.Name x p) "append" apos) [e] [] cpos) none pos.line X.env = pure false := by rfl) :
    PSd X ms G0 H0 (.Expr (.Call (.Attribute (.Name x p) "append" apos) [e] [] cpos) pos) (sApp i f) := by
  refine ps_imp (ps_expr (pe_bm PySem.F.plainAttrs_list PySem.F.slot_list_append PySem.F.type_list_append mt_append (pe_var hN hv hd hcd) (pa_cons he pa_nil hs1) hbase hfew hline hs1 hplain) hs) fun D σ H ⟨F, env, dr, I, q⟩ => ?_
  unfold sApp at q
  split at q
  · rename_i ds hd
    cases e1 : f (frz env) dr with
    | none => rw [e1] at q; exact q.elim
    | some r =>
      rw [e1] at q
      simp only [Option.bind_some] at q
      split at q
      · rename_i hl
        obtain ⟨pp, ep, o, n, m, z⟩ := I.ow i _ hd
        obtain ⟨vs, hp, hr⟩ := own_lst o
        refine ⟨.ref pp, ep, .inl ⟨rfl, vs, .of hp⟩, F, frz env, dr, r.1, r.2, I.vw, I.repF, e1, fun v G1 H1 q1 a1 w1 => ?_⟩
        have I1 := I.step a1 w1
        have hp1 := a1.kp _ _ m hp
        refine ⟨pp, vs, v, rfl, rfl, hp1, by rw [hr.length]; exact hl, ?_⟩
        refine q G1 σ _ ?_ a1.gr
        exact I1.write hd ep ⟨_, upd_same, (RepL.mono a1.gr _ hr).append (.cons q1 .nil)⟩
      · exact q.elim
  · exact q.elim
theorem psd_appP (i : Nat) {apos cpos p : Pos} (he : PEd X ms e f) (hN : X.N[i]? = some x := by rfl) (hv : Vis X.env.scope x := by first | exact Or.inl rfl | exact Or.inr (Or.inl rfl) | exact Or.inr (Or.inr rfl)) (hd : (x == ("__debug__" : Str)) = false := by decide)
    (hcd : (x == ("__classdict__" : Str)) = false := by decide) (hbase : attributeBase (.Name x p) "append" X.env (eval (.Name x p) X.env) = eval (.Name x p) X.env := by rfl)
    (hfew : ((backTo cpos (starEach [e] X.env)).all (fun x => !x.1) && (backToKw cpos (keywordEach [] X.env)).all (fun x => x.1.isSome)
      && decide ([e].length + ([] : List Keyword).length + (if ([] : List Keyword).isEmpty then 0 else 1) < 30)) = true := by rfl)
    (hline : (apos.endLine == cpos.line) = true := by rfl) (hs1 : starEach [e] X.env = (false, eval e X.env) :: starEach [] X.env := by rfl) (hplain : (backTo cpos (starEach [] X.env)).any (·.1) = false := by rfl)
    (hs : swapsWith (.Call (.Attribute (.Name x p) "append" apos) [e] [] cpos) none pos.line X.env = pure false := by rfl) :
    PSd X ms G0 H0 (.Expr (.Call (.Attribute (.Name x p) "append" apos) [e] [] cpos) pos) (sAppP i f) := by
  refine ps_imp (ps_expr (pe_bm PySem.F.plainAttrs_list PySem.F.slot_list_append PySem.F.type_list_append mt_append (pe_var hN hv hd hcd) (pa_cons he pa_nil hs1) hbase hfew hline hs1 hplain) hs) fun D σ H ⟨F, env, dr, I, q⟩ => ?_
  unfold sAppP at q
  split at q
  · rename_i ds hd
    cases e1 : f (pk env) dr with
    | none => rw [e1] at q; exact q.elim
    | some r =>
      rw [e1] at q
      simp only [Option.bind_some] at q
      split at q
      · rename_i hl
        obtain ⟨pp, ep, o, n, m, z⟩ := I.ow i _ hd
        obtain ⟨vs, hp, hr⟩ := own_lst o
        refine ⟨.ref pp, ep, .inl ⟨rfl, vs, .of hp⟩, _, pk env, dr, r.1, r.2, I.pkV, I.pkE, e1, fun v G1 H1 q1 a1 w1 => ?_⟩
        obtain ⟨I1, sb, kp⟩ := I.stepC a1 w1
        have hp1 := a1.kp _ _ m hp
        refine ⟨pp, vs, v, rfl, rfl, hp1, by rw [hr.length]; exact hl.2, ?_⟩
        refine q _ σ _ ?_ sb
        exact I1.write hd ep ⟨_, upd_same, (RepL.mono sb _ hr).append (.cons (kp hl.1 q1) .nil)⟩
      · exact q.elim
  · exact q.elim
variable {b : Expr}
theorem psd_put (i : Nat) {p spos : Pos} (he : PEd X ms e f) (hb : PEd X ms b g) (hN : X.N[i]? = some x := by rfl) (hv : Vis X.env.scope x := by first | exact Or.inl rfl | exact Or.inr (Or.inl rfl) | exact Or.inr (Or.inr rfl)) (hd : (x == ("__debug__" : Str)) = false := by decide)
    (hcd : (x == ("__classdict__" : Str)) = false := by decide) (ha : ∀ v, assign (.Subscript (.Name x p) b spos) X.env v = (do
      let ov ← holding [v] (eval (.Name x p) X.env)
      let iv ← holding [v, ov] (eval b X.env)
      standAt spos
      holding [v, ov, iv] (setItem ov iv v)
      release [v, ov, iv] []) := by intro _; rfl) (hs : swapsWithSole [.Subscript (.Name x p) b spos] e pos.line X.env = pure false := by rfl) (hw : swappedStores [.Subscript (.Name x p) b spos] e X.env = pure none := by rfl)
    (h1 : (assignEach [.Subscript (.Name x p) b spos] X.env).map (·.2) = [assign (.Subscript (.Name x p) b spos) X.env] := by rfl) :
    PSd X ms G0 H0 (.Assign [.Subscript (.Name x p) b spos] e pos) (sPut i f g) := by
  refine ps_imp (ps_asg he (pg_sub (pe_var hN hv hd hcd) hb set_list ha) hs hw h1) fun D σ H ⟨F, env, dr, I, q⟩ => ?_
  unfold sPut at q
  split at q
  · rename_i ds hd
    cases e1 : f (frz env) dr with
    | none => rw [e1] at q; exact q.elim
    | some r =>
      rw [e1] at q
      simp only [Option.bind_some] at q
      cases e2 : g (pk env) r.2 with
      | none => rw [e2] at q; exact q.elim
      | some r2 =>
        obtain ⟨d2, dr2⟩ := r2
        rw [e2] at q
        simp only [Option.bind_some] at q
        split at q
        · rename_i kk
          cases e3 : ixN ds.length kk with
          | none => rw [e3] at q; exact q.elim
          | some j =>
            rw [e3] at q
            simp only [Option.bind_some] at q
            obtain ⟨pp, ep, o, n, m, z⟩ := I.ow i _ hd
            obtain ⟨vs, hp, hr⟩ := own_lst o
            refine ⟨F, frz env, dr, r.1, r.2, I.vw, I.repF, e1, fun v G1 H1 q1 a1 w1 => ⟨.ref pp, ep, ?_⟩⟩
            have I1 := I.step a1 w1
            refine ⟨_, pk env, r.2, _, dr2, I1.pkV, I1.pkE, e2, fun v2 G2 H2 q2 a2 w2 => ?_⟩
            have I2 := I1.stepP a2 w2
            have hp2 := a2.kp _ _ m (a1.kp _ _ m hp)
            refine ⟨pp, vs, kk, j, rfl, q2.int, hp2, by rw [hr.length]; exact e3, ?_⟩
            exact q G1 σ _ (I2.write hd ep ⟨_, upd_same, (RepL.mono a1.gr _ hr).set j q1⟩) a1.gr
        · exact q.elim
  · exact q.elim
theorem psd_putP (i : Nat) {p spos : Pos} (he : PEd X ms e f) (hb : PEd X ms b g) (hN : X.N[i]? = some x := by rfl) (hv : Vis X.env.scope x := by first | exact Or.inl rfl | exact Or.inr (Or.inl rfl) | exact Or.inr (Or.inr rfl)) (hd : (x == ("__debug__" : Str)) = false := by decide)
    (hcd : (x == ("__classdict__" : Str)) = false := by decide) (ha : ∀ v, assign (.Subscript (.Name x p) b spos) X.env v = (do
      let ov ← holding [v] (eval (.Name x p) X.env)
      let iv ← holding [v, ov] (eval b X.env)
      standAt spos
      holding [v, ov, iv] (setItem ov iv v)
      release [v, ov, iv] []) := by intro _; rfl) (hs : swapsWithSole [.Subscript (.Name x p) b spos] e pos.line X.env = pure false := by rfl) (hw : swappedStores [.Subscript (.Name x p) b spos] e X.env = pure none := by rfl)
    (h1 : (assignEach [.Subscript (.Name x p) b spos] X.env).map (·.2) = [assign (.Subscript (.Name x p) b spos) X.env] := by rfl) :
    PSd X ms G0 H0 (.Assign [.Subscript (.Name x p) b spos] e pos) (sPutP i f g) := by
  refine ps_imp (ps_asg he (pg_sub (pe_var hN hv hd hcd) hb set_list ha) hs hw h1) fun D σ H ⟨F, env, dr, I, q⟩ => ?_
  unfold sPutP at q
  split at q
  · rename_i ds hd
    cases e1 : f (pk env) dr with
    | none => rw [e1] at q; exact q.elim
    | some r =>
      rw [e1] at q
      simp only [Option.bind_some] at q
      cases e2 : g (pk env) r.2 with
      | none => rw [e2] at q; exact q.elim
      | some r2 =>
        obtain ⟨d2, dr2⟩ := r2
        rw [e2] at q
        simp only [Option.bind_some] at q
        split at q
        · rename_i kk
          split at q
          · rename_i hsc
            cases e3 : ixN ds.length kk with
            | none => rw [e3] at q; exact q.elim
            | some j =>
              rw [e3] at q
              simp only [Option.bind_some] at q
              obtain ⟨pp, ep, o, n, m, z⟩ := I.ow i _ hd
              obtain ⟨vs, hp, hr⟩ := own_lst o
              refine ⟨_, pk env, dr, r.1, r.2, I.pkV, I.pkE, e1, fun v G1 H1 q1 a1 w1 => ⟨.ref pp, ep, ?_⟩⟩
              obtain ⟨I1, sb, kp⟩ := I.stepC a1 w1
              refine ⟨_, pk env, r.2, _, dr2, I1.pkV, I1.pkE, e2, fun v2 G2 H2 q2 a2 w2 => ?_⟩
              obtain ⟨I2, sb2, _⟩ := I1.stepC a2 w2
              have hp2 := a2.kp _ _ m (a1.kp _ _ m hp)
              refine ⟨pp, vs, kk, j, rfl, q2.int, hp2, by rw [hr.length]; exact e3, ?_⟩
              exact q _ σ _ (I2.write hd ep ⟨_, upd_same, (RepL.mono (fun x o z => sb2 x o (sb x o z)) _ hr).set j (Rep.mono sb2 _ (kp hsc q1))⟩) fun x o z => sb2 x o (sb x o z)
          · exact q.elim
        · exact q.elim
  · exact q.elim
end put

/-! ### a def -/
def runD (N n : Nat) (g : SDn) : FD := fun ds dr => if ds.length = n then match g (ds.map Sl.fr ++ List.replicate (N - n) Sl.no) dr with
  | some (.rt d, dr') => some (d, dr')
  | some (.nx _, dr') => some (.non, dr')
  | _ => none else none
def DefAt (K : PySem.W.Frag) (mg : Str → Option Value) (x : Str) (st : Stmt) : Prop := ∃ f fd, Fun K x x st f fd ∧ mg x = some (.ref f)
theorem fnx_of {P : Program} {w : World} {K : PySem.W.Frag} {mg : Str → Option Value} {base : Heap} {x : Str} {st : Stmt} {N ps : List Str} {k : Nat} {g : SDn} (hf : DefAt K mg x st) (S : FnScope N ps (defScope st))
    (hb : ∀ (kV doc pm : Value) (an : Option Addr) (cdv ct : Value) (us : List Value), us.length = ps.length → bindArgs (PySem.W.fnOf x x (defArgs st) (defBody st) (defScope st) .none kV doc pm an cdv ct) ⟨us, []⟩ = pure (ps.zip us))
    (body : ∀ (cdv : Value) (f : Addr) (A : Around) (outer : List Env) (s : Shared) (H : Hp) (E : XK) (ms : List Addr) (G0 : Hp), Room k (A.deeper (envOfC x (defScope st) s.heap.objs.size f cdv)) →
      PSsd (cxOf CX0 P w K mg base N x (defScope st) f cdv A outer s H E).nox ms G0 H (defBody st) g) : FnX P w K mg base x (k + 1) ps.length (runD N.length ps.length g) := by
  obtain ⟨f, fd, F, hm⟩ := hf
  refine ⟨⟨f, fd, ps, ?_, hm, F.kp, F.binds hb⟩, fun ds dr r h => ?_⟩
  · refine F.ok S (fun vs H Q E h => ?_) (fun cdv A outer s H vs Q E hr h => ?_)
    · obtain ⟨ms, G, dr, ds, d, dr', hl, _⟩ := h
      exact hl
    · obtain ⟨ms, G, dr, ds, d, dr', hl, w, r, hrun, kk⟩ := h
      refine ⟨_, body cdv f A outer s H E ms G hr, ?_⟩
      unfold runD at hrun
      have hdl : ds.length = ps.length := by rw [← r.length]; exact hl
      rw [if_pos hdl] at hrun
      have I : EInv ms G H G (ds.map Sl.fr ++ List.replicate (N.length - ps.length) Sl.no) dr (L2.start N vs) H := by
        refine ⟨w, .refl, by simp [L2.start, hl, hdl], fun i d' hi => ?_, fun i d' hi => ?_, fun i j d1 d2 p h1 => ?_⟩
        · by_cases hlt : i < ds.length
          · rw [List.getElem?_append_left (by simpa using hlt), List.getElem?_map] at hi
            cases e : ds[i]? with
            | none => rw [e] at hi; cases hi
            | some d0 =>
              rw [e] at hi
              simp only [Option.map_some, Option.some.injEq, Sl.fr.injEq] at hi
              subst hi
              obtain ⟨v, e1, q⟩ := r.get e
              refine ⟨v, ?_, q⟩
              unfold L2.start
              rw [List.getElem?_append_left (by rw [List.length_map, r.length]; exact hlt), List.getElem?_map, e1]
              rfl
          · rw [List.getElem?_append_right (by simpa using hlt), List.getElem?_replicate] at hi
            split at hi <;> cases hi
        · by_cases hlt : i < ds.length
          · rw [List.getElem?_append_left (by simpa using hlt), List.getElem?_map] at hi
            cases e : ds[i]? with
            | none => rw [e] at hi; cases hi
            | some d0 => rw [e] at hi; simp at hi
          · rw [List.getElem?_append_right (by simpa using hlt), List.getElem?_replicate] at hi
            split at hi <;> cases hi
        · by_cases hlt : i < ds.length
          · rw [List.getElem?_append_left (by simpa using hlt), List.getElem?_map] at h1
            cases e : ds[i]? with
            | none => rw [e] at h1; cases h1
            | some d0 => rw [e] at h1; simp at h1
          · rw [List.getElem?_append_right (by simpa using hlt), List.getElem?_replicate] at h1
            split at h1 <;> cases h1
      refine ⟨G, _, dr, I, ?_⟩
      split at hrun
      · rename_i e
        cases hrun
        rw [e]
        exact fun v G' H' q a w' => kk v G' H' q a w'
      · rename_i e
        cases hrun
        rw [e]
        exact fun F' σ' H' I' _ => kk .non F' H' rep_non I'.af I'.vw
      · cases hrun
  · unfold runD at h
    split at h
    · assumption
    · cases h
end Dk

set_option maxRecDepth 100000
namespace Dk
open PySem PySem.Spec PyProof.Rows L2

/-! ### built-ins -/
def insI (x : Int) : List Int → List Int
  | [] => [x]
  | y :: r => if x ≤ y then x :: y :: r else y :: insI x r
def sortI : List Int → List Int
  | [] => []
  | x :: r => insI x (sortI r)
theorem insI_perm (x : Int) : ∀ l : List Int, (insI x l).Perm (x :: l)
  | [] => .refl _
  | y :: r => by
    unfold insI
    split
    · exact .refl _
    · exact ((insI_perm x r).cons y).trans (.swap x y r)
theorem sortI_perm : ∀ l : List Int, (sortI l).Perm l
  | [] => .refl _
  | x :: r => (insI_perm x _).trans ((sortI_perm r).cons x)
theorem insI_sorted (x : Int) : ∀ l : List Int, l.Pairwise (· ≤ ·) → (insI x l).Pairwise (· ≤ ·)
  | [], _ => by simp [insI]
  | y :: r, h => by
    unfold insI
    split
    · rename_i hxy
      refine List.pairwise_cons.mpr ⟨fun z hz => ?_, h⟩
      rcases List.mem_cons.mp hz with rfl | hz
      · exact hxy
      · have := (List.pairwise_cons.mp h).1 z hz
        omega
    · rename_i hxy
      refine List.pairwise_cons.mpr ⟨fun z hz => ?_, insI_sorted x r (List.pairwise_cons.mp h).2⟩
      have hz := (insI_perm x r).mem_iff.mp hz
      rcases List.mem_cons.mp hz with rfl | hz
      · omega
      · exact (List.pairwise_cons.mp h).1 z hz
theorem sortI_sorted : ∀ l : List Int, (sortI l).Pairwise (· ≤ ·)
  | [] => .nil
  | x :: r => insI_sorted x _ (sortI_sorted r)
theorem sorted_eq : ∀ {l m : List Int}, l.Perm m → l.Pairwise (· ≤ ·) → m.Pairwise (· ≤ ·) → l = m
  | [], m, h, _, _ => h.nil_eq
  | x :: l, m, h, hl, hm => by
    cases m with
    | nil => exact absurd h.length_eq (by simp)
    | cons y m =>
      have e : x = y := by
        have h1 : x ∈ y :: m := h.mem_iff.mp (by simp)
        have h2 : y ∈ x :: l := h.mem_iff.mpr (by simp)
        have a1 : y ≤ x := by
          rcases List.mem_cons.mp h1 with q | q
          · omega
          · exact (List.pairwise_cons.mp hm).1 x q
        have a2 : x ≤ y := by
          rcases List.mem_cons.mp h2 with q | q
          · omega
          · exact (List.pairwise_cons.mp hl).1 y q
        omega
      subst e
      rw [sorted_eq ((List.perm_cons x).mp h) (List.pairwise_cons.mp hl).2 (List.pairwise_cons.mp hm).2]
def maxI : List Int → Int
  | [] => 0
  | [x] => x
  | x :: r => let m := maxI r; if x < m then m else x
def minI : List Int → Int
  | [] => 0
  | [x] => x
  | x :: r => let m := minI r; if m < x then m else x
theorem maxI_spec : ∀ {l : List Int}, l ≠ [] → maxI l ∈ l ∧ ∀ y ∈ l, y ≤ maxI l
  | [], h => absurd rfl h
  | [x], _ => by simp [maxI]
  | x :: y :: r, _ => by
    obtain ⟨h1, h2⟩ := maxI_spec (l := y :: r) (by simp)
    unfold maxI
    simp only
    split
    · rename_i q
      refine ⟨List.mem_cons_of_mem _ h1, fun z hz => ?_⟩
      rcases List.mem_cons.mp hz with rfl | hz
      · omega
      · exact h2 z hz
    · rename_i q
      refine ⟨by simp, fun z hz => ?_⟩
      rcases List.mem_cons.mp hz with rfl | hz
      · omega
      · have := h2 z hz; omega
theorem minI_spec : ∀ {l : List Int}, l ≠ [] → minI l ∈ l ∧ ∀ y ∈ l, minI l ≤ y
  | [], h => absurd rfl h
  | [x], _ => by simp [minI]
  | x :: y :: r, _ => by
    obtain ⟨h1, h2⟩ := minI_spec (l := y :: r) (by simp)
    unfold minI
    simp only
    split
    · rename_i q
      refine ⟨List.mem_cons_of_mem _ h1, fun z hz => ?_⟩
      rcases List.mem_cons.mp hz with rfl | hz
      · omega
      · exact h2 z hz
    · rename_i q
      refine ⟨by simp, fun z hz => ?_⟩
      rcases List.mem_cons.mp hz with rfl | hz
      · omega
      · have := h2 z hz; omega
def sumV : List D → Option D
  | [.lst ds] => (intsD ds).bind fun ns => some (.int ns.sum)
  | _ => none
def maxV : List D → Option D
  | [.lst ds] => (intsD ds).bind fun ns => if ns ≠ [] then some (.int (maxI ns)) else none
  | [.int i, .int j] => some (.int (if j > i then j else i))
  | _ => none
def minV : List D → Option D
  | [.lst ds] => (intsD ds).bind fun ns => if ns ≠ [] then some (.int (minI ns)) else none
  | [.int i, .int j] => some (.int (if j < i then j else i))
  | _ => none
def absV : List D → Option D
  | [.int i] => some (.int (if i < 0 then -i else i))
  | _ => none
def intV : List D → Option D
  | [.int i] => some (.int i)
  | [.bl b] => some (.int (if b then 1 else 0))
  | _ => none
def allV : List D → Option D
  | [.lst ds] => (blsD ds).bind fun bs => some (.bl (bs.all id))
  | _ => none
def anyV : List D → Option D
  | [.lst ds] => (blsD ds).bind fun bs => some (.bl (bs.any id))
  | _ => none
def gcdV : List D → Option D
  | [.int i, .int j] => some (.int ((Nat.gcd i.natAbs j.natAbs : Nat) : Int))
  | _ => none
def sortedV : List D → Option D
  | [.lst ds] => (intsD ds).bind fun ns => some (.lst ((sortI ns).map D.int))
  | _ => none
def listV : List D → Option D
  | [.lst ds] => some (.lst ds)
  | [.tup ds] => some (.lst ds)
  | _ => none
def tupleV : List D → Option D
  | [.lst ds] => some (.tup ds)
  | [.tup ds] => some (.tup ds)
  | _ => none
def tyD : D → Option String
  | .non => some "NoneType"
  | .bl _ => some "bool"
  | .int _ => some "int"
  | .str _ => some "str"
  | .lst _ => some "list"
  | .tup _ => some "tuple"
  | .dic _ _ => some "dict"
  | _ => none
def isiV (T : String) (d : D) : Option D := (tyD d).bind fun t => (kitB t T).bind fun b => some (.bl b)
def isi2V (T U : String) (d : D) : Option D := (tyD d).bind fun t => (kitB t T).bind fun b => (kitB t U).bind fun c => some (.bl (b || c))
section builtins
variable {X : Cx} {ms : List Addr}
theorem ints_of {G : Hp} {vs : List V} {ds : List D} {ns : List Int} (r : RepL G vs ds) (h : intsD ds = some ns) : vs = ns.map V.int := by
  rw [intsD_some h] at r
  exact r.ints_inv
theorem crd_len : CallR X (.builtin "len") (rDN ms lenV) := by
  intro pins s σ H xs us Q I rx ⟨G, dr, ds, d, w, q, h, k⟩
  unfold lenV at h
  split at h
  · cases h
    obtain ⟨v, rfl, q1⟩ := q.one
    obtain ⟨a, vs, rfl, e1, r1⟩ := q1.lst
    exact call_len_seq pins s σ H _ us Q I rx ⟨a, vs, rfl, .inl (.of (w.sub _ _ e1)), by rw [r1.length]; exact k _ G H rep_int .refl w⟩
  · cases h
    obtain ⟨v, rfl, q1⟩ := q.one
    obtain ⟨a, vs, rfl, e1, r1⟩ := q1.tup
    exact call_len_seq pins s σ H _ us Q I rx ⟨a, vs, rfl, .inr (.of (w.sub _ _ e1)), by rw [r1.length]; exact k _ G H rep_int .refl w⟩
  · cases h
    obtain ⟨v, rfl, q1⟩ := q.one
    simp only [Rep] at q1
    obtain ⟨a, vs, rfl, e1, l, r1⟩ := q1
    refine call_lenD pins s σ H _ us Q I rx ⟨a, _, rfl, w.sub _ _ e1, ?_⟩
    rw [List.length_zip, ← l, Nat.min_self]
    exact k _ G H rep_int .refl w
  · cases h
theorem crd_sum (hc : X.calm = true) : CallR X (.builtin "sum") (rDN ms sumV) := by
  refine callR_imp (cr_sum hc) fun xs H Q ⟨G, dr, ds, d, w, q, h, k⟩ => ?_
  unfold sumV at h
  split at h
  · simp only [Option.bind_eq_some_iff] at h
    obtain ⟨ns, h1, h2⟩ := h
    cases h2
    obtain ⟨v, rfl, q1⟩ := q.one
    obtain ⟨a, vs, rfl, e1, r1⟩ := q1.lst
    rw [ints_of r1 h1] at e1
    exact ⟨a, ns, rfl, .of (w.sub _ _ e1), k _ G H rep_int .refl w⟩
  · cases h
theorem crd_all (hc : X.calm = true) : CallR X (.builtin "all") (rDN ms allV) := by
  refine callR_imp (cr_all hc) fun xs H Q ⟨G, dr, ds, d, w, q, h, k⟩ => ?_
  unfold allV at h
  split at h
  · simp only [Option.bind_eq_some_iff] at h
    obtain ⟨ns, h1, h2⟩ := h
    cases h2
    obtain ⟨v, rfl, q1⟩ := q.one
    obtain ⟨a, vs, rfl, e1, r1⟩ := q1.lst
    rw [blsD_some h1] at r1
    rw [r1.bls_inv] at e1
    exact ⟨a, ns, rfl, .of (w.sub _ _ e1), k _ G H rep_bl .refl w⟩
  · cases h
theorem crd_any (hc : X.calm = true) : CallR X (.builtin "any") (rDN ms anyV) := by
  refine callR_imp (cr_any hc) fun xs H Q ⟨G, dr, ds, d, w, q, h, k⟩ => ?_
  unfold anyV at h
  split at h
  · simp only [Option.bind_eq_some_iff] at h
    obtain ⟨ns, h1, h2⟩ := h
    cases h2
    obtain ⟨v, rfl, q1⟩ := q.one
    obtain ⟨a, vs, rfl, e1, r1⟩ := q1.lst
    rw [blsD_some h1] at r1
    rw [r1.bls_inv] at e1
    exact ⟨a, ns, rfl, .of (w.sub _ _ e1), k _ G H rep_bl .refl w⟩
  · cases h
theorem crd_max (hc : X.calm = true) : CallR X (.builtin "max") (rDN ms maxV) := by
  intro pins s σ H xs us Q I rx ⟨G, dr, ds, d, w, q, h, k⟩
  unfold maxV at h
  split at h
  · simp only [Option.bind_eq_some_iff] at h
    obtain ⟨ns, h1, h2⟩ := h
    split at h2
    · rename_i hn
      cases h2
      obtain ⟨v, rfl, q1⟩ := q.one
      obtain ⟨a, vs, rfl, e1, r1⟩ := q1.lst
      rw [ints_of r1 h1] at e1
      refine cr_max hc pins s σ H _ us Q I rx ⟨a, ns, rfl, .of (w.sub _ _ e1), List.length_pos_iff.mpr hn, fun m hm hle => ?_⟩
      have e : m = maxI ns := by
        obtain ⟨z1, z2⟩ := maxI_spec hn
        have := z2 m hm
        have := hle _ z1
        omega
      rw [e]
      exact k _ G H rep_int .refl w
    · cases h2
  · cases h
    obtain ⟨v, u, rfl, q1, q2⟩ := q.two
    exact call_max2 hc pins s σ H _ us Q I rx ⟨_, _, by rw [q1.int, q2.int], k _ G H rep_int .refl w⟩
  · cases h
theorem crd_min (hc : X.calm = true) : CallR X (.builtin "min") (rDN ms minV) := by
  intro pins s σ H xs us Q I rx ⟨G, dr, ds, d, w, q, h, k⟩
  unfold minV at h
  split at h
  · simp only [Option.bind_eq_some_iff] at h
    obtain ⟨ns, h1, h2⟩ := h
    split at h2
    · rename_i hn
      cases h2
      obtain ⟨v, rfl, q1⟩ := q.one
      obtain ⟨a, vs, rfl, e1, r1⟩ := q1.lst
      rw [ints_of r1 h1] at e1
      refine cr_min hc pins s σ H _ us Q I rx ⟨a, ns, rfl, .of (w.sub _ _ e1), List.length_pos_iff.mpr hn, fun m hm hle => ?_⟩
      have e : m = minI ns := by
        obtain ⟨z1, z2⟩ := minI_spec hn
        have := z2 m hm
        have := hle _ z1
        omega
      rw [e]
      exact k _ G H rep_int .refl w
    · cases h2
  · cases h
    obtain ⟨v, u, rfl, q1, q2⟩ := q.two
    exact call_min2 hc pins s σ H _ us Q I rx ⟨_, _, by rw [q1.int, q2.int], k _ G H rep_int .refl w⟩
  · cases h
theorem crd_abs : CallR X (.builtin "abs") (rDN ms absV) := by
  refine callR_imp call_abs fun xs H Q ⟨G, dr, ds, d, w, q, h, k⟩ => ?_
  unfold absV at h
  split at h
  · cases h
    obtain ⟨v, rfl, q1⟩ := q.one
    exact ⟨_, by rw [q1.int], k _ G H rep_int .refl w⟩
  · cases h
theorem crd_gcd : CallR X (.builtin "math.gcd") (rDN ms gcdV) := by
  refine callR_imp cr_gcd fun xs H Q ⟨G, dr, ds, d, w, q, h, k⟩ => ?_
  unfold gcdV at h
  split at h
  · cases h
    obtain ⟨v, u, rfl, q1, q2⟩ := q.two
    exact ⟨_, _, by rw [q1.int, q2.int], k _ G H rep_int .refl w⟩
  · cases h
theorem crd_int : CallR X (.type "int") (rDN ms intV) := by
  refine callR_imp call_int1 fun xs H Q ⟨G, dr, ds, d, w, q, h, k⟩ => ?_
  unfold intV at h
  split at h
  · cases h
    obtain ⟨v, rfl, q1⟩ := q.one
    exact .inl ⟨_, by rw [q1.int], k _ G H rep_int .refl w⟩
  · cases h
    obtain ⟨v, rfl, q1⟩ := q.one
    exact .inr ⟨_, by rw [q1.bl], k _ G H rep_int .refl w⟩
  · cases h
theorem crf_sorted : CallR X (.builtin "sorted") (rFN ms sortedV) := by
  refine callR_imp cr_sortedI fun xs H Q ⟨G, dr, ds, d, w, q, h, k⟩ => ?_
  unfold sortedV at h
  split at h
  · simp only [Option.bind_eq_some_iff] at h
    obtain ⟨ns, h1, h2⟩ := h
    cases h2
    obtain ⟨v, rfl, q1⟩ := q.one
    obtain ⟨a, vs, rfl, e1, r1⟩ := q1.lst
    rw [ints_of r1 h1] at e1
    refine ⟨a, ns, rfl, .of (w.sub _ _ e1), fun ns' p pm sd hp => ?_⟩
    have e : ns' = sortI ns := sorted_eq (pm.trans (sortI_perm ns).symm) sd (sortI_sorted ns)
    subst e
    obtain ⟨o, a2, w2, n⟩ := own_new w hp (RepL.ints (G := G) (sortI ns))
    exact k p G _ o a2 w2 n hp
  · cases h
theorem crf_list : CallR X (.type "list") (rFN ms listV) := by
  refine callR_imp call_list_of fun xs H Q ⟨G, dr, ds, d, w, q, h, k⟩ => ?_
  unfold listV at h
  split at h
  · cases h
    obtain ⟨v, rfl, q1⟩ := q.one
    obtain ⟨a, vs, rfl, e1, r1⟩ := q1.lst
    refine ⟨a, vs, rfl, .inl (.of (w.sub _ _ e1)), fun p hp => ?_⟩
    obtain ⟨o, a2, w2, n⟩ := own_new w hp r1
    exact k p G _ o a2 w2 n hp
  · cases h
    obtain ⟨v, rfl, q1⟩ := q.one
    obtain ⟨a, vs, rfl, e1, r1⟩ := q1.tup
    refine ⟨a, vs, rfl, .inr (.of (w.sub _ _ e1)), fun p hp => ?_⟩
    obtain ⟨o, a2, w2, n⟩ := own_new w hp r1
    exact k p G _ o a2 w2 n hp
  · cases h
theorem crd_tuple : CallR X (.type "tuple") (rDN ms tupleV) := by
  refine callR_imp call_tuple_of fun xs H Q ⟨G, dr, ds, d, w, q, h, k⟩ => ?_
  unfold tupleV at h
  split at h
  · cases h
    obtain ⟨v, rfl, q1⟩ := q.one
    obtain ⟨a, vs, rfl, e1, r1⟩ := q1.lst
    refine ⟨a, vs, rfl, .inl ⟨.of (w.sub _ _ e1), fun p hp => ?_⟩⟩
    exact k _ _ _ (rep_newT w hp r1) (.alloc w hp _) (w.alloc hp _)
  · cases h
    obtain ⟨v, rfl, q1⟩ := q.one
    obtain ⟨a, vs, rfl, e1, r1⟩ := q1.tup
    exact ⟨a, vs, rfl, .inr ⟨.of (w.sub _ _ e1), k _ G H q1 .refl w⟩⟩
  · cases h
/-! ### isinstance -/
theorem tyx_of {K : PySem.W.Frag} {G H : Hp} (s : Sub G H) {v : V} : ∀ {d : D} {T : String}, Rep G v d → tyD d = some T → TyX K H v (.type T)
  | .non, T, r, h => by simp only [tyD, Option.some.injEq] at h; simp only [Rep] at r; subst h; subst r; exact .base .non
  | .bl _, T, r, h => by simp only [tyD, Option.some.injEq] at h; simp only [Rep] at r; subst h; subst r; exact .base (.bl _)
  | .int _, T, r, h => by simp only [tyD, Option.some.injEq] at h; simp only [Rep] at r; subst h; subst r; exact .base (.int _)
  | .str _, T, r, h => by simp only [tyD, Option.some.injEq] at h; simp only [Rep] at r; subst h; subst r; exact .base (.str _)
  | .lst _, T, r, h => by simp only [tyD, Option.some.injEq] at h; obtain ⟨a, vs, rfl, e, _⟩ := r.lst; subst h; exact .base (.lst (s _ _ e))
  | .tup _, T, r, h => by simp only [tyD, Option.some.injEq] at h; obtain ⟨a, vs, rfl, e, _⟩ := r.tup; subst h; exact .base (.tup (s _ _ e))
  | .dic _ _, T, r, h => by simp only [tyD, Option.some.injEq] at h; simp only [Rep] at r; obtain ⟨a, vs, rfl, e, _⟩ := r; subst h; exact .base (.dK (s _ _ e))
  | .dit _ _, T, r, h => by simp [tyD] at h
  | .tok _, T, r, h => by simp [tyD] at h
variable {a : Expr} {f : ED} {p pT pos : Pos} {x : Str}
theorem ped_isi {T : String} (hm : X.mg "isinstance" = none) (hT : X.mg x = none) (hv : bootBuiltins x = some (.type T)) (ha : PEd X ms a f) (hg : Gl X "isinstance" := by rfl) (hgT : Gl X x := by rfl) (hn : x ≠ "__name__" := by decide) (hd : (x == ("__debug__" : Str)) = false := by decide)
    (hs : starEach [a, .Name x pT] X.env = (false, eval a X.env) :: starEach [.Name x pT] X.env := by rfl) (hs2 : starEach [.Name x pT] X.env = (false, eval (.Name x pT) X.env) :: starEach [] X.env := by rfl) (hpl : (backTo pos (starEach [.Name x pT] X.env)).any (·.1) = false := by rfl) :
    PEd X ms (.Call (.Name "isinstance" p) [a, .Name x pT] [] pos) (e1 (isiV T) f) := by
  refine pe_imp (pe_callB call_isi hg hm boot_isinstance (pa_cons ha (pa_cons (pe_bltn (v := .ty T) (u := .type T) hgT hT hv rfl hn hd) pa_nil hs2) hs) (by decide) (by decide) hs hpl) fun σ H Q ⟨G, ρ, dr, d, dr', w, r, h, k⟩ => ?_
  obtain ⟨y, h1, h2⟩ := e1_inv h
  unfold isiV at h2
  simp only [Option.bind_eq_some_iff] at h2
  obtain ⟨t, t1, b, t2, t3⟩ := h2
  cases t3
  refine ⟨G, ρ, dr, y, dr', w, r, h1, fun v G1 H1 q1 a1 w1 => ?_⟩
  exact ⟨v, .ty T, .type t, .type T, b, rfl, .ty T, tyx_of w1.sub q1 t1, kit_ty t2, k _ G1 H1 rep_bl a1 w1⟩
/-! ### slices -/
def cutD (xs : List D) (lo hi : Option Int) : List D := (xs.drop (HT.sIx xs.length 0 lo)).take (HT.sIx xs.length xs.length hi - HT.sIx xs.length 0 lo)
theorem cut_rep {G : Hp} {vs : List V} {ds : List D} (r : RepL G vs ds) (lo hi : Option Int) : RepL G (cutV vs lo hi) (cutD ds lo hi) := by
  unfold cutV cutD
  rw [r.length]
  exact (r.drop _).take _
abbrev OD := List (Option D) → Dr → Option (Option Int × Dr)
def tDO (ms : List Addr) (f : OD) : TO := fun σ H Q => ∃ G ρ dr d dr', Vw ms dr G H ∧ RepE G ρ σ ∧ f ρ dr = some (d, dr') ∧ ∀ G' H', Aft ms G H G' H' → Vw ms dr' G' H' → Q d H'
def POd (X : Cx) (ms : List Addr) (e : Option Expr) (f : OD) : Prop := PO X e (tDO ms f)
theorem po_imp {e : Option Expr} {t t' : TO} (h : PO X e t) (i : ∀ σ H Q, t' σ H Q → t σ H Q) : PO X e t' := ⟨fun pins s σ H Q I hw => h.run pins s σ H Q I (i σ H Q hw)⟩
def oN : OD := fun _ dr => some (none, dr)
def oS (f : ED) : OD := fun ρ dr => (f ρ dr).bind fun p => match p.1 with
  | .int i => some (some i, p.2)
  | _ => none
theorem pod_none : POd X ms none oN := po_imp po_none fun σ H Q ⟨G, ρ, dr, d, dr', w, r, h, k⟩ => by
  cases h
  exact k G H .refl w
theorem pod_some {e : Expr} (h : PEd X ms e f) : POd X ms (some e) (oS f) := po_imp (po_some h) fun σ H Q ⟨G, ρ, dr, d, dr', w, r, h, k⟩ => by
  simp only [oS, Option.bind_eq_some_iff] at h
  obtain ⟨⟨y, dr1⟩, h1, h2⟩ := h
  split at h2
  · rename_i i hi
    cases h2
    simp only at hi
    subst hi
    exact ⟨G, ρ, dr, _, _, w, r, h1, fun v G1 H1 q1 a1 w1 => ⟨i, q1.int, k G1 H1 a1 w1⟩⟩
  · cases h2
def slV (x : D) (lo hi : Option Int) : Option D := match x with
  | .lst ds => some (.lst (cutD ds lo hi))
  | .tup ds => some (.tup (cutD ds lo hi))
  | _ => none
def slL (x : D) (lo hi : Option Int) : Option D := match x with
  | .lst ds => some (.lst (cutD ds lo hi))
  | _ => none
def e3 (φ : D → Option Int → Option Int → Option D) (f : ED) (g h : OD) : ED := fun ρ dr => (f ρ dr).bind fun p => (g ρ p.2).bind fun q => (h ρ q.2).bind fun r => (φ p.1 q.1 r.1).bind fun d => some (d, r.2)
theorem e3_inv {φ : D → Option Int → Option Int → Option D} {f : ED} {g h : OD} {ρ : List (Option D)} {dr dr' : Dr} {d : D} (q : e3 φ f g h ρ dr = some (d, dr')) : ∃ x dr1 lo dr2 hi, f ρ dr = some (x, dr1) ∧ g ρ dr1 = some (lo, dr2) ∧ h ρ dr2 = some (hi, dr') ∧ φ x lo hi = some d := by
  simp only [e3, Option.bind_eq_some_iff] at q
  obtain ⟨⟨x, dr1⟩, h1, ⟨y, dr2⟩, h2, ⟨z, dr3⟩, h3, d', h4, h5⟩ := q
  cases h5
  exact ⟨x, dr1, y, dr2, z, h1, h2, h3, h4⟩
theorem ped_slice {e : Expr} {lo hi : Option Expr} {g h : OD} {p2 : Pos} (he : PEd X ms e f) (hl : POd X ms lo g) (hh : POd X ms hi h) : PEd X ms (.Subscript e (.Slice lo hi none p2) pos) (e3 slV f g h) := by
  refine pe_imp (pe_slice (sl_list.or sl_tupA) he hl hh) fun σ H Q ⟨G, ρ, dr, d, dr', w, r, h, k⟩ => ?_
  obtain ⟨x, dr1, l, dr2, u, h1, h2, h3, h4⟩ := e3_inv h
  refine ⟨G, ρ, dr, x, dr1, w, r, h1, fun v G1 H1 q1 a1 w1 => ?_⟩
  refine ⟨G1, ρ, dr1, l, dr2, w1, r.mono a1.gr, h2, fun G2 H2 a2 w2 => ?_⟩
  refine ⟨G2, ρ, dr2, u, dr', w2, (r.mono a1.gr).mono a2.gr, h3, fun G3 H3 a3 w3 => ?_⟩
  have q3 := Rep.mono a3.gr _ (Rep.mono a2.gr _ q1)
  have a := a1.trans (a2.trans a3)
  unfold slV at h4
  split at h4
  · cases h4
    obtain ⟨b, vs, rfl, e1, r1⟩ := q3.lst
    refine .inl ⟨b, vs, rfl, .of (w3.sub _ _ e1), fun p hp => ?_⟩
    exact k _ _ _ (rep_new w3 hp (cut_rep r1 l u)) (a.trans (.alloc w3 hp _)) (w3.alloc hp _)
  · cases h4
    obtain ⟨b, vs, rfl, e1, r1⟩ := q3.tup
    refine .inr ⟨b, vs, rfl, .of (w3.sub _ _ e1), fun hw => ?_, fun _ p hp => ?_⟩
    · refine k _ G3 H3 ?_ a w3
      rw [r1.length] at hw
      unfold cutD
      rw [hw.1, hw.2, List.drop_zero, Nat.sub_zero, List.take_length]
      exact q3
    · exact k _ _ _ (rep_newT w3 hp (cut_rep r1 l u)) (a.trans (.alloc w3 hp _)) (w3.alloc hp _)
  · cases h4
/-! ### truth -/
def truD : D → Option Bool
  | .non => some false
  | .bl b => some b
  | .int i => some (i != 0)
  | .lst ds => some !ds.isEmpty
  | .tup ds => some !ds.isEmpty
  | _ => none
def tTru (f : ED) : TDn := fun ρ dr => (f ρ dr).bind fun p => (truD p.1).bind fun b => some (b, p.2)
theorem ptd_truth (ha : PEd X ms a f) (he : ∀ whole, isTrue a X.env whole = (do let v ← whole; standAt a.pos; holding [v] (truthy v)) := by intro _; rfl) : PTd X ms a (tTru f) := by
  refine pt_imp (pt_truth ha he) fun σ H Q ⟨G, ρ, dr, d, dr', w, r, h, k⟩ => ?_
  simp only [tTru, Option.bind_eq_some_iff] at h
  obtain ⟨⟨y, dr1⟩, h1, b, h2, h3⟩ := h
  cases h3
  refine ⟨G, ρ, dr, y, dr1, w, r, h1, fun v G1 H1 q1 a1 w1 => ⟨d, ?_, k G1 H1 a1 w1⟩⟩
  cases y with
  | non => simp only [Rep] at q1; subst q1; simp only [truD, Option.some.injEq] at h2; exact h2.symm
  | bl b => simp only [Rep] at q1; subst q1; simp only [truD, Option.some.injEq] at h2; exact h2.symm
  | int b => simp only [Rep] at q1; subst q1; simp only [truD, Option.some.injEq] at h2; exact h2.symm
  | lst ds =>
    obtain ⟨b, vs, rfl, e1, r1⟩ := q1.lst
    simp only [truD, Option.some.injEq] at h2
    refine .inl ⟨vs, .of (w1.sub _ _ e1), ?_⟩
    rw [← h2]
    have := r1.length
    cases vs <;> cases ds <;> simp at this ⊢
  | tup ds =>
    obtain ⟨b, vs, rfl, e1, r1⟩ := q1.tup
    simp only [truD, Option.some.injEq] at h2
    refine .inr (.inl ⟨vs, .of (w1.sub _ _ e1), ?_⟩)
    rw [← h2]
    have := r1.length
    cases vs <;> cases ds <;> simp at this ⊢
  | str _ => simp [truD] at h2
  | dic _ _ => simp [truD] at h2
  | dit _ _ => simp [truD] at h2
  | tok _ => simp [truD] at h2
end builtins
end Dk

set_option maxRecDepth 100000
set_option maxHeartbeats 4000000
/-! Dk7: sorted of lists of tuples of ints, any number of them; comprehensions with two fors -/
namespace Dk
open PySem PySem.Spec PyProof.Rows L2

theorem lexLt_asym : ∀ x y : List Int, HT.lexLt x y = true → HT.lexLt y x = false
  | [], [], h => by simp [HT.lexLt] at h
  | [], _ :: _, _ => rfl
  | _ :: _, [], h => by simp [HT.lexLt] at h
  | a :: x, b :: y, h => by
    rw [HT.lexLt_cons] at h ⊢
    by_cases e : a = b
    · rw [if_pos e] at h
      rw [if_pos e.symm]
      exact lexLt_asym x y h
    · rw [if_neg e] at h
      rw [if_neg (Ne.symm e)]
      have := of_decide_eq_true h
      exact decide_eq_false (by omega)
theorem lexLt_tr : ∀ x y z : List Int, HT.lexLt y x = false → HT.lexLt z y = false → HT.lexLt z x = false
  | [], _, [], _, _ => rfl
  | [], [], _ :: _, _, h => by simp [HT.lexLt] at h ⊢
  | [], _ :: _, _ :: _, h, _ => by simp [HT.lexLt]
  | _ :: _, [], _, h, _ => by simp [HT.lexLt] at h
  | _ :: _, _ :: _, [], _, h => by simp [HT.lexLt] at h
  | a :: x, b :: y, c :: z, h1, h2 => by
    rw [HT.lexLt_cons] at h1 h2 ⊢
    by_cases e1 : b = a
    · rw [if_pos e1] at h1
      by_cases e2 : c = b
      · rw [if_pos e2] at h2
        rw [if_pos (e2.trans e1)]
        exact lexLt_tr x y z h1 h2
      · rw [if_neg e2] at h2
        have := of_decide_eq_false h2
        rw [if_neg (by omega)]
        exact decide_eq_false (by omega)
    · rw [if_neg e1] at h1
      have q1 := of_decide_eq_false h1
      by_cases e2 : c = b
      · rw [if_neg (by omega)]
        exact decide_eq_false (by omega)
      · rw [if_neg e2] at h2
        have q2 := of_decide_eq_false h2
        rw [if_neg (by omega)]
        exact decide_eq_false (by omega)
theorem lexLt_anti : ∀ x y : List Int, HT.lexLt x y = false → HT.lexLt y x = false → x = y
  | [], [], _, _ => rfl
  | [], _ :: _, h, _ => by simp [HT.lexLt] at h
  | _ :: _, [], _, h => by simp [HT.lexLt] at h
  | a :: x, b :: y, h1, h2 => by
    rw [HT.lexLt_cons] at h1 h2
    by_cases e : a = b
    · rw [if_pos e] at h1
      rw [if_pos e.symm] at h2
      rw [e, lexLt_anti x y h1 h2]
    · rw [if_neg e] at h1
      rw [if_neg (Ne.symm e)] at h2
      have := of_decide_eq_false h1
      have := of_decide_eq_false h2
      omega
theorem swo_lexk {α : Type} (k : α → List Int) : SrtO.Swo fun v u => HT.lexLt (k v) (k u) := ⟨fun x y => lexLt_asym _ _, fun x y z => lexLt_tr _ _ _⟩
def insT (x : List Int) : List (List Int) → List (List Int)
  | [] => [x]
  | y :: r => if HT.lexLt y x = true then y :: insT x r else x :: y :: r
def sortT : List (List Int) → List (List Int)
  | [] => []
  | x :: r => insT x (sortT r)
theorem insT_perm (x : List Int) : ∀ l : List (List Int), (insT x l).Perm (x :: l)
  | [] => .refl _
  | y :: r => by
    unfold insT
    split
    · exact ((insT_perm x r).cons y).trans (.swap x y r)
    · exact .refl _
theorem sortT_perm : ∀ l : List (List Int), (sortT l).Perm l
  | [] => .refl _
  | x :: r => (insT_perm x _).trans ((sortT_perm r).cons x)
abbrev lexLe (x y : List Int) : Prop := HT.lexLt y x = false
theorem insT_sorted (x : List Int) : ∀ l : List (List Int), l.Pairwise lexLe → (insT x l).Pairwise lexLe
  | [], _ => by simp [insT]
  | y :: r, h => by
    unfold insT
    split
    · rename_i hxy
      refine List.pairwise_cons.mpr ⟨fun z hz => ?_, insT_sorted x r (List.pairwise_cons.mp h).2⟩
      rcases List.mem_cons.mp ((insT_perm x r).mem_iff.mp hz) with rfl | hz
      · exact lexLt_asym _ _ hxy
      · exact (List.pairwise_cons.mp h).1 z hz
    · rename_i hxy
      have hxy : HT.lexLt y x = false := by simpa using hxy
      refine List.pairwise_cons.mpr ⟨fun z hz => ?_, h⟩
      rcases List.mem_cons.mp hz with rfl | hz
      · exact hxy
      · exact lexLt_tr _ _ _ hxy ((List.pairwise_cons.mp h).1 z hz)
theorem sortT_sorted : ∀ l : List (List Int), (sortT l).Pairwise lexLe
  | [] => .nil
  | x :: r => insT_sorted x _ (sortT_sorted r)
theorem lexRefl : ∀ x : List Int, HT.lexLt x x = false
  | [] => rfl
  | a :: x => by rw [HT.lexLt_cons, if_pos rfl]; exact lexRefl x
theorem sortedT_eq : ∀ {l m : List (List Int)}, l.Perm m → l.Pairwise lexLe → m.Pairwise lexLe → l = m
  | [], m, h, _, _ => h.nil_eq
  | x :: l, m, h, hl, hm => by
    cases m with
    | nil => exact absurd h.length_eq (by simp)
    | cons y m =>
      have e : x = y := by
        have h1 : x ∈ y :: m := h.mem_iff.mp (by simp)
        have h2 : y ∈ x :: l := h.mem_iff.mpr (by simp)
        refine lexLt_anti _ _ ?_ ?_
        · rcases List.mem_cons.mp h1 with q | q
          · rw [q]; exact lexRefl _
          · exact (List.pairwise_cons.mp hm).1 x q
        · rcases List.mem_cons.mp h2 with q | q
          · rw [q]; exact lexRefl _
          · exact (List.pairwise_cons.mp hl).1 y q
      subst e
      rw [sortedT_eq ((List.perm_cons x).mp h) (List.pairwise_cons.mp hl).2 (List.pairwise_cons.mp hm).2]

section srt
variable {prog : Program} {w : World} {A : Around} {E : Value → Shared → Prop} {s : Shared}
theorem kat_ints {Q : Bool → Shared → Prop} : ∀ {xs ys : List Value} {ns ms : List Int} (i : Nat), IntsAre xs ns → IntsAre ys ms → Q (HT.lexLt ns ms) s →
    PySem.W.KatLex prog w A true (decide (xs.length < ys.length)) Q (xs.zip ys) i s
  | _, _, _, _, _, .nil, .nil, h => PySem.W.kat_nil h
  | _, _, _, _, _, .nil, .cons _ _ _, h => PySem.W.kat_nil (by simpa [HT.lexLt] using h)
  | _, _, _, _, _, .cons _ _ _, .nil, h => PySem.W.kat_nil (by simpa [HT.lexLt] using h)
  | _, _, _, _, i, .cons x t r, .cons y u r', h => by
    rw [HT.lexLt_cons] at h
    simp only [List.zip_cons_cons, List.length_cons]
    refine PySem.W.kat_cons (SeqAt.EqAt.int_int x t y u prog w _ _ ?_)
    refine PySem.W.kat_go (fun e1 => ?_) (fun e1 => ?_)
    · have ex : x = y := by simpa using e1
      rw [if_pos ex] at h
      refine PySem.W.kat_yes ?_
      have := kat_ints (i + 1) r r' h
      simpa using this
    · have ex : ¬ x = y := by simpa using e1
      rw [if_neg ex] at h
      refine PySem.W.kat_no ?_
      by_cases hi : i = 0
      · subst hi
        exact oneLt_int h
      · have e0 : (true && i == 0) = false := by simp [hi]
        rw [e0]
        exact PySem.W.kat_one _ _ (PyProof.Rows.lt_int h)
abbrev TupI (h : Heap) (v : Value) (ns : List Int) : Prop := ∃ a xs, v = Value.ref a ∧ IsTup h a xs ∧ IntsAre xs.toList ns
theorem tups_cmp {vs : List Value} {k : Value → List Int} (hp : ∀ v ∈ vs, TupI s.heap v (k v)) : SrtO.Cmp prog w A s (tuples' true) (fun p => p.1 ∈ vs) (SrtO.lt2 fun v u => HT.lexLt (k v) (k u)) := by
  intro p q hm hm'
  obtain ⟨a, xs, e1, ⟨o, ho, hc, n, hd⟩, i1⟩ := hp _ hm
  obtain ⟨b, ys, e2, ⟨o', ho', hc', n', hd'⟩, i2⟩ := hp _ hm'
  show wpAny (model prog w) A (keyLt' (tuples' true) p.1 q.1) (fun r s' => s' = s ∧ r = HT.lexLt (k p.1) (k q.1)) (fun _ _ => False) s
  generalize k p.1 = ns at i1 ⊢
  generalize k q.1 = ms at i2 ⊢
  rw [e1, e2]
  refine PySem.W.kat_lt ho hd ho' hd' ?_
  have := kat_ints (prog := prog) (w := w) (A := A) (s := s) (Q := fun r s' => s' = s ∧ r = HT.lexLt ns ms) 0 i1 i2 ⟨rfl, rfl⟩
  simpa using this
theorem tups_firsts {h : Heap} {k : Value → List Int} : ∀ {vs : List Value}, (∀ v ∈ vs, TupI h v (k v) ∧ k v ≠ []) → ∃ fs : List Value, PySem.W.KatTups h vs fs ∧ fs.length = vs.length ∧ ∀ f ∈ fs, ∃ x t, f = Value.int x t
  | [], _ => ⟨[], PySem.W.KatTups.nil, rfl, fun _ hm => by simp at hm⟩
  | v :: vs, hp => by
    obtain ⟨fs, h1, h2, h3⟩ := tups_firsts (vs := vs) fun v' hm => hp v' (List.mem_cons_of_mem _ hm)
    obtain ⟨⟨a, xs, e, ⟨o, ho, hc, n, hd⟩, i⟩, hne⟩ := hp v (List.mem_cons_self ..)
    subst e
    generalize k (Value.ref a) = ns at i hne
    obtain ⟨xl⟩ := xs
    cases i with
    | nil => exact absurd rfl hne
    | cons x t r =>
      refine ⟨_ :: fs, PySem.W.KatTups.cons ho hc hd (f := .int x t) (by simp) h1, by simp [h2], fun f hf => ?_⟩
      rcases List.mem_cons.mp hf with rfl | hf
      · exact ⟨x, t, rfl⟩
      · exact h3 f hf
theorem TupI.keeps {h h' : Heap} {v : Value} {ns : List Int} (x : TupI h v ns) (k : ∀ b o, h.get? b = some o → o.cls = .type "tuple" → h'.get? b = some o) : TupI h' v ns := by
  obtain ⟨a, xs, e, ⟨o, ho, hc, hd⟩, i⟩ := x
  exact ⟨a, xs, e, ⟨o, k _ _ ho hc, hc, hd⟩, i⟩
theorem tups_sortable {a : Addr} {vs : List Value} {k : Value → List Int} (h0 : 0 < vs.length) (hp : ∀ v ∈ vs, TupI s.heap v (k v) ∧ k v ≠ []) (ha : ∀ o, s.heap.get? a = some o → o.cls ≠ .type "tuple") :
    SrtO.SortableO prog w A s a vs fun v u => HT.lexLt (k v) (k u) := by
  intro h' keep
  have hp' : ∀ v ∈ vs, TupI h' v (k v) ∧ k v ≠ [] := fun v hm => ⟨(hp v hm).1.keeps fun b o e c => keep b o (fun z => by subst z; exact ha o e c) e, (hp v hm).2⟩
  obtain ⟨fs, h1, h2, h3⟩ := tups_firsts hp'
  refine ⟨tuples' true, fun Q E hq => ?_, tups_cmp fun v hm => (hp' v hm).1⟩
  refine PySem.W.kat_kind (T := .type "int") h1 (by omega) (fun f hm => ?_) (by rfl) ?_
  · obtain ⟨x, t, rfl⟩ := h3 f hm
    exact PySem.W.Looks.now
  · have e : (Value.type "int" != Value.type "tuple") = true := by first | decide +kernel | rfl | decide
    rw [e]
    exact hq
end srt
/-- sorted(xs), tuples of ints, none empty -/
def rSortT (K : PySem.W.Frag) : List V → Hp → VK → Prop := fun vs H Q => ∃ (a : Addr) (xs : List V) (k : V → List Int), vs = [V.ref a] ∧ SqL K H a xs ∧ (∀ x ∈ xs, k x ≠ [] ∧ ∃ t, x = V.ref t ∧ H t = some (.tup ((k x).map V.int))) ∧
  ∀ ys p, (ys.map k).Pairwise lexLe → ys.Perm xs → H p = none → Q (.ref p) (upd H p (.lst ys))
theorem cr_sortT {X : Cx} : CallR X (.builtin "sorted") (rSortT X.K) := by
  intro pins s σ H vs us Q I r h
  obtain ⟨a, xs, k, rfl, hs, hx, q⟩ := h
  obtain ⟨its, rv, hl, hz⟩ := I.list hs
  obtain ⟨u, rfl, ru⟩ := vals1 r
  obtain rfl : u = Value.ref a := ru
  obtain ⟨e1, e2⟩ := refs_back rv fun x m => by
    obtain ⟨_, t, e, _⟩ := hx x m
    exact ⟨t, e⟩
  have hp : ∀ v ∈ its, TupI s.heap v (k (backV v)) ∧ k (backV v) ≠ [] := fun v hv => by
    obtain ⟨t, rfl⟩ := e2 v hv
    have hm : V.ref t ∈ xs := by rw [e1]; exact List.mem_map.mpr ⟨_, hv, rfl⟩
    obtain ⟨hne, t', e, ht⟩ := hx _ hm
    cases e
    obtain ⟨_, its2, r2, ht2⟩ := I.hok _ _ ht
    exact ⟨⟨t, its2.toArray, rfl, ht2, by show IntsAre its2 (k (V.ref t)); exact r2.ints⟩, hne⟩
  refine SrtO.sorted_ord (swo_lexk fun u => k (backV u)) hl.isList (by rw [← rv.length]; exact hz) (fun h2 h₁ a' ha kk => ?_) fun out h1 h2 => ?_
  · refine tups_sortable (s := { s with heap := h₁ }) (by omega) (fun v hm => ⟨(hp v hm).1.keeps fun b o e _ => (kk b o e).2, (hp v hm).2⟩) fun o e => ?_
    have e' : some o = some (seqObj "list" its.toArray 0) := e.symm.trans ha
    cases e'
    intro c
    exact absurd (Value.type.inj c) (by decide)
  · have h3 : ∀ u ∈ out, ∃ a, u = Value.ref a := fun u hu => e2 u (h2.perm.mem_iff.mp hu)
    obtain ⟨n, hn⟩ := PyProof.Rows.sortedAll_at s.heap its out.toArray
    have hperm : (out.map backV).Perm xs := by rw [e1]; exact h2.perm.map _
    refine ⟨.ref _, upd H (s.heap.objs.size + 1) (.lst (out.map backV)), I.laid (t' := s.toks) (fun _ _ => PyProof.Rows.sortedAll_old) (Nat.le_succ _) ⟨?_, out, n, vals_back h3, hn⟩, rfl, q _ _ ?_ hperm (I.hok.fresh (Nat.le_succ _))⟩
    · rw [hperm.length_eq]
      exact hz
    · rw [List.map_map]
      exact List.pairwise_map.mpr h1
/-- tuples of ints, none empty -/
def tupsD : List D → Option (List (List Int))
  | [] => some []
  | .tup ds :: r => (intsD ds).bind fun ns => if ns ≠ [] then (tupsD r).bind fun t => some (ns :: t) else none
  | _ :: _ => none
def tupI (ns : List Int) : D := .tup (ns.map D.int)
theorem tupsD_some : ∀ {ds : List D} {ts : List (List Int)}, tupsD ds = some ts → ds = ts.map tupI ∧ ∀ t ∈ ts, t ≠ []
  | [], ts, h => by simp [tupsD] at h; subst h; exact ⟨rfl, by simp⟩
  | .tup xs :: r, ts, h => by
    simp only [tupsD, Option.bind_eq_some_iff] at h
    obtain ⟨ns, h1, h2⟩ := h
    split at h2
    · rename_i hn
      simp only [Option.bind_eq_some_iff] at h2
      obtain ⟨t, h3, h4⟩ := h2
      cases h4
      obtain ⟨e, hh⟩ := tupsD_some h3
      refine ⟨by rw [e, intsD_some h1]; rfl, fun t ht => ?_⟩
      rcases List.mem_cons.mp ht with rfl | ht
      · exact hn
      · exact hh t ht
    · cases h2
  | .non :: _, ts, h => by simp [tupsD] at h
  | .bl _ :: _, ts, h => by simp [tupsD] at h
  | .int _ :: _, ts, h => by simp [tupsD] at h
  | .str _ :: _, ts, h => by simp [tupsD] at h
  | .lst _ :: _, ts, h => by simp [tupsD] at h
  | .dic _ _ :: _, ts, h => by simp [tupsD] at h
  | .dit _ _ :: _, ts, h => by simp [tupsD] at h
  | .tok _ :: _, ts, h => by simp [tupsD] at h
theorem tupsD_map : ∀ {ts : List (List Int)}, (∀ t ∈ ts, t ≠ []) → tupsD (ts.map tupI) = some ts
  | [], _ => rfl
  | t :: ts, h => by
    simp only [List.map_cons, tupI, tupsD, intsD_map, Option.bind_some]
    rw [if_pos (h t (by simp))]
    rw [tupsD_map (ts := ts) fun u hu => h u (by simp [hu])]
    rfl
def sortedTV : List D → Option D
  | [.lst ds] => (tupsD ds).bind fun ts => some (.lst ((sortT ts).map tupI))
  | _ => none
section srt2
variable {X : Cx} {ms : List Addr}
theorem rep_tups {G : Hp} : ∀ {vs : List V} {ts : List (List Int)}, RepL G vs (ts.map tupI) → ∃ ps : List Addr, vs = ps.map V.ref ∧ ps.length = ts.length ∧ ∀ (i : Nat) p, ps[i]? = some p → ∃ t : List Int, ts[i]? = some t ∧ G p = some (.tup (t.map V.int))
  | vs, [], r => ⟨[], by rw [r.inv0]; rfl, rfl, fun i p h => by simp at h⟩
  | vs, t :: ts, r => by
    obtain ⟨v, r', rfl, h1, h2⟩ := r.inv
    obtain ⟨ps, e1, e2, e3⟩ := rep_tups h2
    obtain ⟨a, us, rfl, e, q⟩ := Rep.tup (show Rep G v (.tup (t.map D.int)) from h1)
    refine ⟨a :: ps, by rw [e1]; rfl, by simp [e2], fun i p h => ?_⟩
    cases i with
    | zero => simp at h; subst h; exact ⟨t, rfl, by rw [e, q.ints_inv]⟩
    | succ i => simp at h; obtain ⟨t', g1, g2⟩ := e3 i p h; exact ⟨t', by simpa using g1, g2⟩
def readT (G : Hp) (v : V) : List Int := match v with
  | .ref a => match G a with
    | some (.tup xs) => xs.filterMap fun x => match x with | .int i => some i | _ => none
    | _ => []
  | _ => []
theorem readT_at {G : Hp} {a : Addr} {t : List Int} (h : G a = some (.tup (t.map V.int))) : readT G (.ref a) = t := by
  unfold readT
  simp only [h]
  rw [List.filterMap_map]
  clear h
  induction t with
  | nil => rfl
  | cons x t ih => exact congrArg (x :: ·) ih
theorem crf_sortedT : CallR X (.builtin "sorted") (rFN ms sortedTV) := by
  refine callR_imp cr_sortT fun xs H Q ⟨G, dr, ds, d, w, q, h, k⟩ => ?_
  unfold sortedTV at h
  split at h
  · simp only [Option.bind_eq_some_iff] at h
    obtain ⟨ts, h1, h2⟩ := h
    cases h2
    obtain ⟨v, rfl, q1⟩ := q.one
    obtain ⟨a, vs, rfl, e1, r1⟩ := q1.lst
    obtain ⟨e2, hne⟩ := tupsD_some h1
    rw [e2] at r1
    obtain ⟨ps, rfl, hl, hp⟩ := rep_tups r1
    have hk : (ps.map V.ref).map (readT G) = ts := by
      apply List.ext_getElem?
      intro i
      simp only [List.map_map, List.getElem?_map]
      cases e : ps[i]? with
      | none =>
        have : ps.length ≤ i := List.getElem?_eq_none_iff.mp e
        rw [List.getElem?_eq_none (by omega)]
        rfl
      | some p =>
        obtain ⟨t, g1, g2⟩ := hp i p e
        rw [g1]
        simp [readT_at g2]
    have hrep : ∀ v ∈ ps.map V.ref, ∃ p t, v = V.ref p ∧ G p = some (.tup (t.map V.int)) ∧ t ∈ ts := fun v hv => by
      obtain ⟨p, hp1, rfl⟩ := List.mem_map.mp hv
      obtain ⟨i, hi⟩ := List.getElem?_of_mem hp1
      obtain ⟨t, g1, g2⟩ := hp i p hi
      exact ⟨p, t, rfl, g2, List.mem_of_getElem? g1⟩
    refine ⟨a, ps.map V.ref, readT G, rfl, .of (w.sub _ _ e1), fun x hx => ?_, fun ys p hs hperm hpn => ?_⟩
    · obtain ⟨p, t, rfl, g, ht⟩ := hrep x hx
      rw [readT_at g]
      exact ⟨hne t ht, p, rfl, w.sub _ _ g⟩
    · have e : ys.map (readT G) = sortT ts := sortedT_eq ((hperm.map _).trans (by rw [hk]; exact (sortT_perm ts).symm)) hs (sortT_sorted ts)
      have rep : ∀ (zs : List V), (∀ v ∈ zs, v ∈ ps.map V.ref) → RepL G zs ((zs.map (readT G)).map tupI) := fun zs => by
        induction zs with
        | nil => intro _; exact .nil
        | cons z zs ih =>
          intro hz
          obtain ⟨p, t, rfl, g, _⟩ := hrep z (hz z (by simp))
          refine .cons ?_ (ih fun v hv => hz v (by simp [hv]))
          rw [readT_at g]
          simp only [tupI, Rep]
          exact ⟨p, _, rfl, g, RepL.ints t⟩
      have r2 := rep ys fun v hv => hperm.mem_iff.mp hv
      rw [e] at r2
      obtain ⟨o, a2, w2, n⟩ := own_new w hpn r2
      exact k p G _ o a2 w2 n hpn
  · cases h
end srt2
end Dk

set_option maxRecDepth 100000
set_option maxHeartbeats 4000000
/-! Dk8: comprehensions with two fors -/
namespace Dk
open PySem PySem.Spec PyProof.Rows L2
def lcD2 (ρ0 : List (Option D)) (t : TcD) (c : TDn) (src1 : AD) (vs1 : List Nat) (t1 : TcD) (c1 : TDn) (e : ED) : List D → Dr → Option (List D × Dr)
  | [], dr => some ([], dr)
  | d :: ds, dr => (t d ρ0).bind fun ρ1 => (c ρ1 dr).bind fun p => if p.1 = true then (src1 ρ1 p.2).bind fun q => (lcD (wipeE ρ1 vs1) t1 c1 e q.1 q.2).bind fun r => (lcD2 ρ0 t c src1 vs1 t1 c1 e ds r.2).bind fun u => some (r.1 ++ u.1, u.2)
    else lcD2 ρ0 t c src1 vs1 t1 c1 e ds p.2
def eLc2 (vs : List Nat) (src : AD) (t : TcD) (c : TDn) (src1 : AD) (vs1 : List Nat) (t1 : TcD) (c1 : TDn) (e : ED) : ED := fun ρ dr => (src ρ dr).bind fun p => (lcD2 (wipeE ρ vs) t c src1 vs1 t1 c1 e p.1 p.2).bind fun q => if q.1.length ≤ sizeLine then some (.lst q.1, q.2) else none
section comp
variable {X : Cx} {ms : List Addr}
theorem lc2_read {src src1 : AD} {t t1 : TcD} {c c1 : TDn} {e : ED} {g g1 : TG} {K : PySem.W.Frag} {vs vs1 : List Nat} (hg : TgE K g vs t) (hg1 : TgE K g1 vs1 t1) {σ : L2.St} {H : Hp} {Q : VK} (h : tF ms (eLc2 vs src t c src1 vs1 t1 c1 e) σ H Q) :
    tLc2 (tI ms src) g (tDT ms c) (tI ms src1) g1 (tDT ms c1) (tD ms e) vs vs1 σ H Q := by
  obtain ⟨G, ρ, dr, d, dr', w, r, h, k⟩ := h
  unfold eLc2 at h
  simp only [Option.bind_eq_some_iff] at h
  obtain ⟨⟨ds, dr1⟩, h1, ⟨xs, drF⟩, h2, h3⟩ := h
  split at h3
  · rename_i hlen
    cases h3
    simp only at h2 hlen
    refine ⟨G, ρ, dr, ds, dr1, w, r, h1, fun J G' H' it a w' => fun Dd hD => ?_⟩
    have r' : RepE G' (wipeE ρ vs) (L2.wipe σ vs) := (r.mono a.gr).wipe vs
    have hm : Dd ∉ ms := w'.ne hD
    have hD0 : H Dd = none := by
      cases e0 : H Dd with
      | none => rfl
      | some u => exact absurd hD (a.ks Dd (by rw [e0]; simp))
    refine ⟨fun i m H2 => m = ds.length - i ∧ i ≤ ds.length ∧ ∃ G2 dr2 acc accd rest, Vw ms dr2 G2 H2 ∧ Sub G' G2 ∧ Aft ms G' H' G2 H2 ∧ H2 Dd = some (.lst acc) ∧ G2 Dd = none ∧ RepL G2 acc accd ∧ lcD2 (wipeE ρ vs) t c src1 vs1 t1 c1 e (ds.drop i) dr2 = some (rest, drF) ∧ accd ++ rest = xs,
      ⟨ds.length, by simp, Nat.zero_le _, G', dr1, [], [], xs, w'.allocH hD _, fun _ _ z => z, .allocH hD _, upd_same, w'.freeG hD, .nil, h2, rfl⟩, ?_⟩
    rintro i m H2 ⟨rfl, hi, G2, dr2, acc, accd, rest, w2, s2, a2, hacc, hn, hr, hrun, hsum⟩
    have sH : Sub G' H2 := fun x o z => w2.sub x o (s2 x o z)
    by_cases hlt : i < ds.length
    · rw [List.drop_eq_getElem_cons hlt] at hrun
      unfold lcD2 at hrun
      simp only [Option.bind_eq_some_iff] at hrun
      obtain ⟨ρ1, ht, ⟨b, dr3⟩, hc, hrun⟩ := hrun
      refine .inr ⟨it.go i H2 sH hlt, fun H2 => i + 1 ≤ ds.length ∧ ∃ G2 dr2 acc accd rest, Vw ms dr2 G2 H2 ∧ Sub G' G2 ∧ Aft ms G' H' G2 H2 ∧ H2 Dd = some (.lst acc) ∧ G2 Dd = none ∧ RepL G2 acc accd ∧ lcD2 (wipeE ρ vs) t c src1 vs1 t1 c1 e (ds.drop (i + 1)) dr2 = some (rest, drF) ∧ accd ++ rest = xs,
        fun H3 hN => ⟨ds.length - (i + 1), by omega, rfl, hN.1, hN.2⟩, fun x H3 y => ?_⟩
      obtain ⟨G3, r3, a3, w3⟩ := it.yld i ds[i] H2 x H3 sH (List.getElem?_eq_getElem hlt) y G2 dr2 w2 s2
      refine hg.run w3 ((r'.mono s2).mono a3.gr) r3 ht fun σ' q' z' => ⟨z'.trans wipe_idem, G3, ρ1, dr2, b, dr3, w3, q', hc, fun G4 H4 a4 w4 => ?_⟩
      have hacc4 : H4 Dd = some (.lst acc) := a4.kp _ _ hm (a3.kp _ _ hm hacc)
      have a04 := a2.trans (a3.trans a4)
      have n3 : G3 Dd = none := a3.nw Dd (by rw [hacc]; simp) hn
      have n4 : G4 Dd = none := a4.nw Dd (by rw [a3.kp _ _ hm hacc]; simp) n3
      have q4 := q'.mono a4.gr
      have hr4 : RepL G4 acc accd := RepL.mono (fun x o z => a4.gr _ _ (a3.gr _ _ z)) _ hr
      have s4 : Sub G' G4 := fun x o z => a4.gr _ _ (a3.gr _ _ (s2 _ _ z))
      cases b with
      | true =>
        rw [if_pos rfl] at hrun
        simp only [Option.bind_eq_some_iff] at hrun
        obtain ⟨⟨ds1, dr5⟩, hsrc, ⟨xs1, drM⟩, hin, ⟨xs2, drF'⟩, hrest, hfin⟩ := hrun
        simp only [Option.some.injEq, Prod.mk.injEq] at hfin
        obtain ⟨hf1, hf2⟩ := hfin
        subst hf1
        subst hf2
        simp only at hin hrest
        refine iteT ⟨G4, ρ1, dr3, ds1, dr5, w4, q4, hsrc, fun J1 G5 H5 it1 a5 w5 => ?_⟩
        have q5 : RepE G5 (wipeE ρ1 vs1) (L2.wipe σ' vs1) := (q4.mono a5.gr).wipe vs1
        refine ⟨fun j kk H6 => kk = ds1.length - j ∧ j ≤ ds1.length ∧ ∃ G6 dr6 acc accd rest1, Vw ms dr6 G6 H6 ∧ Sub G5 G6 ∧ Aft ms G' H' G6 H6 ∧ H6 Dd = some (.lst acc) ∧ G6 Dd = none ∧ RepL G6 acc accd ∧ lcD (wipeE ρ1 vs1) t1 c1 e (ds1.drop j) dr6 = some (rest1, drM) ∧ accd ++ (rest1 ++ xs2) = xs,
          ⟨ds1.length, by simp, Nat.zero_le _, G5, dr5, acc, accd, xs1, w5, fun _ _ z => z, a04.trans a5, a5.kp _ _ hm hacc4, a5.nw Dd (by rw [hacc4]; simp) n4, RepL.mono a5.gr _ hr4, hin, hsum⟩, ?_⟩
        rintro j kk H6 ⟨rfl, hj, G6, dr6, acc6, accd6, rest1, w6, s6, a6, hacc6, n6, hr6, hrun1, hsum1⟩
        have sH6 : Sub G5 H6 := fun x o z => w6.sub x o (s6 x o z)
        by_cases hlt1 : j < ds1.length
        · rw [List.drop_eq_getElem_cons hlt1] at hrun1
          unfold lcD at hrun1
          simp only [Option.bind_eq_some_iff] at hrun1
          obtain ⟨ρ2, ht1, ⟨b1, dr7⟩, hc1, hrun1⟩ := hrun1
          refine .inr ⟨it1.go j H6 sH6 hlt1, fun H6 => j + 1 ≤ ds1.length ∧ ∃ G6 dr6 acc accd rest1, Vw ms dr6 G6 H6 ∧ Sub G5 G6 ∧ Aft ms G' H' G6 H6 ∧ H6 Dd = some (.lst acc) ∧ G6 Dd = none ∧ RepL G6 acc accd ∧ lcD (wipeE ρ1 vs1) t1 c1 e (ds1.drop (j + 1)) dr6 = some (rest1, drM) ∧ accd ++ (rest1 ++ xs2) = xs,
            fun H7 hN => ⟨ds1.length - (j + 1), by omega, rfl, hN.1, hN.2⟩, fun x1 H7 y1 => ?_⟩
          obtain ⟨G7, r7, a7, w7⟩ := it1.yld j ds1[j] H6 x1 H7 sH6 (List.getElem?_eq_getElem hlt1) y1 G6 dr6 w6 s6
          refine hg1.run w7 ((q5.mono s6).mono a7.gr) r7 ht1 fun σ2 q7 z7 => ⟨z7.trans wipe_idem, G7, ρ2, dr6, b1, dr7, w7, q7, hc1, fun G8 H8 a8 w8 => ?_⟩
          have hacc8 : H8 Dd = some (.lst acc6) := a8.kp _ _ hm (a7.kp _ _ hm hacc6)
          have a08 := a6.trans (a7.trans a8)
          have n7 : G7 Dd = none := a7.nw Dd (by rw [hacc6]; simp) n6
          have n8 : G8 Dd = none := a8.nw Dd (by rw [a7.kp _ _ hm hacc6]; simp) n7
          have hr8 : RepL G8 acc6 accd6 := RepL.mono (fun x o z => a8.gr _ _ (a7.gr _ _ z)) _ hr6
          have s8 : Sub G5 G8 := fun x o z => a8.gr _ _ (a7.gr _ _ (s6 _ _ z))
          cases b1 with
          | true =>
            rw [if_pos rfl] at hrun1
            simp only [Option.bind_eq_some_iff] at hrun1
            obtain ⟨⟨yv, dr9⟩, he, ⟨rest', drM'⟩, hrest1, hfin⟩ := hrun1
            simp only [Option.some.injEq, Prod.mk.injEq] at hfin
            obtain ⟨hf1, hf2⟩ := hfin
            subst hf1
            subst hf2
            refine iteT ⟨G8, ρ2, dr7, yv, dr9, w8, q7.mono a8.gr, he, fun yv' G9 H9 q9 a9 w9 => ?_⟩
            have hacc9 := a9.kp _ _ hm hacc8
            have a09 := a08.trans a9
            have n9 : G9 Dd = none := a9.nw Dd (by rw [hacc8]; simp) n8
            have hl : acc6.length < sizeLine := by
              have e1 := hr6.length
              have e2 : xs.length = accd6.length + (rest'.length + 1 + xs2.length) := by rw [← hsum1]; simp; omega
              omega
            refine ⟨acc6, hacc9, hl, hlt1, G9, dr9, acc6 ++ [yv'], accd6 ++ [yv], rest', ⟨fun x o z => ?_, w9.off, w9.mem.same fun x hx => upd_ne fun z => hm (by rw [← z]; exact hx)⟩, fun x o z => a9.gr _ _ (s8 _ _ z), ⟨a09.gr, a09.nw, fun x o hx z => ?_, fun x z => ?_⟩, upd_same, n9, ?_, hrest1, by rw [← hsum1]; simp⟩
            · rw [upd_ne (ne_of_none z n9)]; exact w9.sub _ _ z
            · rw [upd_ne (ne_of_none z hD)]; exact a09.kp _ _ hx z
            · rw [upd_ne fun y => z (by rw [y]; exact hD)]; exact a09.ks _ z
            · exact (RepL.mono a9.gr _ hr8).append (.cons q9 .nil)
          | false =>
            rw [if_neg Bool.false_ne_true] at hrun1
            exact iteF ⟨hlt1, G8, dr7, acc6, accd6, rest1, w8, s8, a08, hacc8, n8, hr8, hrun1, hsum1⟩
        · have e0 : j = ds1.length := by omega
          subst e0
          rw [List.drop_length] at hrun1
          unfold lcD at hrun1
          cases hrun1
          rw [List.nil_append] at hsum1
          exact .inl ⟨it1.stop _ H6 sH6 (Nat.le_refl _), hlt, G6, _, acc6, accd6, xs2, w6, fun x o z => s6 _ _ (a5.gr _ _ (s4 _ _ z)), a6, hacc6, n6, hr6, hrest, hsum1⟩
      | false =>
        rw [if_neg Bool.false_ne_true] at hrun
        exact iteF ⟨hlt, G4, dr3, acc, accd, rest, w4, s4, a04, hacc4, n4, hr4, hrun, hsum⟩
    · have e0 : i = ds.length := by omega
      subst e0
      rw [List.drop_length] at hrun
      unfold lcD2 at hrun
      cases hrun
      rw [List.append_nil] at hsum
      subst hsum
      refine .inl ⟨it.stop _ H2 sH (Nat.le_refl _), k Dd G2 H2 ⟨acc, hacc, hr⟩ (a.trans a2) w2 hn hD0⟩
  · cases h3
variable {elt tg iter tg1 iter1 : Expr} {ifs ifs1 : List Expr} {scope : Scope} {own : List (Str × Nat)} {pos : Pos} {src src1 : AD} {t t1 : TcD} {c c1 : TDn} {e : ED} {g g1 : TG} {vs1 : List Nat}
theorem pfd_lc2 (own : List (Str × Nat)) (vs1 : List Nat) (hc : X.calm = true) (hN : X.N.Nodup) (hi : PId X ms tg iter src) (ok : BlkOk X.N X.env.scope scope own) (hv : ∀ i ∈ vs1, i ∈ own.map (·.2))
    (tgt : TgE X.K g (own.map (·.2)) t) (tgt1 : TgE X.K g1 vs1 t1)
    (hg : ∀ (s : Shared) (H : Hp) (C : Addr) (cl : List (Str × Addr)) (fp : List Addr), PG (X.blk s H scope (compEnvC scope cl C X.env) fp) tg g) (ht : ∀ (s : Shared) (H : Hp) (C : Addr) (cl : List (Str × Addr)) (fp : List Addr), PTs (X.blk s H scope (compEnvC scope cl C X.env) fp) ifs (tDT ms c))
    (hi1 : ∀ (s : Shared) (H : Hp) (C : Addr) (cl : List (Str × Addr)) (fp : List Addr), PId (X.blk s H scope (compEnvC scope cl C X.env) fp) ms tg1 iter1 src1)
    (hg1 : ∀ (s : Shared) (H : Hp) (C : Addr) (cl : List (Str × Addr)) (fp : List Addr), PG (X.blk s H scope (compEnvC scope cl C X.env) fp) tg1 g1) (ht1 : ∀ (s : Shared) (H : Hp) (C : Addr) (cl : List (Str × Addr)) (fp : List Addr), PTs (X.blk s H scope (compEnvC scope cl C X.env) fp) ifs1 (tDT ms c1))
    (he : ∀ (s : Shared) (H : Hp) (C : Addr) (cl : List (Str × Addr)) (fp : List Addr), PEd (X.blk s H scope (compEnvC scope cl C X.env) fp) ms elt e) (hs : ∀ x, foldedSetIterable iter X.env x = pure x := by intro _; rfl) (hs1 : ∀ env x, foldedSetIterable iter1 env x = pure x := by intro _ _; rfl) :
    PFd X ms (.ListComp elt [⟨tg, iter, ifs, 0⟩, ⟨tg1, iter1, ifs1, 0⟩] scope pos) (eLc2 (own.map (·.2)) src t c src1 vs1 t1 c1 e) :=
  pe_imp (pe_lc2 hc hN hi ok hv hg ht hi1 hg1 ht1 he hs hs1) fun σ H Q h => lc2_read tgt tgt1 h
variable {G0 H0 : Hp} {i : Nat} {y : Str} {py spos : Pos}
theorem psd_setLc2 (own : List (Str × Nat)) (vs1 : List Nat) (hc : X.calm = true) (hN : X.N.Nodup) (hi : PId X ms tg iter src) (ok : BlkOk X.N X.env.scope scope own) (hv : ∀ i ∈ vs1, i ∈ own.map (·.2))
    (tgt : TgE X.K g (own.map (·.2)) t) (tgt1 : TgE X.K g1 vs1 t1)
    (hg : ∀ (s : Shared) (H : Hp) (C : Addr) (cl : List (Str × Addr)) (fp : List Addr), PG (X.blk s H scope (compEnvC scope cl C X.env) fp) tg g) (ht : ∀ (s : Shared) (H : Hp) (C : Addr) (cl : List (Str × Addr)) (fp : List Addr), PTs (X.blk s H scope (compEnvC scope cl C X.env) fp) ifs (tDT ms c))
    (hi1 : ∀ (s : Shared) (H : Hp) (C : Addr) (cl : List (Str × Addr)) (fp : List Addr), PId (X.blk s H scope (compEnvC scope cl C X.env) fp) ms tg1 iter1 src1)
    (hg1 : ∀ (s : Shared) (H : Hp) (C : Addr) (cl : List (Str × Addr)) (fp : List Addr), PG (X.blk s H scope (compEnvC scope cl C X.env) fp) tg1 g1) (ht1 : ∀ (s : Shared) (H : Hp) (C : Addr) (cl : List (Str × Addr)) (fp : List Addr), PTs (X.blk s H scope (compEnvC scope cl C X.env) fp) ifs1 (tDT ms c1))
    (he : ∀ (s : Shared) (H : Hp) (C : Addr) (cl : List (Str × Addr)) (fp : List Addr), PEd (X.blk s H scope (compEnvC scope cl C X.env) fp) ms elt e)
    (hsw : swapsWith (.ListComp elt [⟨tg, iter, ifs, 0⟩, ⟨tg1, iter1, ifs1, 0⟩] scope pos) (some (.Name y py)) spos.line X.env = pure true)
    (hy : X.N[i]? = some y := by rfl) (hyl : X.env.scope.names.lookup y = some .local := by rfl) (hs : ∀ x, foldedSetIterable iter X.env x = pure x := by intro _; rfl) (hs1 : ∀ env x, foldedSetIterable iter1 env x = pure x := by intro _ _; rfl) :
    PSd X ms G0 H0 (.Assign [.Name y py] (.ListComp elt [⟨tg, iter, ifs, 0⟩, ⟨tg1, iter1, ifs1, 0⟩] scope pos) spos) (sSetO i (eLc2 (own.map (·.2)) src t c src1 vs1 t1 c1 e)) := by
  refine ps_imp (ps_setLc2 hc hN hy hyl hsw hi ok hv hg ht hi1 hg1 ht1 he hs hs1) fun D σ H q => ?_
  exact lc2_read tgt tgt1 (Q := fun x H1 => gName i x σ H1 D.nx) (setO_post q)
end comp
end Dk

set_option maxRecDepth 100000
set_option maxHeartbeats 4000000
/-! Dk9: further rules: a tuple taken once, lists or tuples walked, sorted of both kinds, targets that are tuples, op=, a def that calls itself -/
namespace Dk
open PySem PySem.Spec PyProof.Rows L2
section mul1
theorem tuple_mul1 (l : Addr) (items : Array Value) (n : Nat) (dd : Option Addr) (sl : Array (Option Value)) (x : Int) (u : Tok) (c0 : (decide (x < -(2 ^ 63)) || decide (x ≥ 2 ^ 63)) = false) (c1 : (items.isEmpty || x == 1) = true) :
    Meets (Builtin.«tuple.__mul__» ⟨[.ref l, .int x u], []⟩) (fun _ R s => s.heap.get? l = some { cls := .type "tuple", dict := dd, data := .seq items n, slots := sl } ∧
      R (.ok (.ret (Value.ref l))) s) :=
  .of_wp fun prog w A R s h => by
    obtain ⟨hp, g, d, tk, os⟩ := s
    obtain ⟨hl, h⟩ := h
    have f1 := AutoSeq1.idx_int
    wp_walk using wpAny_loadPart' hl
    repeat (first
      | (refine wpAny_ite_false (decide_eq_false (by rw [c0]; exact Bool.false_ne_true)) ?_; wp_walk using wpAny_loadPart' hl)
      | (refine wpAny_ite_true (decide_eq_true (by rw [c1])) ?_; wp_walk using wpAny_loadPart' hl))
    exact ⟨_, rfl, h⟩
def rRep1 (K : PySem.W.Frag) : R2 := fun x y H Q => ∃ l xs, x = .ref l ∧ y = .int 1 ∧ SqT K H l xs ∧ Q (.ref l) H
variable {X : Cx}
theorem op_rep1 : OpR X (binaryOp .Mult) (rRep1 X.K) := by
  intro pins s σ H x y v u Q I rx ry h
  obtain ⟨l, xs, rfl, rfl, hT, q⟩ := h
  cases rx
  obtain ⟨t, rfl⟩ := ry
  obtain ⟨its, r, ⟨⟨cls, dd, data, sl⟩, ho, hc, n, hd⟩, hs⟩ := I.tuple hT
  simp only at hc hd
  subst hc hd
  refine wpAny_binaryOp_repeat_ref (T := "tuple") (U := "int") (by decide) ⟨_, ho, rfl⟩ (fun s' => typeIs_int s' 1 t) noFill_tuple_mul F.fills_int_mul F.slot_int_rmul repeat_tuple F.slot_int_index.lookup
    (call_meets F.slot_int_rmul (typeIs_int s 1 t) F.entry_int_rmul (F.args_int_rmul_2 _ _) (int_rmul_tuple 1 t l its.toArray n dd sl)
      ⟨ho, rfl, ⟨_, ho, rfl⟩, call_meets F.slot_tuple_mul ⟨_, ho, rfl⟩ F.entry_tuple_mul (F.args_tuple_mul_2 _ _) (tuple_mul1 l its.toArray n dd sl 1 t (by decide) (by simp)) ⟨ho, ?_⟩⟩)
  exact ⟨.ref l, H, I, rfl, q⟩
end mul1
abbrev mkT : List D → Option D := fun ds => if ds.length ≤ sizeLine then some (.tup ds) else none
abbrev mkL : List D → Option D := fun ds => if ds.length ≤ sizeLine then some (.lst ds) else none
def mulV' (x y : D) : Option D := match x, y with
  | .tup xs, .int 1 => some (.tup xs)
  | x, y => mulV x y
section
variable {X : Cx} {ms : List Addr}
theorem opd_mul' : OpR X (binaryOp .Mult) (rD2 ms mulV') := by
  intro pins s σ H x y v u Q I rx ry h
  obtain ⟨G, dr, dx, dy, d, w, q1, q2, h, k⟩ := h
  unfold mulV' at h
  split at h
  · cases h
    obtain ⟨a, vs, rfl, e1, r1⟩ := q1.tup
    exact op_rep1 pins s σ H _ _ v u Q I rx ry ⟨a, vs, rfl, q2.int, .of (w.sub _ _ e1), k _ G H q1 .refl w⟩
  · exact opd_mul pins s σ H x y v u Q I rx ry ⟨G, dr, _, _, d, w, q1, q2, h, k⟩
/-! ### a list or a tuple walked -/
def aSeqA (f : ED) : AD := fun ρ dr => (f ρ dr).bind fun p => match p.1 with
  | .lst ds => some (ds, p.2)
  | .tup ds => some (ds, p.2)
  | _ => none
variable {tg e e2 : Expr} {f g : ED} {fs : AD} {p pos : Pos}
theorem pid_seq (he : PEd X ms e f) : PId X ms tg e (aSeqA f) := by
  refine ⟨fun pins s σ H R I h => ?_⟩
  obtain ⟨G, ρ, dr, ds, dr', w, r, h, k⟩ := h
  simp only [aSeqA, Option.bind_eq_some_iff] at h
  obtain ⟨⟨d, dr1⟩, h1, h2⟩ := h
  split at h2
  · rename_i ds' hd
    simp only at hd
    subst hd
    cases h2
    refine (pid_list (tg := tg) he).run pins s σ H R I ⟨G, ρ, dr, _, _, w, r, ?_, k⟩
    unfold aSeq
    rw [h1]
    rfl
  · rename_i ds' hd
    simp only at hd
    subst hd
    cases h2
    refine (pid_tup (tg := tg) he).run pins s σ H R I ⟨G, ρ, dr, _, _, w, r, ?_, k⟩
    unfold aSeqT
    rw [h1]
    rfl
  · cases h2
def aZipA (f : AD) : AD := fun ρ dr => (f ρ dr).bind fun p => match p.1 with
  | [.lst xs, .lst ys] => some (zipD xs ys, p.2)
  | [.tup xs, .tup ys] => some (zipD xs ys, p.2)
  | _ => none
theorem pid_zipA {elts : List Expr} {kk : Nat} {tpos : Pos} (hm : X.mg "zip" = none) (ha : PAd X ms [e, e2] fs) (hg : Gl X "zip" := by rfl) (hs : starEach [e, e2] X.env = (false, eval e X.env) :: starEach [e2] X.env := by rfl) (hpl : (backTo pos (starEach [e2] X.env)).any (·.1) = false := by rfl) :
    PId X ms (.Tuple elts kk tpos) (.Call (.Name "zip" p) [e, e2] [] pos) (aZipA fs) := by
  refine pi_imp (RZ.pi_zipA hg hm ha hs hpl) fun σ H R ⟨G, ρ, dr, ds, dr', w, r, h, k⟩ => ?_
  simp only [aZipA, Option.bind_eq_some_iff] at h
  obtain ⟨⟨d, dr1⟩, h1, h2⟩ := h
  split at h2
  · rename_i xs ys hd
    simp only at hd
    subst hd
    cases h2
    refine ⟨G, ρ, dr, _, _, w, r, h1, fun vs0 G' H' q a w' => ?_⟩
    obtain ⟨v, u, rfl, q1, q2⟩ := q.two
    obtain ⟨l, vs, rfl, e1, r1⟩ := q1.lst
    obtain ⟨l2, us, rfl, e2, r2⟩ := q2.lst
    refine ⟨l, l2, vs, us, rfl, .inl ⟨.of (w'.sub _ _ e1), .of (w'.sub _ _ e2), k _ G' H' ⟨fun i H s hi => ?_, fun i H s hi => ?_, fun i d H x H2 s hd y G2 dr2 w2 s2 => ?_⟩ a w'⟩⟩
    · rw [zipD_length] at hi
      have i1 : i < xs.length := by omega
      have i2 : i < ys.length := by omega
      obtain ⟨v, z1, _⟩ := r1.get (List.getElem?_eq_getElem i1)
      obtain ⟨u, z2, _⟩ := r2.get (List.getElem?_eq_getElem i2)
      exact ⟨vs, us, v, u, .of (s _ _ e1), .of (s _ _ e2), z1, z2⟩
    · rw [zipD_length] at hi
      refine ⟨vs, us, .of (s _ _ e1), .of (s _ _ e2), ?_⟩
      rw [r1.length, r2.length]
      omega
    · obtain ⟨T, z, z', rfl, nT, rfl, y1, y2⟩ := y
      obtain ⟨x', y', g1, g2, rfl⟩ := zipD_get hd
      obtain ⟨v, z1, t1⟩ := r1.get g1
      obtain ⟨u, z2, t2⟩ := r2.get g2
      have := y1 vs (.of (s _ _ e1))
      rw [z1] at this; cases this
      have := y2 us (.of (s _ _ e2))
      rw [z2] at this; cases this
      exact ⟨upd G2 T (.tup [z, z']), rep_newT w2 nT (.cons (Rep.mono s2 _ t1) (.cons (Rep.mono s2 _ t2) .nil)), .alloc w2 nT _, w2.alloc nT _⟩
  · rename_i xs ys hd
    simp only at hd
    subst hd
    cases h2
    refine ⟨G, ρ, dr, _, _, w, r, h1, fun vs0 G' H' q a w' => ?_⟩
    obtain ⟨v, u, rfl, q1, q2⟩ := q.two
    obtain ⟨l, vs, rfl, e1, r1⟩ := q1.tup
    obtain ⟨l2, us, rfl, e2, r2⟩ := q2.tup
    refine ⟨l, l2, vs, us, rfl, .inr ⟨.of (w'.sub _ _ e1), .of (w'.sub _ _ e2), k _ G' H' ⟨fun i H s hi => ?_, fun i H s hi => ?_, fun i d H x H2 s hd y G2 dr2 w2 s2 => ?_⟩ a w'⟩⟩
    · rw [zipD_length] at hi
      have i1 : i < xs.length := by omega
      have i2 : i < ys.length := by omega
      obtain ⟨v, z1, _⟩ := r1.get (List.getElem?_eq_getElem i1)
      obtain ⟨u, z2, _⟩ := r2.get (List.getElem?_eq_getElem i2)
      exact ⟨vs, us, v, u, .of (s _ _ e1), .of (s _ _ e2), z1, z2⟩
    · rw [zipD_length] at hi
      refine ⟨vs, us, .of (s _ _ e1), .of (s _ _ e2), ?_⟩
      rw [r1.length, r2.length]
      omega
    · obtain ⟨T, z, z', rfl, nT, rfl, y1, y2⟩ := y
      obtain ⟨x', y', g1, g2, rfl⟩ := zipD_get hd
      obtain ⟨v, z1, t1⟩ := r1.get g1
      obtain ⟨u, z2, t2⟩ := r2.get g2
      have := y1 vs (.of (s _ _ e1))
      rw [z1] at this; cases this
      have := y2 us (.of (s _ _ e2))
      rw [z2] at this; cases this
      exact ⟨upd G2 T (.tup [z, z']), rep_newT w2 nT (.cons (Rep.mono s2 _ t1) (.cons (Rep.mono s2 _ t2) .nil)), .alloc w2 nT _, w2.alloc nT _⟩
  · cases h2
/-! ### sorted of ints or of tuples of ints -/
def sortedA (ds : List D) : Option D := match sortedV ds with
  | some d => some d
  | none => sortedTV ds
theorem crf_sortedA : CallR X (.builtin "sorted") (rFN ms sortedA) := by
  intro pins s σ H xs us Q I rx ⟨G, dr, ds, d, w, q, h, k⟩
  unfold sortedA at h
  split at h
  · rename_i d' hd
    cases h
    exact crf_sorted pins s σ H xs us Q I rx ⟨G, dr, ds, _, w, q, hd, k⟩
  · exact crf_sortedT pins s σ H xs us Q I rx ⟨G, dr, ds, d, w, q, h, k⟩
/-! ### math.gcd and its like, by a global name -/
theorem ped_callBf {id : String} {x : Str} {es : List Expr} {φ : List D → Option D} (hc : CallR X (.builtin id) (rDN ms φ)) (hg : Gl X x) (hm : X.mg x = some (.builtin id)) (ha : PAd X ms (e :: es) fs) (hdb : (x == ("__debug__" : Str)) = false := by decide)
    (he : starEach (e :: es) X.env = (false, eval e X.env) :: starEach es X.env := by rfl) (hpl : (backTo pos (starEach es X.env)).any (·.1) = false := by rfl) : PEd X ms (.Call (.Name x p) (e :: es) [] pos) (eN φ fs) := by
  refine pe_imp (pe_callBfun hc hg hm ha hdb he hpl) fun σ H Q ⟨G, ρ, dr, d, dr', w, r, h, k⟩ => ?_
  obtain ⟨y, h1, h2⟩ := eN_inv h
  refine ⟨G, ρ, dr, y, dr', w, r, h1, fun v G1 H1 q1 a1 w1 => ?_⟩
  exact ⟨G1, dr', y, d, w1, q1, h2, fun z G3 H3 q3 a3 w3 => k z G3 H3 q3 (a1.trans a3) w3⟩
/-! ### two comparisons in a row -/
def eCh (φ ψ : D → D → Option D) (f g h : ED) : ED := fun ρ dr => (f ρ dr).bind fun p => (g ρ p.2).bind fun q => (φ p.1 q.1).bind fun d => match d with
  | .bl true => (h ρ q.2).bind fun r => (ψ q.1 r.1).bind fun d' => some (d', r.2)
  | .bl false => some (.bl false, q.2)
  | _ => none
theorem ch_of {φ ψ : D → D → Option D} {h : ED} {σ : L2.St} {H : Hp} {Q : VK} (hw : tD ms (eCh φ ψ f g h) σ H Q) : tChain (rD2 ms φ) (rD2 ms ψ) (tD ms f) (tD ms g) (tD ms h) σ H Q := by
  obtain ⟨G, ρ, dr, d, dr', w, r, hh, k⟩ := hw
  simp only [eCh, Option.bind_eq_some_iff] at hh
  obtain ⟨⟨x, dr1⟩, h1, ⟨y, dr2⟩, h2, z, h3, h4⟩ := hh
  refine ⟨G, ρ, dr, x, dr1, w, r, h1, fun v G1 H1 q1 a1 w1 => ?_⟩
  refine ⟨G1, ρ, dr1, y, dr2, w1, r.mono a1.gr, h2, fun u G2 H2 q2 a2 w2 => ?_⟩
  refine ⟨G2, dr2, x, y, z, w2, Rep.mono a2.gr _ q1, q2, h3, fun t G3 H3 q3 a3 w3 => ?_⟩
  have a := a1.trans (a2.trans a3)
  split at h4
  · refine ⟨true, q3.bl, iteT ?_⟩
    simp only [Option.bind_eq_some_iff] at h4
    obtain ⟨⟨rr, dr3⟩, h5, d', h6, h7⟩ := h4
    cases h7
    refine ⟨G3, ρ, dr2, rr, dr3, w3, r.mono a.gr, h5, fun u2 G4 H4 q4 a4 w4 => ?_⟩
    exact ⟨G4, dr3, y, rr, d, w4, Rep.mono a4.gr _ (Rep.mono a3.gr _ q2), q4, h6, fun z2 G5 H5 q5 a5 w5 => k z2 G5 H5 q5 (a.trans (a4.trans a5)) w5⟩
  · cases h4
    exact ⟨false, q3.bl, iteF (k _ G3 H3 rep_bl a w3)⟩
  · cases h4
theorem ped_ch {op op' : CmpOp} {a b c : Expr} {φ ψ : D → D → Option D} {h : ED} (ho : OpR X (compareOp op) (rD2 ms φ)) (ho' : OpR X (compareOp op') (rD2 ms ψ)) (ha : PEd X ms a f) (hb : PEd X ms b g) (hc : PEd X ms c h)
    (hm : lastMarks [op, op'] [b, c] = false := by with_unfolding_all rfl) : PEd X ms (.Compare a [op, op'] [b, c] pos) (eCh φ ψ f g h) := pe_imp (pe_chain ho ho' ha hb hc hm) fun _ _ _ hw => ch_of hw
theorem ptd_ch {op op' : CmpOp} {a b c : Expr} {φ ψ : D → D → Option D} {h : ED} (ho : OpR X (compareOp op) (rD2 ms φ)) (ho' : OpR X (compareOp op') (rD2 ms ψ)) (ha : PEd X ms a f) (hb : PEd X ms b g) (hc : PEd X ms c h)
    (hm : lastMarks [op, op'] [b, c] = false := by with_unfolding_all rfl) : PTd X ms (.Compare a [op, op'] [b, c] pos) (tOf (eCh φ ψ f g h)) := by
  refine pt_imp (pt_chain ho ho' ha hb hc hm) fun σ H Q ⟨G, ρ, dr, d, dr', w, r, hh, k⟩ => ?_
  simp only [tOf, Option.bind_eq_some_iff] at hh
  obtain ⟨⟨x, dr1⟩, h1, h2⟩ := hh
  refine ch_of (f := f) (g := g) (h := h) ⟨G, ρ, dr, x, dr1, w, r, h1, fun v G1 H1 q1 a1 w1 => ?_⟩
  cases x with
  | bl b =>
    cases h2
    simp only [Rep] at q1
    exact ⟨_, q1, k G1 H1 a1 w1⟩
  | _ => cases h2
/-! ### more statements -/
variable {G0 H0 : Hp} {i j : Nat} {x y : Str} {pos' px py pt pt2 : Pos} {kt k2 : Nat} {a b : Expr}
theorem tF_of {σ : L2.St} {H : Hp} {Q : VK} (h : tD ms f σ H Q) : tF ms f σ H Q := by
  obtain ⟨G, ρ, dr, d, dr', w, r, h, k⟩ := h
  refine ⟨G, ρ, dr, d, dr', w, r, h, fun p G' H' o a w' n z => ?_⟩
  obtain ⟨u, hp, q⟩ := o.frz n
  refine k _ (upd G' p u) H' q ⟨fun x o' y => ?_, fun x y y2 => ?_, a.kp, a.ks⟩ ⟨fun x o' y => ?_, fun x m => ?_, w'.mem⟩
  · rw [upd_ne (ne_of_none (a.gr _ _ y) n)]; exact a.gr _ _ y
  · rw [upd_ne fun y3 => y (by rw [y3]; exact z)]; exact a.nw x y y2
  · by_cases hx : x = p
    · subst hx; rw [upd_same] at y; cases y; exact hp
    · rw [upd_ne hx] at y; exact w'.sub _ _ y
  · rw [upd_ne fun y => w.ne z (by rw [← y]; exact m)]; exact w'.off x m
variable {elt tg1 iter iter1 : Expr} {ifs ifs1 : List Expr} {scope : Scope} {spos : Pos} {src src1 : AD} {t t1 : TcD} {c c1 : TDn} {gg g1 : TG}
theorem psd_setLcV (own : List (Str × Nat)) (hc : X.calm = true) (hN : X.N.Nodup) (hi : PId X ms tg iter src) (ok : BlkOk X.N X.env.scope scope own)
    (tgt : TgE X.K gg (own.map (·.2)) t)
    (hg : ∀ (s : Shared) (H : Hp) (C : Addr) (cl : List (Str × Addr)) (fp : List Addr), PG (X.blk s H scope (compEnvC scope cl C X.env) fp) tg gg) (ht : ∀ (s : Shared) (H : Hp) (C : Addr) (cl : List (Str × Addr)) (fp : List Addr), PTs (X.blk s H scope (compEnvC scope cl C X.env) fp) ifs (tDT ms c))
    (he : ∀ (s : Shared) (H : Hp) (C : Addr) (cl : List (Str × Addr)) (fp : List Addr), PEd (X.blk s H scope (compEnvC scope cl C X.env) fp) ms elt f)
    (hsw : swapsWith (.ListComp elt [⟨tg, iter, ifs, 0⟩] scope pos) (some (.Name y py)) spos.line X.env = pure true)
    (hy : X.N[i]? = some y := by rfl) (hyl : X.env.scope.names.lookup y = some .local := by rfl) (hs : ∀ x, foldedSetIterable iter X.env x = pure x := by intro _; rfl) :
    PSd X ms G0 H0 (.Assign [.Name y py] (.ListComp elt [⟨tg, iter, ifs, 0⟩] scope pos) spos) (sSet i (eLc (own.map (·.2)) src t c f)) := by
  refine ps_imp (ps_setLc hc hN hy hyl hsw hi ok hg ht he hs) fun D σ H q => ?_
  exact lc_read tgt (Q := fun x H1 => gName i x σ H1 D.nx) (tF_of (set_post q))
theorem psd_setLc2V (own : List (Str × Nat)) (vs1 : List Nat) (hc : X.calm = true) (hN : X.N.Nodup) (hi : PId X ms tg iter src) (ok : BlkOk X.N X.env.scope scope own) (hv : ∀ i ∈ vs1, i ∈ own.map (·.2))
    (tgt : TgE X.K gg (own.map (·.2)) t) (tgt1 : TgE X.K g1 vs1 t1)
    (hg : ∀ (s : Shared) (H : Hp) (C : Addr) (cl : List (Str × Addr)) (fp : List Addr), PG (X.blk s H scope (compEnvC scope cl C X.env) fp) tg gg) (ht : ∀ (s : Shared) (H : Hp) (C : Addr) (cl : List (Str × Addr)) (fp : List Addr), PTs (X.blk s H scope (compEnvC scope cl C X.env) fp) ifs (tDT ms c))
    (hi1 : ∀ (s : Shared) (H : Hp) (C : Addr) (cl : List (Str × Addr)) (fp : List Addr), PId (X.blk s H scope (compEnvC scope cl C X.env) fp) ms tg1 iter1 src1)
    (hg1 : ∀ (s : Shared) (H : Hp) (C : Addr) (cl : List (Str × Addr)) (fp : List Addr), PG (X.blk s H scope (compEnvC scope cl C X.env) fp) tg1 g1) (ht1 : ∀ (s : Shared) (H : Hp) (C : Addr) (cl : List (Str × Addr)) (fp : List Addr), PTs (X.blk s H scope (compEnvC scope cl C X.env) fp) ifs1 (tDT ms c1))
    (he : ∀ (s : Shared) (H : Hp) (C : Addr) (cl : List (Str × Addr)) (fp : List Addr), PEd (X.blk s H scope (compEnvC scope cl C X.env) fp) ms elt f)
    (hsw : swapsWith (.ListComp elt [⟨tg, iter, ifs, 0⟩, ⟨tg1, iter1, ifs1, 0⟩] scope pos) (some (.Name y py)) spos.line X.env = pure true)
    (hy : X.N[i]? = some y := by rfl) (hyl : X.env.scope.names.lookup y = some .local := by rfl) (hs : ∀ x, foldedSetIterable iter X.env x = pure x := by intro _; rfl) (hs1 : ∀ env x, foldedSetIterable iter1 env x = pure x := by intro _ _; rfl) :
    PSd X ms G0 H0 (.Assign [.Name y py] (.ListComp elt [⟨tg, iter, ifs, 0⟩, ⟨tg1, iter1, ifs1, 0⟩] scope pos) spos) (sSet i (eLc2 (own.map (·.2)) src t c src1 vs1 t1 c1 f)) := by
  refine ps_imp (ps_setLc2 hc hN hy hyl hsw hi ok hv hg ht hi1 hg1 ht1 he hs hs1) fun D σ H q => ?_
  exact lc2_read tgt tgt1 (Q := fun x H1 => gName i x σ H1 D.nx) (tF_of (set_post q))
/-- a, b = e1, e2 -/
def sPar (i j : Nat) (fs : AD) : SDn := fun env dr => (fs (frz env) dr).bind fun p => match p.1 with
  | [d, e] => some (.nx ((env.set i (.fr d)).set j (.fr e)), p.2)
  | _ => none
theorem psd_par (hc : X.calm = true) (hN : X.N.Nodup) (ha : PAd X ms [a, b] fs) (hij : i ≠ j) (hi : X.N[i]? = some x := by rfl) (hj : X.N[j]? = some y := by rfl)
    (hx : X.env.scope.names.lookup x = some .local := by rfl) (hy : X.env.scope.names.lookup y = some .local := by rfl)
    (hw : swappedStores [.Tuple [.Name x px, .Name y py] kt pt] (.Tuple [a, b] k2 pt2) X.env = pure (some [x, y]) := by rfl)
    (hs : swapsWithSole [.Tuple [.Name x px, .Name y py] kt pt] (.Tuple [a, b] k2 pt2) pos.line X.env = pure false := by rfl) :
    PSd X ms G0 H0 (.Assign [.Tuple [.Name x px, .Name y py] kt pt] (.Tuple [a, b] k2 pt2) pos) (sPar i j fs) := by
  refine ps_imp (ps_par hc hN hi hj hij hx hy ha hw hs) fun D σ H ⟨F, env, dr, I, q⟩ => ?_
  unfold sPar at q
  cases e1 : fs (frz env) dr with
  | none => rw [e1] at q; exact q.elim
  | some r =>
    rw [e1] at q
    obtain ⟨ds, d1⟩ := r
    simp only [Option.bind_some] at q
    split at q
    · rename_i d e
      refine ⟨F, frz env, dr, _, _, I.vw, I.repF, e1, fun vs G' H' r' a' w' => ?_⟩
      obtain ⟨v, u, rfl, q1, q2⟩ := r'.two
      exact ⟨v, u, rfl, q G' _ H' (((I.step a' w').setF q1).setF q2) a'.gr⟩
    · exact q.elim
/-- a target that is a tuple -/
def sAsgT (t : TgD) (f : ED) : SDn := fun env dr => (f (frz env) dr).bind fun p => (t p.1 env).bind fun e => some (.nx e, p.2)
variable {tt : TgD}
theorem psd_asgT (he : PEd X ms e f) (hg : PGd X ms G0 H0 tg tt) (hs : swapsWithSole [tg] e pos.line X.env = pure false := by rfl) (hw : swappedStores [tg] e X.env = pure none := by rfl)
    (h1 : (assignEach [tg] X.env).map (·.2) = [assign tg X.env] := by rfl) : PSd X ms G0 H0 (.Assign [tg] e pos) (sAsgT tt f) := by
  refine ps_imp (ps_asg he hg hs hw h1) fun D σ H ⟨F, env, dr, I, q⟩ => ?_
  unfold sAsgT at q
  cases e1 : f (frz env) dr with
  | none => rw [e1] at q; exact q.elim
  | some r =>
    rw [e1] at q
    simp only [Option.bind_some] at q
    cases e2 : tt r.1 env with
    | none => rw [e2] at q; exact q.elim
    | some env1 =>
      rw [e2] at q
      refine ⟨F, frz env, dr, r.1, r.2, I.vw, I.repF, e1, fun v G' H' r' a' w' => ?_⟩
      exact ⟨G', env, r.2, r.1, env1, I.step a' w', r', e2, fun σ' I' => q G' σ' H' I' a'.gr⟩
/-- x += e, ints -/
def sAug (i : Nat) (f : ED) : SDn := fun env dr => match env[i]? with
  | some (.fr (.int k)) => (f (pk env) dr).bind fun p => match p.1 with
    | .int m => some (.nx (env.set i (.fr (.int (k + m)))), p.2)
    | _ => none
  | _ => none
theorem psd_aug (hN : X.N.Nodup) (he : PEd X ms e f) (hi : X.N[i]? = some x := by rfl) (hx : Loc X.env.scope x := by first | exact Or.inl rfl | exact Or.inr rfl) (hf : X.fn x = true ∨ X.env.scope.names.lookup x = some .local := by first | exact .inl rfl | exact .inr rfl | assumption) :
    PSd X ms G0 H0 (.AugAssign (.Name x pos') .Add e pos) (sAug i f) := by
  refine ps_imp (ps_aug hN hi hx he ip_add hf) fun D σ H ⟨F, env, dr, I, q⟩ => ?_
  unfold sAug at q
  split at q
  · rename_i k hk
    obtain ⟨v, e0, r0⟩ := I.fr i _ hk
    cases e1 : f (pk env) dr with
    | none => rw [e1] at q; exact q.elim
    | some r =>
      rw [e1] at q
      obtain ⟨d, d1⟩ := r
      simp only [Option.bind_some] at q
      split at q
      · rename_i m
        refine ⟨v, e0, _, pk env, dr, _, _, I.pkV, I.pkE, e1, fun u G' H' r' a' w' => ?_⟩
        refine ⟨k, m, r0.int, r'.int, ?_⟩
        exact q F _ H' ((I.stepP a' w').setF rep_int) fun _ _ z => z
      · exact q.elim
  · exact q.elim
/-! ### a def that calls itself -/
theorem fnx_zero {P : Program} {w : World} {K : PySem.W.Frag} {mg : Str → Option Value} {base : Heap} {x : Str} {st : Stmt} {ps : List Str} {k : Nat} (hf : DefAt K mg x st)
    (hb : ∀ (kV doc pm : Value) (an : Option Addr) (cdv ct : Value) (us : List Value), us.length = ps.length → bindArgs (PySem.W.fnOf x x (defArgs st) (defBody st) (defScope st) .none kV doc pm an cdv ct) ⟨us, []⟩ = pure (ps.zip us)) : FnX P w K mg base x k ps.length fun _ _ => none := by
  obtain ⟨f, fd, F, hm⟩ := hf
  refine ⟨⟨f, fd, ps, ⟨fun vs H Q E h => ?_, fun A outer s H args us vs Q E _ _ _ _ h => ?_⟩, hm, F.kp, F.binds hb⟩, fun ds dr r h => by cases h⟩
  · obtain ⟨ms, G, dr, ds, d, dr', hl, _⟩ := h
    exact hl
  · obtain ⟨ms, G, dr, ds, d, dr', hl, _, _, h, _⟩ := h
    cases h
end
end Dk

set_option maxRecDepth 100000
set_option maxHeartbeats 4000000
/-! Dk10: the draws of the laws (a list of two: the list of the script's cells, and a seed) -/
namespace Dk
open PySem PySem.Spec PyProof.Rows L2
theorem iteTb {A B : Prop} {b : Bool} (hb : b = true) (h : A) : if b = true then A else B := by rw [if_pos hb]; exact h
theorem iteFb {A B : Prop} {b : Bool} (hb : b = false) (h : B) : if b = true then A else B := by rw [hb, if_neg Bool.false_ne_true]; exact h
def intsV : List V → Option (List Int)
  | [] => some []
  | .int i :: r => (intsV r).map (i :: ·)
  | _ :: _ => none
@[simp] theorem intsV_map : ∀ (ns : List Int), intsV (ns.map V.int) = some ns
  | [] => rfl
  | n :: ns => by simp [intsV, intsV_map ns]
theorem intsV_some : ∀ {ds : List V} {ns : List Int}, intsV ds = some ns → ds = ns.map V.int
  | [], ns, h => by simp [intsV] at h; subst h; rfl
  | .int i :: r, ns, h => by
    simp only [intsV, Option.map_eq_some_iff] at h
    obtain ⟨m, e, rfl⟩ := h
    rw [intsV_some e]; rfl
  | .non :: _, ns, h => by simp [intsV] at h
  | .bl _ :: _, ns, h => by simp [intsV] at h
  | .str _ :: _, ns, h => by simp [intsV] at h
  | .byt _ :: _, ns, h => by simp [intsV] at h
  | .flt _ :: _, ns, h => by simp [intsV] at h
  | .ref _ :: _, ns, h => by simp [intsV] at h
  | .ty _ :: _, ns, h => by simp [intsV] at h
def zerosOff : List Int → List Int
  | [] => []
  | x :: r => if x = 0 then zerosOff r else x :: r
def drS (ps pc : Addr) (cells : List Int) (seed : Int) : Dr := [(ps, .lst [.ref pc, .int seed]), (pc, .lst (cells.map V.int))]
def mixS (seed : Int) : Int := (seed * 48271 + 12345) % 2147483647
def m_draw : FD := fun ds dr => match ds, dr with
  | [.tok p, .int n], [(ps, .lst [.ref q, .int seed]), (pc, .lst cs)] =>
    if p = ps ∧ q = pc ∧ ps ≠ pc ∧ 0 < n ∧ n < 1073741824 then (intsV cs).bind fun cells => match zerosOff cells with
      | v :: r => some (.int (v % n), drS ps pc (v / n :: r) seed)
      | [] => some (.int ((mixS seed / 64) % n), drS ps pc [] (mixS seed))
    else none
  | _, _ => none
/-- a draw is some number below n -/
theorem draw_some {ps pc : Addr} (h : ps ≠ pc) (cells : List Int) (seed n : Int) (h0 : 0 < n) (h1 : n < 1073741824) : ∃ k cells' seed', 0 ≤ k ∧ k < n ∧ m_draw [.tok ps, .int n] (drS ps pc cells seed) = some (.int k, drS ps pc cells' seed') := by
  unfold m_draw drS
  simp only
  rw [if_pos ⟨trivial, trivial, h, h0, h1⟩]
  simp only [intsV_map, Option.bind_some]
  split
  · rename_i v r e
    exact ⟨v % n, v / n :: r, seed, Int.emod_nonneg _ (by omega), Int.emod_lt_of_pos _ h0, rfl⟩
  · exact ⟨_, [], mixS seed, Int.emod_nonneg _ (by omega), Int.emod_lt_of_pos _ h0, rfl⟩
theorem m_draw_inv {ds : List D} {dr : Dr} {r : D × Dr} (h : m_draw ds dr = some r) : ∃ ps pc n seed cells, ds = [.tok ps, .int n] ∧ dr = drS ps pc cells seed ∧ ps ≠ pc ∧ 0 < n ∧ n < 1073741824 ∧
    r = (match zerosOff cells with
      | v :: r => (.int (v % n), drS ps pc (v / n :: r) seed)
      | [] => (.int ((mixS seed / 64) % n), drS ps pc [] (mixS seed))) := by
  unfold m_draw at h
  split at h
  · rename_i p n ps q seed pc cs
    split at h
    · rename_i hc
      obtain ⟨rfl, rfl, h2, h3, h4⟩ := hc
      simp only [Option.bind_eq_some_iff] at h
      obtain ⟨cells, h5, h6⟩ := h
      refine ⟨_, _, n, seed, cells, rfl, by rw [intsV_some h5]; rfl, h2, h3, h4, ?_⟩
      split at h6
      · cases h6; rfl
      · cases h6; rfl
    · cases h
  · cases h
/-- the two lists of the draws are written -/
theorem drS_aft {ps pc : Addr} {ms : List Addr} {cells cells' : List Int} {seed seed' : Int} {G H H' : Hp} (hne : ps ≠ pc) (w : Vw ms (drS ps pc cells seed) G H) (h1 : H' ps = some (.lst [.ref pc, .int seed'])) (h2 : H' pc = some (.lst (cells'.map V.int))) (h3 : ∀ a, a ≠ ps → a ≠ pc → H' a = H a) :
    Aft ms G H G H' ∧ Vw ms (drS ps pc cells' seed') G H' := by
  have hm := w.mem
  have off := w.off
  obtain ⟨e1, e2⟩ : ms = [ps, pc] ∧ True := by
    unfold drS at hm
    match ms, hm with
    | [a, b], hm =>
      simp only [MInv] at hm
      exact ⟨by rw [hm.1, hm.2.2.1], trivial⟩
  subst e1
  have ka : ∀ a o, a ∉ [ps, pc] → H a = some o → H' a = some o := fun a o m e => by
    simp at m
    rw [h3 a m.1 m.2]; exact e
  refine ⟨⟨fun _ _ h => h, fun _ _ h => h, ka, fun a h => ?_⟩, ⟨fun a o h => ka a o (fun m => by rw [off a m] at h; cases h) (w.sub a o h), off, ?_⟩⟩
  · by_cases e : a = ps
    · rw [e, h1]; simp
    · by_cases e' : a = pc
      · rw [e', h2]; simp
      · rw [h3 a e e']; exact h
  · unfold drS
    simp only [MInv]
    exact ⟨trivial, h1, trivial, h2, trivial⟩
theorem drS_at {ps pc : Addr} {ms : List Addr} {cells : List Int} {seed : Int} {G H : Hp} (w : Vw ms (drS ps pc cells seed) G H) : H ps = some (.lst [.ref pc, .int seed]) ∧ H pc = some (.lst (cells.map V.int)) := by
  have hm := w.mem
  unfold drS at hm
  match ms, hm with
  | [a, b], hm =>
    simp only [MInv] at hm
    obtain ⟨rfl, h1, rfl, h2, _⟩ := hm
    exact ⟨h1, h2⟩
end Dk
namespace Dk
open PySem PySem.Spec PyProof.Rows L2
def absI (x : Int) : Int := if x < 0 then -x else x
/-- the state of the draws is made -/
def spState (K : PySem.W.Frag) : Sp := fun vs H Q _ => ∃ (a : Addr) (ns : List Int), vs = [.ref a] ∧ SqL K H a (ns.map V.int) ∧ ns.length ≤ 63 ∧
  ∀ H' ps pc seed, Same H H' → H ps = none → H pc = none → ps ≠ pc → H' ps = some (.lst [.ref pc, .int seed]) → H' pc = some (.lst ((ns.map absI).map V.int)) → Q (.ref ps) H'
def spLaw (K : PySem.W.Frag) : Sp := fun vs H Q _ => ∃ (a : Addr) (ns : List Int), vs = [.ref a] ∧ SqL K H a (ns.map V.int) ∧ ns.length ≤ 63 ∧ ∀ H', Q (.bl true) H'
theorem pss_ex {X : Cx} {sts : List Stmt} {g : SDn} (h : ∀ ms G0 H0, PSsd X ms G0 H0 sts g) : PSs X sts (fun D σ H => ∃ ms G0 H0, tS ms G0 H0 g D σ H) := ⟨fun pins s σ H D I ⟨ms, G0, H0, hw⟩ => (h ms G0 H0).run pins s σ H D I hw⟩
/-- where the law's own part begins -/
theorem law_start {g : SDn} {N : List Str} {a ps pc : Addr} {cells : List Int} {seed : Int} {H1 : Hp} {Q : VK} (hN : 2 ≤ N.length) (ne : ps ≠ pc) (e1 : H1 ps = some (.lst [.ref pc, .int seed])) (e2 : H1 pc = some (.lst (cells.map V.int)))
    (hp : ∃ dr', g (Sl.no :: Sl.fr (.tok ps) :: List.replicate (N.length - 2) Sl.no) (drS ps pc cells seed) = some (.rt (.bl true), dr')) (hq : ∀ H', Q (.bl true) H') {nx : L2.St → Hp → Prop} {σ : L2.St} (hσ : σ = (L2.start N [.ref a]).set 1 (some (.ref ps))) :
    ∃ ms G0 H0, tS ms G0 H0 g { nx := nx, rt := Q } σ H1 := by
  obtain ⟨dr', hp⟩ := hp
  obtain ⟨x, y, r, rfl⟩ : ∃ x y r, N = x :: y :: r := by
    match N, hN with
    | x :: y :: r, _ => exact ⟨x, y, r, rfl⟩
  have hσ : σ = some (.ref a) :: some (.ref ps) :: List.replicate r.length none := by rw [hσ]; rfl
  refine ⟨[ps, pc], fun _ => none, H1, fun _ => none, Sl.no :: Sl.fr (.tok ps) :: List.replicate ((x :: y :: r).length - 2) Sl.no, drS ps pc cells seed, ⟨⟨fun a o h => (nomatch h), fun _ _ => rfl, ?_⟩, .refl, ?_, fun i d h => ?_, fun i d h => ?_, fun i j d d' p h => ?_⟩, ?_⟩
  · unfold drS; simp only [MInv]; exact ⟨trivial, e1, trivial, e2, trivial⟩
  · rw [hσ]; simp
  · match i with
    | 0 => simp at h
    | 1 =>
      simp at h
      subst h
      refine ⟨.ref ps, ?_, by simp [Rep]⟩
      rw [hσ]
      rfl
    | i + 2 =>
      simp only [List.getElem?_cons_succ] at h
      rw [List.getElem?_replicate] at h
      split at h <;> cases h
  · match i with
    | 0 => simp at h
    | 1 => simp at h
    | i + 2 =>
      simp only [List.getElem?_cons_succ] at h
      rw [List.getElem?_replicate] at h
      split at h <;> cases h
  · match i with
    | 0 => simp at h
    | 1 => simp at h
    | i + 2 =>
      simp only [List.getElem?_cons_succ] at h
      rw [List.getElem?_replicate] at h
      split at h <;> cases h
  · rw [hp]
    exact fun v G' H' r _ _ => by rw [r.bl]; exact hq H'
end Dk

set_option maxRecDepth 100000
set_option maxHeartbeats 4000000
/-! Dk11: sorted(set(xs)), ints, any number -/
namespace L2
open PySem PySem.Spec PyProof.Rows
section
variable {P : Program} {w : World} {A : Around} {E : Value → Shared → Prop} {s : Shared}
def oSet (led : Bool) : Obj := { cls := .type "set", dict := none, data := .set #[] 0 (.fresh 0 0 led) }
set_option maxHeartbeats 6400000 in
/-- set of a list of ints: its table can be walked -/
theorem call_set_lstI {l : Addr} {items : Array Value} (ns : List Int) {Q : Value → Shared → Prop} (calm : A.handled = none) (lst : s.heap.IsList l items) (inl : IntsAre items.toList ns) (few : ns.length + 1 < scanBound)
    (go : ∀ (h' : Heap) (tk c : Nat), SetR w h' s.heap.objs.size (fun j => decide (j ∈ ns)) c → c ≤ ns.length → (∀ b o, s.heap.get? b = some o → h'.get? b = some o) → Q (.ref s.heap.objs.size) { s with heap := h', toks := tk }) :
    wpAny (model P w) A (call (.type "set") [.ref l]) Q E s := by
  have size_eq : items.size = ns.length := by rw [← IntsAre.length inl, Array.length_toList]
  obtain ⟨c, tl, hmro⟩ := F.called_set.mro
  have z1 := F.called_set.made; have z2 := F.called_set.sub; have z3 := F.called_set.notType; have z4 := F.called_set.canCreate; have z5 := F.typeCall_set_1 (.ref l)
  refine wpAny_call (codeAny_of_tree (show wpAny _ _ (callAny (.type "set") _) _ _ _ from wpAny_pure ⟨Code.quiet_builtin _ (by decide +kernel), codeAny_builtin F.entry_type_call ?_⟩)); rw [Around.under_plain (weight_type_call_type "set" [.ref l] []) rfl]
  repeat (any_goals (first | assumption | wp_step))
  generalize hled : (!w.params.followText "set-order") = led at *
  have new1 : ∀ (Q1 : Value → Shared → Prop) (A1 : Around), Q1 (.ref s.heap.objs.size) { s with heap := s.heap.push (oSet led) } → codeAny (model P w) A1 (.call (.builtin "set.__new__") ⟨[.type "set", .ref l], []⟩) (wants Q1 E) s := fun Q1 A1 h => code_set_led1 (.ref l) (E := E) (by rw [hled]; exact h)
  refine codeAny_mono (new1 (fun obj s1 => obj = .ref s.heap.objs.size ∧ s1 = { s with heap := s.heap.push (oSet led) }) _ ⟨rfl, rfl⟩) fun r s1 hr => ?_
  have put : (s.heap.push (oSet led)).get? s.heap.objs.size = some (oSet led) := Heap.get?_push_size _ rfl
  have ty : Shared.TypeIs { s with heap := s.heap.push (oSet led) } (.ref s.heap.objs.size) "set" := ⟨_, put, rfl⟩
  have z6 := F.called_set.init.lookup; have z7 := F.called_set.init.bind (.ref s.heap.objs.size)
  rcases r with e | fl; · exact hr
  cases fl with
  | ret obj =>
    obtain ⟨rfl, rfl⟩ := hr
    repeat (any_goals (first | assumption | wp_step))
    refine codeAny_mono (codeAny_call_builtin (R := wants (fun r s2 => r = .none ∧ ∃ h' tk c, s2 = { s with heap := h', toks := tk } ∧ SetR w h' s.heap.objs.size (fun j => decide (j ∈ ns)) c ∧ c ≤ ns.length ∧ (∀ b o, s.heap.get? b = some o → h'.get? b = some o)) E)
      F.called_set.init.plain F.entry_set_init (check_set_init_1 ty ?_)) fun r2 s2 hr2 => ?_
    · obtain ⟨⟨ocls, odict, odata, oslots⟩, hol, hcl, nl, hdl⟩ := lst
      simp only at hcl hdl; subst hcl; subst hdl
      have kept : (s.heap.push (oSet led)).get? l = some { cls := .type "list", dict := odict, data := .seq items nl, slots := oslots } := Heap.get?_push_of_some _ hol
      have y1 := F.sub_list_set; have y2 := F.sub_list_frozenset; have y3 : (Value.type "list" == Value.type "dict") = false := by decide
      have isl : (s.heap.push (oSet led)).IsList l items := ⟨_, kept, rfl, nl, rfl⟩
      unfold Builtin.«set.__init__» noKeywords Builtin.Frozenset.updateFrom; generalize hPI : pyIter = PI; wp_walk; subst hPI
      refine wpAny_pyIter_list isl (wpAny_bind (wpAny_runValue ?_))
      have hlS : l < s.heap.objs.size := Heap.lt_size hol
      have sz : (s.heap.push (oSet led)).objs.size = s.heap.objs.size + 1 := Heap.size_push ..
      have ne1 : l ≠ (s.heap.push (oSet led)).objs.size := by rw [sz]; exact Nat.ne_of_lt (Nat.lt_succ_of_lt hlS)
      have out : s.heap.objs.size ∉ [(s.heap.push (oSet led)).objs.size, l] := by
        rw [sz]; simp only [List.mem_cons, List.not_mem_nil, or_false, not_or]; exact ⟨Nat.ne_of_lt (Nat.lt_succ_self _), Nat.ne_of_gt hlS⟩
      have vals : ∀ (i : Nat) (v : Value), items[i]? = some v → ∃ k t, ns[i]? = some k ∧ v = .int k t := fun i v hv => by
        have hi : i < ns.length := size_eq ▸ (Array.getElem?_eq_some_iff.mp hv).1
        obtain ⟨t, e⟩ := IntsAre.int_at inl i v (by rw [Array.getElem?_toList]; exact hv)
        exact ⟨ns[i], t, List.getElem?_eq_getElem hi, by rw [e, List.getD_eq_getElem?_getD, List.getElem?_eq_getElem hi] <;> rfl⟩
      refine set_update_ints ((Walks.list (A := A.in1.in1.in1) (by simp [calm]) _ l ne1 items).toS) s.heap.objs.size out ns size_eq few vals (items.size - 0) 0 _ (by omega) (Nat.zero_le _) ⟨⟨_, Heap.get?_push_size _ rfl, rfl, rfl⟩, isl.push _⟩ ⟨0, Nat.le_refl 0, setR_new_at (by rw [hled]; exact Heap.get?_push_of_some _ put)⟩ ?_
      rintro ⟨h', g2, d', tk', os'⟩ c' hm hc' hS'
      cases (hm.gens : g2 = s.gens); cases (hm.drawn : d' = s.drawn); cases (hm.os : os' = s.os)
      refine (show wpAny _ _ _ _ _ _ from wpAny_pure (show wpAny _ _ (ret Value.none) _ _ _ from wpAny_pure ⟨rfl, h', tk', c', rfl, hS', by omega, fun b o e => ?_⟩))
      have hb0 : b < s.heap.objs.size := Heap.lt_size e
      exact hm.heap b o (by rw [sz]; simp only [List.mem_cons, List.not_mem_nil, or_false, not_or]; exact ⟨Nat.ne_of_lt hb0, Nat.ne_of_lt (Nat.lt_succ_of_lt hb0)⟩) (Heap.get?_push_of_some _ (Heap.get?_push_of_some _ e))
    · rcases r2 with e | fl2; · exact hr2
      cases fl2 with
      | ret r =>
        obtain ⟨rfl, h', tk, c', rfl, hS', hc', hk'⟩ := hr2
        repeat (any_goals (first | assumption | wp_step))
        exact go _ _ _ hS' hc' hk'
      | _ => exact hr2.elim
  | _ => exact hr.elim
end
end L2

set_option maxRecDepth 100000
set_option maxHeartbeats 4000000
namespace L2
open PySem PySem.Spec PyProof.Rows
section
variable {P : Program} {w : World} {A : Around} {E : Value → Shared → Prop} {s : Shared} {a : Addr}
/-- sorted of a set of ints, any number of them -/
theorem sorted_setAny {S : Int → Bool} {n : Nat} {Q : Value → Shared → Prop} (R : SetR w s.heap a S n) (calm : A.handled = none) (small : n ≤ sizeLine)
    (go : ∀ s' p (out : Array Value) (c : Nat) (ns : List Int), (∀ b o, s.heap.get? b = some o → s'.heap.get? b = some o) → s'.gens = s.gens → s'.os = s.os → s.heap.objs.size ≤ p →
      s'.heap.get? p = some (seqObj "list" out c) → IntsAre out.toList ns → ns.Pairwise (· < ·) → (∀ k, k ∈ ns ↔ S k = true) → ns.length = n → Q (.ref p) s') :
    wpAny (model P w) A (call (.builtin "sorted") [.ref a]) Q E s := by
  obtain ⟨o, es, ep, t, there, exact_, data, good, nodup, mem, bound, fits, num, rises, led⟩ := R
  refine Calls.call_function_entry kind_sorted plain_sorted entry_sorted (args_sorted1 _) ?_
  unfold Builtin.«sorted»
  refine wpAny_bind (m := checkCount "sorted" 1 1 _) (wpAny_pure (wpAny_bind (collect_set (A := A.in1) calm ⟨o, there, exact_.1, data⟩ fits bound rises led fun s1 vs k1 hz g1 o1 pm => ?_)))
  have len : vs.length = n := by rw [pm.length_eq, List.length_map, Array.length_toList, num]
  have inl : IntsAre vs (vs.map SrtO.iv) := SrtO.ints_iv fun v hv => by
    obtain ⟨e, he, q⟩ := List.mem_map.mp (pm.mem_iff.mp hv)
    obtain ⟨k, tk, h1, _⟩ := good e he
    exact ⟨k, tk, by rw [← q, h1]⟩
  have keys : es.toList.map (fun e => SrtO.iv e.2) = es.toList.map keyOf := List.map_congr_left fun e he => by
    obtain ⟨k, tk, h1, _⟩ := good e he
    unfold SrtO.iv keyOf
    rw [h1]
  have perm1 : (vs.map SrtO.iv).Perm (es.toList.map keyOf) := by
    have q := pm.map SrtO.iv
    rw [List.map_map] at q
    rw [← keys]
    exact q
  refine wpAny_bind (wpAny_newList ?_ (by rw [len]; exact small))
  have at1 : (s1.heap.push (seqObj "list" vs.toArray 0)).get? s1.heap.objs.size = some (seqObj "list" vs.toArray 0) := Heap.get?_push_size _ rfl
  refine wpAny_bind (wpAny_holding (wpAny_call_entry slot_list_sort ⟨_, at1, rfl⟩ entry_list_sort
    (SrtO.list_sort_ord SrtO.swo_int at1 (by rw [len]; exact small) (fun h2 => SrtO.ints_sortable inl h2) fun out h1 h2 => ⟨.none, rfl, ?_⟩) (args_list_sort _)))
  obtain ⟨q1, q2, q3⟩ := SrtO.ints_out inl h1 h2
  obtain ⟨c, hc⟩ := sortedHeap_at (vs := vs) (out := out.toArray) at1
  have perm2 : (out.map SrtO.iv).Perm (es.toList.map keyOf) := q2.trans perm1
  refine wpAny_pure ⟨_, rfl, go _ s1.heap.objs.size out.toArray c (out.map SrtO.iv) (fun b u e => ?_) g1 o1 hz hc (by simpa using q1) (lt_of_le_nodup _ q3 (perm2.nodup_iff.mpr nodup)) (fun k => by rw [perm2.mem_iff, ← mem k]) (by rw [perm2.length_eq, List.length_map, Array.length_toList, num])⟩
  have lt1 := Heap.lt_size (k1 b u e)
  have old := sortedHeap_old (h := s1.heap.push (seqObj "list" vs.toArray 0)) (a := s1.heap.objs.size) (vs := vs) (out := out.toArray) (b := b) (Nat.ne_of_lt lt1) (by rw [size_push']; exact Nat.lt_succ_of_lt lt1)
  exact old.trans (Heap.get?_push_of_some _ (k1 b u e))
end
section
variable {X : Cx}
/-- set(xs), a list or a tuple of ints -/
def rSetS (K : PySem.W.Frag) (w : World) : List V → Hp → VK → Prop := fun vs H Q => ∃ (l : Addr) (ns : List Int), vs = [V.ref l] ∧ (SqL K H l (ns.map V.int) ∨ SqT K H l (ns.map V.int)) ∧ ns.length + 1 < scanBound ∧
  ∀ (a : Addr) (c : Nat), H a = none → c ≤ ns.length → Q (.ref a) (upd H a (SetO w a (fun j => decide (j ∈ ns)) c))
theorem cr_setS (hc : X.calm = true) : CallR X (.type "set") (rSetS X.K X.w) := by
  intro pins s σ H vs us Q I r h
  obtain ⟨l, ns, rfl, hs, few, q⟩ := h
  rw [Vals.ref1 r]
  have fresh : H s.heap.objs.size = none := I.hok.fresh (Nat.le_refl _)
  have fin : ∀ (h' : Heap) (tk c : Nat), SetR X.w h' s.heap.objs.size (fun j => decide (j ∈ ns)) c → c ≤ ns.length → (∀ b o, s.heap.get? b = some o → h'.get? b = some o) → EP X pins σ Q (.ref s.heap.objs.size) { s with heap := h', toks := tk } :=
    fun h' tk c R le k => ⟨.ref s.heap.objs.size, _, I.laid (t' := tk) k (Nat.le_refl _) (setO_new R), rfl, q _ c fresh le⟩
  rcases hs with hs | hs
  · obtain ⟨its, rv, pl, hz⟩ := I.list hs
    exact call_set_lstI (P := X.prog) (w := X.w) ns (I.ok.hd hc) pl.isList (by simpa using rv.ints) few fin
  · obtain ⟨its, rv, pl, hz⟩ := I.tuple hs
    exact call_set_tupI (P := X.prog) (w := X.w) ns (I.ok.hd hc) pl (by simpa using rv.ints) few fin
/-- sorted(found), any number of members -/
def rSortedS2 (w : World) : List V → Hp → VK → Prop := fun vs H Q => ∃ (a : Addr) (S : Int → Bool) (n : Nat), vs = [V.ref a] ∧ H a = some (SetO w a S n) ∧ n ≤ sizeLine ∧
  ∀ (ns : List Int) (p : Addr), ns.Pairwise (· < ·) → (∀ k : Int, k ∈ ns ↔ S k = true) → H p = none → Q (.ref p) (upd H p (.lst (ns.map V.int)))
theorem cr_sortedS2 (hc : X.calm = true) : CallR X (.builtin "sorted") (rSortedS2 X.w) := by
  intro pins s σ H vs us Q I r h
  obtain ⟨a, S, n, rfl, ha, small, q⟩ := h
  rw [Vals.ref1 r]
  refine sorted_setAny (setO_get I ha) (I.ok.hd hc) small fun s' p out c ns k g o hp hg hi hs hm hl => ?_
  have free : H p = none := I.hok.fresh hp
  have J : Inv X pins σ (upd H p (.lst (ns.map V.int))) { s with heap := s'.heap, gens := s'.gens, drawn := s'.drawn, toks := s'.toks } :=
    I.call (ch := []) (Un.laid k hp free) (I.hok.laid k hp ⟨by rw [List.length_map, hl]; exact small, out.toList, c, vals_of_ints hi, hg⟩) (by rw [g]; exact I.bare) (fun _ z => nomatch z)
  have e : s' = { s with heap := s'.heap, gens := s'.gens, drawn := s'.drawn, toks := s'.toks } := by
    rcases s' with ⟨_, _, _, _, _⟩; rcases s with ⟨_, _, _, _, _⟩; cases o; rfl
  rw [e]
  exact ⟨.ref p, _, J, rfl, q ns p hs hm free⟩
end
end L2
namespace Dk
open PySem PySem.Spec PyProof.Rows L2
/-- each once, in rising order -/
def dedI : List Int → List Int
  | [] => []
  | x :: r => if x ∈ r then dedI r else x :: dedI r
theorem dedI_mem : ∀ {l : List Int} {k : Int}, k ∈ dedI l ↔ k ∈ l
  | [], k => by simp [dedI]
  | x :: r, k => by
    unfold dedI
    split
    · rename_i h
      rw [dedI_mem (l := r), List.mem_cons]
      exact ⟨.inr, fun h' => h'.elim (fun e => by rw [e]; exact h) id⟩
    · rw [List.mem_cons, List.mem_cons, dedI_mem (l := r)]
theorem dedI_nodup : ∀ l : List Int, (dedI l).Nodup
  | [] => .nil
  | x :: r => by
    unfold dedI
    split
    · exact dedI_nodup r
    · rename_i h
      exact List.nodup_cons.mpr ⟨fun m => h (dedI_mem.mp m), dedI_nodup r⟩
def srtS (l : List Int) : List Int := sortI (dedI l)
theorem srtS_mem {l : List Int} {k : Int} : k ∈ srtS l ↔ k ∈ l := by
  unfold srtS
  rw [(sortI_perm _).mem_iff, dedI_mem]
theorem srtS_lt (l : List Int) : (srtS l).Pairwise (· < ·) :=
  lt_of_le_nodup _ (sortI_sorted _) ((sortI_perm _).nodup_iff.mpr (dedI_nodup l))
theorem lt_unique : ∀ {a b : List Int}, a.Pairwise (· < ·) → b.Pairwise (· < ·) → (∀ k, k ∈ a ↔ k ∈ b) → a = b
  | [], [], _, _, _ => rfl
  | [], y :: b, _, _, h => absurd ((h y).mpr (by simp)) (by simp)
  | x :: a, [], _, _, h => absurd ((h x).mp (by simp)) (by simp)
  | x :: a, y :: b, ha, hb, h => by
    rw [List.pairwise_cons] at ha hb
    have e : x = y := by
      rcases List.mem_cons.mp ((h x).mp (by simp)) with e | m1
      · exact e
      · rcases List.mem_cons.mp ((h y).mpr (by simp)) with e | m2
        · exact e.symm
        · have := ha.1 y m2; have := hb.1 x m1; omega
    subst e
    congr 1
    refine lt_unique ha.2 hb.2 fun k => ⟨fun m => ?_, fun m => ?_⟩
    · rcases List.mem_cons.mp ((h k).mp (List.mem_cons_of_mem _ m)) with e | m1
      · have := ha.1 k m; omega
      · exact m1
    · rcases List.mem_cons.mp ((h k).mpr (List.mem_cons_of_mem _ m)) with e | m1
      · have := hb.1 k m; omega
      · exact m1
def sortSetV : D → Option D
  | .lst ds => (intsD ds).bind fun ns => if ns.length ≤ 4000 then some (.lst ((srtS ns).map D.int)) else none
  | .tup ds => (intsD ds).bind fun ns => if ns.length ≤ 4000 then some (.lst ((srtS ns).map D.int)) else none
  | _ => none
section
variable {X : Cx} {ms : List Addr} {e : Expr} {f : ED} {p1 p2 pos1 pos2 : Pos}
theorem pfd_sortSet (hc : X.calm = true) (hg1 : Gl X "sorted") (hm1 : X.mg "sorted" = none) (hv1 : bootBuiltins "sorted" = some (.builtin "sorted")) (hg2 : Gl X "set") (hm2 : X.mg "set" = none) (hv2 : bootBuiltins "set" = some (.type "set")) (he : PEd X ms e f)
    (s1 : starEach [Expr.Call (.Name "set" p2) [e] [] pos2] X.env = (false, eval (Expr.Call (.Name "set" p2) [e] [] pos2) X.env) :: starEach [] X.env := by rfl) (s2 : starEach [e] X.env = (false, eval e X.env) :: starEach [] X.env := by rfl) :
    PFd X ms (.Call (.Name "sorted" p1) [.Call (.Name "set" p2) [e] [] pos2] [] pos1) (e1 sortSetV f) := by
  refine pe_imp (pe_callB (cr_sortedS2 hc) hg1 hm1 hv1 (pa_cons (pe_callTy (cr_setS hc) hg2 hm2 hv2 (pa_cons he pa_nil s2) (by decide) (by decide) s2 (by rfl)) pa_nil s1) (by decide) (by decide) s1 (by rfl)) fun σ H Q ⟨G, ρ, dr, d, dr', w, r, h, k⟩ => ?_
  obtain ⟨x, h1, h2⟩ := e1_inv h
  refine ⟨G, ρ, dr, x, dr', w, r, h1, fun v G1 H1 q1 a1 w1 => ?_⟩
  have fin : ∀ (l : Addr) (ns : List Int), v = .ref l → (SqL X.K H1 l (ns.map V.int) ∨ SqT X.K H1 l (ns.map V.int)) → ns.length ≤ 4000 → d = .lst ((srtS ns).map D.int) → rSetS X.K X.w [v] H1 fun z H2 => rSortedS2 X.w [z] H2 Q := by
    intro l ns e sq few ed
    subst e; subst ed
    refine ⟨l, ns, rfl, sq, by unfold scanBound; omega, fun a c fr le => ?_⟩
    refine ⟨a, _, c, rfl, upd_same, by rw [sizeLine_eq]; omega, fun ns' p lt mem fp => ?_⟩
    have en : ns' = srtS ns := lt_unique lt (srtS_lt ns) fun k => by rw [mem, srtS_mem, decide_eq_true_eq]
    subst en
    have w2 := w1.allocH fr (SetO X.w a (fun j => decide (j ∈ ns)) c)
    obtain ⟨o, a3, w3, n3⟩ := own_new w2 fp (RepL.ints (G := G1) (srtS ns))
    refine k p G1 _ o ((a1.trans (.allocH fr _)).trans a3) w3 n3 ?_
    have h0 : H1 p = none := by
      by_cases z : p = a
      · rw [z]; exact fr
      · rw [upd_ne z] at fp; exact fp
    cases e0 : H p with
    | none => rfl
    | some u => exact absurd h0 (a1.ks p (by rw [e0]; simp))
  cases x with
  | lst ds =>
    simp only [sortSetV, Option.bind_eq_some_iff] at h2
    obtain ⟨ns, e1, h3⟩ := h2
    split at h3
    · rename_i hl
      cases h3
      obtain ⟨a, vs, rfl, eq, rl⟩ := q1.lst
      rw [ints_of rl e1] at eq
      exact fin a ns rfl (.inl (.of (w1.sub _ _ eq))) hl rfl
    · cases h3
  | tup ds =>
    simp only [sortSetV, Option.bind_eq_some_iff] at h2
    obtain ⟨ns, e1, h3⟩ := h2
    split at h3
    · rename_i hl
      cases h3
      obtain ⟨a, vs, rfl, eq, rl⟩ := q1.tup
      rw [ints_of rl e1] at eq
      exact fin a ns rfl (.inr (.of (w1.sub _ _ eq))) hl rfl
    · cases h3
  | _ => simp [sortSetV] at h2
theorem ped_sortSet (hc : X.calm = true) (hg1 : Gl X "sorted") (hm1 : X.mg "sorted" = none) (hv1 : bootBuiltins "sorted" = some (.builtin "sorted")) (hg2 : Gl X "set") (hm2 : X.mg "set" = none) (hv2 : bootBuiltins "set" = some (.type "set")) (he : PEd X ms e f)
    (s1 : starEach [Expr.Call (.Name "set" p2) [e] [] pos2] X.env = (false, eval (Expr.Call (.Name "set" p2) [e] [] pos2) X.env) :: starEach [] X.env := by rfl) (s2 : starEach [e] X.env = (false, eval e X.env) :: starEach [] X.env := by rfl) :
    PEd X ms (.Call (.Name "sorted" p1) [.Call (.Name "set" p2) [e] [] pos2] [] pos1) (e1 sortSetV f) := ped_of (pfd_sortSet hc hg1 hm1 hv1 hg2 hm2 hv2 he s1 s2)
end
end Dk

set_option maxRecDepth 100000
set_option maxHeartbeats 4000000
/-! Dk13: tuple(range(a, b)) -/
namespace Dk
open PySem PySem.Spec PyProof.Rows L2
instance (a b : Int) : Decidable (RgOk a b) := by unfold RgOk; exact inferInstance
def tupRgV : D → D → Option D := fun x y => match x, y with
  | .int i, .int j => if RgOk i j then some (.tup (rgD i (j - i).toNat)) else none
  | _, _ => none
theorem rgV_ints (i j : Int) : rgV i j = ((List.range (j - i).toNat).map fun (k : Nat) => i + (k : Int)).map V.int := by unfold rgV; rw [List.map_map]; rfl
theorem rgD_ints (i : Int) (n : Nat) : rgD i n = ((List.range n).map fun (k : Nat) => i + (k : Int)).map D.int := by unfold rgD; rw [List.map_map]; rfl
section
variable {X : Cx} {ms : List Addr} {a b : Expr} {f g : ED} {p1 p2 pos1 pos2 : Pos}
theorem ped_tupRg2 (hc : X.calm = true) (hm1 : X.mg "tuple" = none) (hm2 : X.mg "range" = none) (ha : PEd X ms a f) (hb : PEd X ms b g) (hg1 : Gl X "tuple" := by rfl) (hg2 : Gl X "range" := by rfl)
    (s1 : starEach [a, b] X.env = (false, eval a X.env) :: starEach [b] X.env := by rfl) (s2 : starEach [b] X.env = (false, eval b X.env) :: starEach [] X.env := by rfl) (s3 : (backTo pos2 (starEach [b] X.env)).any (·.1) = false := by rfl)
    (s4 : starEach [Expr.Call (.Name "range" p2) [a, b] [] pos2] X.env = (false, eval (Expr.Call (.Name "range" p2) [a, b] [] pos2) X.env) :: starEach [] X.env := by rfl) :
    PEd X ms (.Call (.Name "tuple" p1) [.Call (.Name "range" p2) [a, b] [] pos2] [] pos1) (e2 tupRgV f g) := by
  refine pe_imp (pe_tupRg hc hg1 hm1 (prg_2 hg2 hm2 ha hb s1 s2 s3) s4) fun σ H Q ⟨G, ρ, dr, d, dr', w, r, h, k⟩ => ?_
  obtain ⟨x, dr1, y, h1, h2, h3⟩ := e2_inv h
  refine ⟨G, ρ, dr, x, dr1, w, r, h1, fun v G1 H1 q1 a1 w1 => ?_⟩
  refine ⟨G1, ρ, dr1, y, dr', w1, r.mono a1.gr, h2, fun u G2 H2 q2 a2 w2 => ?_⟩
  unfold tupRgV at h3
  split at h3
  · rename_i i j
    split at h3
    · rename_i ok
      cases h3
      simp only [Rep] at q1 q2
      refine ⟨i, j, q1, q2, ok, fun q hq => ?_⟩
      refine k _ (upd G2 q (.tup (rgV i j))) _ ?_ ((a1.trans a2).trans (.alloc w2 hq _)) (w2.alloc hq _)
      simp only [Rep]
      refine ⟨q, _, rfl, upd_same, ?_⟩
      rw [rgV_ints, rgD_ints]
      exact RepL.ints _
    · cases h3
  · cases h3
end
end Dk

set_option maxRecDepth 100000
set_option maxHeartbeats 4000000
/-! Dk14: sum, max, min, sorted of a tuple of ints -/
namespace L2
open PySem PySem.Spec PyProof.Rows
section
variable {prog : Program} {w : World} {A : Around} {E : Value → Shared → Prop} {s : Shared} {t : Addr} {xs : Array (Int × Tok)}
theorem iter_tupI {Q : Value → Shared → Prop} (ht : s.heap.IsTuple t (intItems xs))
    (h : ∀ s2 : Shared, s2 = { s with heap := s.heap.push { cls := .type "tuple_iterator", data := .fields #[.ref t, .int 0 0] } } → s2.heap.IsTupleIter s.heap.objs.size t 0 ∧ s2.heap.IsTuple t (intItems xs) → (∀ b ∈ [s.heap.objs.size, t], b < s2.heap.objs.size) → t ≠ s.heap.objs.size → Q (.ref s.heap.objs.size) s2) :
    wpAny (model prog w) A (pyIter (.ref t)) Q E s := by
  obtain ⟨o, ho, hc, n, hd⟩ := id ht
  refine wpAny_pyIter_tuple ht (h _ rfl ⟨⟨_, Heap.get?_push_size _ rfl, rfl, rfl⟩, ht.at fun o e => Heap.get?_push_of_some _ e⟩ (fun b hb => ?_) (Nat.ne_of_lt (Heap.lt_size ho)))
  rcases List.mem_cons.mp hb with rfl | hb
  · exact Heap.lt_size (Heap.get?_push_size _ rfl)
  · obtain rfl := List.mem_singleton.mp hb
    exact Heap.lt_size (Heap.get?_push_of_some _ ho)
theorem kept_old {h0 h' : Heap} {o0 : Obj} {wr : List Addr} (hw : ∀ b ∈ wr, b = h0.objs.size) (k : ∀ b o, b ∉ wr → (h0.push o0).get? b = some o → h'.get? b = some o) : ∀ b o, h0.get? b = some o → h'.get? b = some o := fun b o e =>
  k b o (fun hb => absurd (Heap.lt_size e) (hw b hb ▸ Nat.lt_irrefl _)) (Heap.get?_push_of_some _ e)
theorem max_tupI {Q : Value → Shared → Prop} (hh : A.handled = none) (ht : s.heap.IsTuple t (intItems xs)) (hne : 0 < xs.size)
    (h : ∀ v h' tk, (intItems xs)[argBest (fun i j => decide (numAt xs i > numAt xs j)) (xs.size - 1)]? = some v → (∀ b o, s.heap.get? b = some o → h'.get? b = some o) → Q v { s with heap := h', toks := tk }) :
    wpAny (model prog w) A (call (.builtin "max") [.ref t]) Q E s := by
  refine call_max_walk (iter_tupI ht fun s2 e st fp ne => ?_)
  subst e
  exact ⟨_, _, _, _, _, _, _, rfl, Walks.tuple (A := A.in1) hh _ t ne (intItems xs), st, fp, by simpa [intItems] using hne, CmpOf.ints_gt (numAt xs) (fun _ _ => intItems_at), fun v h' tk hP hk => h v h' tk (by simpa [intItems] using hP) (kept_old (fun b hb => by simpa using hb) hk)⟩
theorem min_tupI {Q : Value → Shared → Prop} (hh : A.handled = none) (ht : s.heap.IsTuple t (intItems xs)) (hne : 0 < xs.size)
    (h : ∀ v h' tk, (intItems xs)[argBest (fun i j => decide (numAt xs i < numAt xs j)) (xs.size - 1)]? = some v → (∀ b o, s.heap.get? b = some o → h'.get? b = some o) → Q v { s with heap := h', toks := tk }) :
    wpAny (model prog w) A (call (.builtin "min") [.ref t]) Q E s := by
  refine call_min_walk (iter_tupI ht fun s2 e st fp ne => ?_)
  subst e
  exact ⟨_, _, _, _, _, _, _, rfl, Walks.tuple (A := A.in1) hh _ t ne (intItems xs), st, fp, by simpa [intItems] using hne, CmpOf.ints_lt (numAt xs) (fun _ _ => intItems_at), fun v h' tk hP hk => h v h' tk (by simpa [intItems] using hP) (kept_old (fun b hb => by simpa using hb) hk)⟩
end
section
variable {X : Cx}
def rSumT (K : PySem.W.Frag) : List V → Hp → VK → Prop := fun vs H Q => ∃ (a : Addr) (ns : List Int), vs = [V.ref a] ∧ SqT K H a (ns.map V.int) ∧ Q (.int ns.sum) H
def rMaxT (K : PySem.W.Frag) : List V → Hp → VK → Prop := fun vs H Q => ∃ (a : Addr) (ns : List Int), vs = [V.ref a] ∧ SqT K H a (ns.map V.int) ∧ 0 < ns.length ∧ ∀ m, m ∈ ns → (∀ y, y ∈ ns → y ≤ m) → Q (.int m) H
def rMinT (K : PySem.W.Frag) : List V → Hp → VK → Prop := fun vs H Q => ∃ (a : Addr) (ns : List Int), vs = [V.ref a] ∧ SqT K H a (ns.map V.int) ∧ 0 < ns.length ∧ ∀ m, m ∈ ns → (∀ y, y ∈ ns → m ≤ y) → Q (.int m) H
theorem items_of {its : List Value} {ns : List Int} (hi : IntsAre its ns) : ∃ xs : Array (Int × Tok), its.toArray = intItems xs ∧ (List.range xs.size).map (numAt xs) = ns ∧ xs.size = ns.length := by
  obtain ⟨xs, e⟩ := hi.allInts.items
  have hn : numsOf (intItems xs).toList = ns := by rw [← e]; exact hi.numsOf
  have hl : xs.size = ns.length := by
    have q := congrArg Array.size e
    simp [intItems] at q
    rw [← q, hi.length]
  rw [nums_intItems] at hn
  refine ⟨xs, e, ?_, hl⟩
  rw [← hn]
  refine List.ext_getElem (by simp) fun i h1 h2 => ?_
  simp only [List.length_map, List.length_range] at h1
  simp [numAt_eq, List.getD, h1]
theorem cr_sumT (hc : X.calm = true) : CallR X (.builtin "sum") (rSumT X.K) := by
  intro pins s σ H vs us Q I r h
  obtain ⟨a, ns, rfl, hs, q⟩ := h
  obtain ⟨its, rv, hl, _⟩ := I.tuple hs
  rw [Vals.ref1 r]
  obtain ⟨xs, e⟩ := rv.ints.allInts.items
  have hn : numsOf (intItems xs).toList = ns := by rw [← e]; exact rv.ints.numsOf
  rw [nums_intItems] at hn
  refine PySem.W.ktm_sumG (I.ok.hd hc) (by rw [← e]; exact hl) fun h' tk t' hk => ?_
  rw [preSum_eq, List.take_of_length_le (by simp), hn]
  exact ⟨.int _, H, I.kept hk, ⟨_, rfl⟩, q⟩
theorem cr_maxT (hc : X.calm = true) : CallR X (.builtin "max") (rMaxT X.K) := by
  intro pins s σ H vs us Q I r h
  obtain ⟨a, ns, rfl, hs, hne, q⟩ := h
  obtain ⟨its, rv, hl, _⟩ := I.tuple hs
  rw [Vals.ref1 r]
  obtain ⟨xs, e, e2, e3⟩ := items_of rv.ints
  refine max_tupI (I.ok.hd hc) (by rw [← e]; exact hl) (by omega) fun v h' tk hv hk => ?_
  obtain ⟨t, rfl⟩ := intItems_at hv
  obtain ⟨h1, h2⟩ := argBest_gt (numAt xs) (xs.size - 1)
  refine ⟨.int _, H, I.kept hk, ⟨t, rfl⟩, q _ ?_ fun y hy => ?_⟩
  · rw [← e2]; exact List.mem_map.mpr ⟨_, List.mem_range.mpr (by omega), rfl⟩
  · rw [← e2] at hy
    obtain ⟨j, hj, rfl⟩ := List.mem_map.mp hy
    rw [List.mem_range] at hj
    exact h2 j (by omega)
theorem cr_minT (hc : X.calm = true) : CallR X (.builtin "min") (rMinT X.K) := by
  intro pins s σ H vs us Q I r h
  obtain ⟨a, ns, rfl, hs, hne, q⟩ := h
  obtain ⟨its, rv, hl, _⟩ := I.tuple hs
  rw [Vals.ref1 r]
  obtain ⟨xs, e, e2, e3⟩ := items_of rv.ints
  refine min_tupI (I.ok.hd hc) (by rw [← e]; exact hl) (by omega) fun v h' tk hv hk => ?_
  obtain ⟨t, rfl⟩ := intItems_at hv
  obtain ⟨h1, h2⟩ := argBest_lt (numAt xs) (xs.size - 1)
  refine ⟨.int _, H, I.kept hk, ⟨t, rfl⟩, q _ ?_ fun y hy => ?_⟩
  · rw [← e2]; exact List.mem_map.mpr ⟨_, List.mem_range.mpr (by omega), rfl⟩
  · rw [← e2] at hy
    obtain ⟨j, hj, rfl⟩ := List.mem_map.mp hy
    rw [List.mem_range] at hj
    exact h2 j (by omega)
end
end L2
namespace Dk
open PySem PySem.Spec PyProof.Rows L2
def sumA : List D → Option D
  | [.tup ds] => (intsD ds).bind fun ns => some (.int ns.sum)
  | xs => sumV xs
def maxA : List D → Option D
  | [.tup ds] => (intsD ds).bind fun ns => if ns ≠ [] then some (.int (maxI ns)) else none
  | xs => maxV xs
def minA : List D → Option D
  | [.tup ds] => (intsD ds).bind fun ns => if ns ≠ [] then some (.int (minI ns)) else none
  | xs => minV xs
section
variable {X : Cx} {ms : List Addr}
theorem crd_sumA (hc : X.calm = true) : CallR X (.builtin "sum") (rDN ms sumA) := by
  intro pins s σ H xs us Q I rx ⟨G, dr, ds, d, w, q, h, k⟩
  unfold sumA at h
  split at h
  · simp only [Option.bind_eq_some_iff] at h
    obtain ⟨ns, h1, h2⟩ := h
    cases h2
    obtain ⟨v, rfl, q1⟩ := q.one
    obtain ⟨a, vs, rfl, e1, r1⟩ := q1.tup
    rw [ints_of r1 h1] at e1
    exact cr_sumT hc pins s σ H _ us Q I rx ⟨a, ns, rfl, .of (w.sub _ _ e1), k _ G H rep_int .refl w⟩
  · exact crd_sum hc pins s σ H _ us Q I rx ⟨G, dr, ds, d, w, q, h, k⟩
theorem crd_maxA (hc : X.calm = true) : CallR X (.builtin "max") (rDN ms maxA) := by
  intro pins s σ H xs us Q I rx ⟨G, dr, ds, d, w, q, h, k⟩
  unfold maxA at h
  split at h
  · simp only [Option.bind_eq_some_iff] at h
    obtain ⟨ns, h1, h2⟩ := h
    split at h2
    · rename_i hn
      cases h2
      obtain ⟨v, rfl, q1⟩ := q.one
      obtain ⟨a, vs, rfl, e1, r1⟩ := q1.tup
      rw [ints_of r1 h1] at e1
      refine cr_maxT hc pins s σ H _ us Q I rx ⟨a, ns, rfl, .of (w.sub _ _ e1), List.length_pos_iff.mpr hn, fun m hm hle => ?_⟩
      obtain ⟨z1, z2⟩ := maxI_spec hn
      rw [show m = maxI ns from Int.le_antisymm (z2 m hm) (hle _ z1)]
      exact k _ G H rep_int .refl w
    · cases h2
  · exact crd_max hc pins s σ H _ us Q I rx ⟨G, dr, ds, d, w, q, h, k⟩
theorem crd_minA (hc : X.calm = true) : CallR X (.builtin "min") (rDN ms minA) := by
  intro pins s σ H xs us Q I rx ⟨G, dr, ds, d, w, q, h, k⟩
  unfold minA at h
  split at h
  · simp only [Option.bind_eq_some_iff] at h
    obtain ⟨ns, h1, h2⟩ := h
    split at h2
    · rename_i hn
      cases h2
      obtain ⟨v, rfl, q1⟩ := q.one
      obtain ⟨a, vs, rfl, e1, r1⟩ := q1.tup
      rw [ints_of r1 h1] at e1
      refine cr_minT hc pins s σ H _ us Q I rx ⟨a, ns, rfl, .of (w.sub _ _ e1), List.length_pos_iff.mpr hn, fun m hm hle => ?_⟩
      obtain ⟨z1, z2⟩ := minI_spec hn
      rw [show m = minI ns from Int.le_antisymm (hle _ z1) (z2 m hm)]
      exact k _ G H rep_int .refl w
    · cases h2
  · exact crd_min hc pins s σ H _ us Q I rx ⟨G, dr, ds, d, w, q, h, k⟩
end
end Dk

set_option maxRecDepth 100000
set_option maxHeartbeats 4000000
/-! Dk15: a list unpacked into names; xs[::-1]; a tuple read in the wide view and unpacked -/
namespace L2
open PySem PySem.Spec PyProof.Rows
section
variable {prog : Program} {w : World} {A : Around} {E : Value → Shared → Prop} {s : Shared}
theorem draw_lst {it l : Addr} {items : Array Value} (hne : l ≠ it) : ∀ (n i : Nat) (s : Shared) (Q : List Value → Shared → Prop), s.heap.IsListIter it l i → s.heap.IsList l items → i + n ≤ items.size →
    (∀ h', h'.IsListIter it l (i + n) → Heap.SameBut it s.heap h' → Q ((items.toList.drop i).take n) { s with heap := h' }) → wpAny (model prog w) A (draw (.ref it) n) Q E s
  | 0, i, s, Q, hit, _, _, go => by
    refine (show wpAny _ _ (pure []) Q E s from wpAny_pure ?_)
    simpa using go s.heap hit (Heap.SameBut.refl ..)
  | n + 1, i, s, Q, hit, ht, hle, go => by
    have hlt : i < items.size := by omega
    refine (show wpAny _ _ (pyNext (.ref it) >>= _) Q E s from wpAny_bind (wpAny_pyNext_list_item hit ht (x := items[i]) (by simp [hlt]) fun h1 hit1 hs1 => ?_))
    refine wpAny_bind (wpAny_holding (draw_lst hne n (i + 1) _ _ hit1 (ht.extBut hs1.extBut hne) (by omega) fun h2 hit2 hs2 => wpAny_pure ?_))
    have q := go h2 (by rw [show i + (n + 1) = i + 1 + n by omega]; exact hit2) (hs1.trans hs2)
    rw [show items.toList.drop i = items[i] :: items.toList.drop (i + 1) by simp [List.drop_eq_getElem_cons, hlt], List.take_succ_cons] at q
    exact q
theorem unpackItems_lst {l : Addr} {items : Array Value} {Q : List Value → Shared → Prop} (hh : A.handled = none) (ht : s.heap.IsList l items)
    (go : ∀ h', Heap.ExtBut s.heap.objs.size s.heap h' → Q items.toList { s with heap := h' }) : wpAny (model prog w) A (unpackItems (.ref l) items.size none) Q E s := by
  have hlt : l ≠ s.heap.objs.size := by obtain ⟨o, ho, _⟩ := ht; exact Nat.ne_of_lt (Heap.lt_size ho)
  unfold unpackItems
  refine wpAny_bind ?_
  unfold notIterableAtAll
  refine wpAny_bind (wpAny_specialOf ht.typeIs F.slot_list_iter.lookup (wpAny_pure ?_))
  simp only [Bool.false_eq_true, if_false]
  refine wpAny_bind (wpAny_holding (wpAny_pyIter_list ht ?_))
  have new : ∀ o : Obj, (s.heap.push o).IsList l items := fun o => ht.push _
  refine wpAny_bind (wpAny_holding (draw_lst hlt items.size 0 _ _ ⟨_, Heap.get?_push_size _ rfl, rfl, rfl⟩ (new _) (by omega) fun h1 hit1 hs1 => ?_))
  rw [show List.take items.size (List.drop 0 items.toList) = items.toList from by rw [List.drop_zero]; exact List.take_of_length_le (by simp)]
  rw [if_neg (by simp)]
  refine wpAny_bind (wpAny_holding (wpAny_pyNext_list_end hh hit1 ((new _).extBut hs1.extBut hlt) (by simp) fun h2 he2 => ?_))
  simp only [Option.isSome_none, Bool.false_eq_true, if_false]
  exact wpAny_pure (go h2 fun b o hb e => he2 b o hb (hs1.extBut b o hb (Heap.get?_push_of_some _ e)))
theorem assign_Tuple_lst {env : Env} {elts : List Expr} {x1} {pos : Pos} {l : Addr} {items : Array Value} {Q : Unit → Shared → Prop} (hh : A.handled = none) (ht : s.heap.IsList l items)
    (hn : (assignEach elts env).length = items.size) (hstar : (assignEach elts env).findIdx? (·.1) = none)
    (go : ∀ h', Heap.ExtBut s.heap.objs.size s.heap h' → wpAny (model prog w) A (assignInOrder ((assignEach elts env).map (·.2)) items.toList) Q E { s with heap := h' }) :
    wpAny (model prog w) A (assign (.Tuple elts x1 pos) env (.ref l)) Q E s := by
  rw [assign_Tuple]
  refine wpAny_bind (wpAny_standAt ?_)
  unfold unpack
  rw [hn, hstar]
  exact wpAny_bind (wpAny_holding (unpackItems_lst hh ht go))
end
def gTupL (K : PySem.W.Frag) (n : Nat) (t : TGs) : TG := fun v σ H Q => ∃ a xs, v = .ref a ∧ SqL K H a xs ∧ xs.length = n ∧ t xs σ H Q
theorem pg_tupL {X : Cx} {pos : Pos} {es : List Expr} {k : Nat} {t : TGs} {n : Nat} (hc : X.calm = true) (h : PGs X es t)
    (hn : (assignEach es X.env).length = n := by rfl) (hst : (assignEach es X.env).findIdx? (·.1) = none := by rfl) : PG X (.Tuple es k pos) (gTupL X.K n t) := by
  refine ⟨fun pins s σ H v u Q I r ⟨a, xs, e1, hq, hl, hw⟩ => ?_⟩
  subst e1
  cases r
  obtain ⟨its, rv, ht, hz⟩ := I.list hq
  refine assign_Tuple_lst (I.ok.hd hc) ht.isList (by simp [hn, ← hl, rv.length]) hst fun h' hx => ?_
  exact h.run pins _ σ H xs _ Q (I.kept (t' := s.toks) fun b o e => hx b o (Nat.ne_of_lt (Heap.lt_size e)) e) (by simpa using rv) hw
end L2
namespace Dk
open PySem PySem.Spec PyProof.Rows L2
def gTL (t : List D → List Sl → Option (List Sl)) : TgD := fun d env => match d with
  | .lst ds => t ds env
  | _ => none
def sAsgTP (t : TgD) (f : ED) : SDn := fun env dr => (f (pk env) dr).bind fun p => if isSc p.1 = true then (t p.1 env).bind fun e => some (.nx e, p.2) else none
def revL : D → Option D
  | .lst xs => some (.lst xs.reverse)
  | _ => none
section
variable {X : Cx} {ms : List Addr} {G0 H0 : Hp} {pos : Pos} {tg e : Expr} {es : List Expr} {f : ED} {tt : TgD} {ts : List D → List Sl → Option (List Sl)}
theorem pgd_tupL {k n : Nat} (hc : X.calm = true) (h : PGsd X ms G0 H0 es ts) (hl : ∀ ds env r, ts ds env = some r → ds.length = n)
    (hn : (assignEach es X.env).length = n := by rfl) (hst : (assignEach es X.env).findIdx? (·.1) = none := by rfl) : PGd X ms G0 H0 (.Tuple es k pos) (gTL ts) :=
  pg_imp (pg_tupL hc h hn hst) fun v σ H Q ⟨F, env, dr, d, env', I, r, h, kk⟩ => by
    unfold gTL at h
    split at h
    · obtain ⟨a, vs, rfl, e1, r1⟩ := r.lst
      exact ⟨a, vs, rfl, .of (I.vw.sub _ _ e1), by rw [r1.length]; exact hl _ _ _ h, F, env, dr, _, env', I, r1, h, kk⟩
    · cases h
theorem psd_asgTP (he : PEd X ms e f) (hg : PGd X ms G0 H0 tg tt) (hs : swapsWithSole [tg] e pos.line X.env = pure false := by rfl) (hw : swappedStores [tg] e X.env = pure none := by rfl)
    (h1 : (assignEach [tg] X.env).map (·.2) = [assign tg X.env] := by rfl) : PSd X ms G0 H0 (.Assign [tg] e pos) (sAsgTP tt f) := by
  refine ps_imp (ps_asg he hg hs hw h1) fun D σ H ⟨F, env, dr, I, q⟩ => ?_
  unfold sAsgTP at q
  cases e1 : f (pk env) dr with
  | none => rw [e1] at q; exact q.elim
  | some r =>
    rw [e1] at q
    simp only [Option.bind_some] at q
    split at q
    · rename_i hsc
      cases e2 : tt r.1 env with
      | none => rw [e2] at q; exact q.elim
      | some env1 =>
        rw [e2] at q
        refine ⟨_, pk env, dr, r.1, r.2, I.pkV, I.pkE, e1, fun v G' H' r' a' w' => ?_⟩
        obtain ⟨I', sb, kp⟩ := I.stepC a' w'
        exact ⟨_, env, r.2, r.1, env1, I', kp hsc r', e2, fun σ' I2 => q _ σ' H' I2 sb⟩
    · exact q.elim
theorem pfd_revL {k : Nat} {p1 p2 p3 : Pos} (he : PEd X ms e f) : PFd X ms (.Subscript e (.Slice none none (some (.UnaryOp .USub (.Constant (.int 1) k p1) p2)) p3) pos) (e1 revL f) := by
  refine pe_imp (pe_revL he) fun σ H Q ⟨G, ρ, dr, d, dr', w, r, h, k⟩ => ?_
  obtain ⟨x, h1, h2⟩ := e1_inv h
  refine ⟨G, ρ, dr, x, dr', w, r, h1, fun v G1 H1 q1 a1 w1 => ?_⟩
  unfold revL at h2
  split at h2
  · cases h2
    obtain ⟨a, vs, rfl, e1, r1⟩ := q1.lst
    refine ⟨a, vs, rfl, .of (w1.sub _ _ e1), fun p hp => ?_⟩
    obtain ⟨o, a2, w2, n⟩ := own_new w1 hp r1.reverse
    refine k p G1 _ o (a1.trans a2) w2 n ?_
    cases e0 : H p with
    | none => rfl
    | some u => exact absurd hp (a1.ks p (by rw [e0]; simp))
  · cases h2
end
end Dk

set_option maxRecDepth 100000
set_option maxHeartbeats 4000000
/-! Pu1: evaluating denotations -/
namespace Dk
open PySem PySem.Spec PyProof.Rows L2
def ob {α β : Type} (x : Option α) (f : α → Option β) : Option β := x.bind f
@[simp] theorem ob_some {α β : Type} {a : α} {f : α → Option β} : ob (some a) f = f a := Eq.trans rfl rfl
@[simp] theorem ob_none {α β : Type} {f : α → Option β} : ob none f = none := Eq.trans rfl rfl
def cb {α : Type} (b : Bool) (x y : α) : α := if b = true then x else y
@[simp] theorem cb_true {α : Type} {x y : α} : cb true x y = x := Eq.trans rfl rfl
@[simp] theorem cb_false {α : Type} {x y : α} : cb false x y = y := Eq.trans rfl rfl
theorem cb_same {α : Type} {b : Bool} {x : α} : cb b x x = x := by cases b <;> rfl
def pb : D → Dr → Option (Bool × Dr) := fun d dr => match d with
  | .bl b => some (b, dr)
  | _ => none
@[simp] theorem pb_bl {b : Bool} {dr : Dr} : pb (.bl b) dr = some (b, dr) := Eq.trans rfl rfl
def sqF (h : SDn) : Option (Fl × Dr) → Option (Fl × Dr) := fun x => match x with
  | some (.nx e, d) => h e d
  | r => r
@[simp] theorem sqF_nx {h : SDn} {e : List Sl} {d : Dr} : sqF h (some (.nx e, d)) = h e d := Eq.trans rfl rfl
@[simp] theorem sqF_rt {h : SDn} {e : D} {d : Dr} : sqF h (some (.rt e, d)) = some (.rt e, d) := Eq.trans rfl rfl
@[simp] theorem sqF_ct {h : SDn} {e : List Sl} {d : Dr} : sqF h (some (.ct e, d)) = some (.ct e, d) := Eq.trans rfl rfl
@[simp] theorem sqF_bk {h : SDn} {e : List Sl} {d : Dr} : sqF h (some (.bk e, d)) = some (.bk e, d) := Eq.trans rfl rfl
@[simp] theorem sqF_none {h : SDn} : sqF h none = none := Eq.trans rfl rfl
def frzF : Option Sl → (D → Option (Fl × Dr)) → Option (Fl × Dr) := fun x k => match x with
  | some (.ow d) => k d
  | _ => none
@[simp] theorem frzF_ow {d : D} {k : D → Option (Fl × Dr)} : frzF (some (.ow d)) k = k d := Eq.trans rfl rfl
def sqA : D → Dr → Option (List D × Dr) := fun d dr => match d with
  | .lst ds => some (ds, dr)
  | .tup ds => some (ds, dr)
  | _ => none
@[simp] theorem sqA_lst {ds : List D} {dr : Dr} : sqA (.lst ds) dr = some (ds, dr) := Eq.trans rfl rfl
@[simp] theorem sqA_tup {ds : List D} {dr : Dr} : sqA (.tup ds) dr = some (ds, dr) := Eq.trans rfl rfl
@[simp] theorem e2_some {φ : D → D → Option D} {f g : ED} {ρ : List (Option D)} {dr : Dr} : e2 φ f g ρ dr = ob (f ρ dr) fun p => ob (g ρ p.2) fun q => ob (φ p.1 q.1) fun d => some (d, q.2) := Eq.trans rfl rfl
@[simp] theorem e1_some {φ : D → Option D} {f : ED} {ρ : List (Option D)} {dr : Dr} : e1 φ f ρ dr = ob (f ρ dr) fun p => ob (φ p.1) fun d => some (d, p.2) := Eq.trans rfl rfl
@[simp] theorem eN_some {φ : List D → Option D} {f : AD} {ρ : List (Option D)} {dr : Dr} : eN φ f ρ dr = ob (f ρ dr) fun p => ob (φ p.1) fun d => some (d, p.2) := Eq.trans rfl rfl
@[simp] theorem aN_some {ρ : List (Option D)} {dr : Dr} : aN ρ dr = some ([], dr) := Eq.trans rfl rfl
@[simp] theorem aC_some {f : ED} {g : AD} {ρ : List (Option D)} {dr : Dr} : aC f g ρ dr = ob (f ρ dr) fun p => ob (g ρ p.2) fun q => some (p.1 :: q.1, q.2) := Eq.trans rfl rfl
@[simp] theorem eC_some {d : D} {ρ : List (Option D)} {dr : Dr} : eC d ρ dr = some (d, dr) := Eq.trans rfl rfl
@[simp] theorem eV_0 {d : D} {ρ : List (Option D)} {dr : Dr} : eV 0 (some d :: ρ) dr = some (d, dr) := Eq.trans rfl rfl
@[simp] theorem eV_s {i : Nat} {x : Option D} {ρ : List (Option D)} {dr : Dr} : eV (i + 1) (x :: ρ) dr = eV i ρ dr := Eq.trans rfl rfl
@[simp] theorem eCall_some {m : FD} {fs : AD} {ρ : List (Option D)} {dr : Dr} : eCall m fs ρ dr = ob (fs ρ dr) fun p => m p.1 p.2 := Eq.trans rfl rfl
@[simp] theorem eIf_some {c : TDn} {f g : ED} {ρ : List (Option D)} {dr : Dr} : eIf c f g ρ dr = ob (c ρ dr) fun p => cb p.1 (f ρ p.2) (g ρ p.2) := Eq.trans rfl rfl
@[simp] theorem tOf_some {f : ED} {ρ : List (Option D)} {dr : Dr} : tOf f ρ dr = ob (f ρ dr) fun p => pb p.1 p.2 := Eq.trans rfl rfl
@[simp] theorem tNot_some {f : TDn} {ρ : List (Option D)} {dr : Dr} : tNot f ρ dr = ob (f ρ dr) fun p => some (!p.1, p.2) := Eq.trans rfl rfl
@[simp] theorem tAnd_some {f g : TDn} {ρ : List (Option D)} {dr : Dr} : tAnd f g ρ dr = ob (f ρ dr) fun p => cb p.1 (g ρ p.2) (some (false, p.2)) := Eq.trans rfl rfl
@[simp] theorem tOr_some {f g : TDn} {ρ : List (Option D)} {dr : Dr} : tOr f g ρ dr = ob (f ρ dr) fun p => cb p.1 (some (true, p.2)) (g ρ p.2) := Eq.trans rfl rfl
@[simp] theorem tTru_some {f : ED} {ρ : List (Option D)} {dr : Dr} : tTru f ρ dr = ob (f ρ dr) fun p => ob (truD p.1) fun b => some (b, p.2) := Eq.trans rfl rfl
@[simp] theorem cYes_some {ρ : List (Option D)} {dr : Dr} : cYes ρ dr = some (true, dr) := Eq.trans rfl rfl
@[simp] theorem sNop_some {env : List Sl} {dr : Dr} : sNop env dr = some (.nx env, dr) := Eq.trans rfl rfl
@[simp] theorem sSeq_some {g h : SDn} {env : List Sl} {dr : Dr} : sSeq g h env dr = sqF h (g env dr) := Eq.trans rfl rfl
@[simp] theorem sIf_some {c : TDn} {g h : SDn} {env : List Sl} {dr : Dr} : sIf c g h env dr = ob (c (pk env) dr) fun p => cb p.1 (g env p.2) (h env p.2) := Eq.trans rfl rfl
@[simp] theorem sRet_some {f : ED} {env : List Sl} {dr : Dr} : sRet f env dr = ob (f (frz env) dr) fun p => some (.rt p.1, p.2) := Eq.trans rfl rfl
@[simp] theorem sSet_some {i : Nat} {f : ED} {env : List Sl} {dr : Dr} : sSet i f env dr = ob (f (frz env) dr) fun p => some (.nx (env.set i (.fr p.1)), p.2) := Eq.trans rfl rfl
@[simp] theorem sSetO_some {i : Nat} {f : ED} {env : List Sl} {dr : Dr} : sSetO i f env dr = ob (f (frz env) dr) fun p => some (.nx (env.set i (.ow p.1)), p.2) := Eq.trans rfl rfl
@[simp] theorem sSetP_some {i : Nat} {f : ED} {env : List Sl} {dr : Dr} : sSetP i f env dr = ob (f (pk env) dr) fun p => cb (isSc p.1) (some (.nx (env.set i (.fr p.1)), p.2)) none := Eq.trans rfl rfl
@[simp] theorem sFrz_some {i : Nat} {g : SDn} {env : List Sl} {dr : Dr} : sFrz i g env dr = frzF env[i]? fun d => g (env.set i (.fr d)) dr := Eq.trans rfl rfl
@[simp] theorem sFor_some {t : TgD} {f : AD} {g : SDn} {env : List Sl} {dr : Dr} : sFor t f g env dr = ob (f (frz env) dr) fun p => loopD t g p.1 env p.2 := Eq.trans rfl rfl
@[simp] theorem Sl_f_fr {d : D} : Sl.f (.fr d) = some d := Eq.trans rfl rfl
@[simp] theorem Sl_f_ow {d : D} : Sl.f (.ow d) = none := Eq.trans rfl rfl
@[simp] theorem Sl_f_no : Sl.f .no = none := Eq.trans rfl rfl
@[simp] theorem Sl_p_fr {d : D} : Sl.p (.fr d) = some d := Eq.trans rfl rfl
@[simp] theorem Sl_p_ow {d : D} : Sl.p (.ow d) = some d := Eq.trans rfl rfl
@[simp] theorem Sl_p_no : Sl.p .no = none := Eq.trans rfl rfl
@[simp] theorem addV_int {i j : Int} : addV (.int i) (.int j) = some (.int (i + j)) := Eq.trans rfl rfl
@[simp] theorem subV_int {i j : Int} : subV (.int i) (.int j) = some (.int (i - j)) := Eq.trans rfl rfl
@[simp] theorem cmpV_int {p : Int → Int → Bool} {i j : Int} : cmpV p (.int i) (.int j) = some (.bl (p i j)) := Eq.trans rfl rfl
@[simp] theorem eqV_int {i j : Int} : eqV (.int i) (.int j) = some (.bl (decide (i = j))) := by
  have s1 : SeqAt.shaped (.int i) = true := by simp [SeqAt.shaped, PyData.canLay0, PyData.depth]
  have s2 : SeqAt.shaped (.int j) = true := by simp [SeqAt.shaped, PyData.canLay0, PyData.depth]
  simp [eqV, eqD, toPy, s1, s2, PyData.eqv, Bool.beq_eq_decide_eq]
@[simp] theorem neV_int {i j : Int} : neV (.int i) (.int j) = some (.bl (!decide (i = j))) := by
  have s1 : SeqAt.shaped (.int i) = true := by simp [SeqAt.shaped, PyData.canLay0, PyData.depth]
  have s2 : SeqAt.shaped (.int j) = true := by simp [SeqAt.shaped, PyData.canLay0, PyData.depth]
  simp [neV, eqD, toPy, s1, s2, PyData.eqv, Bool.beq_eq_decide_eq]
@[simp] theorem isNV_non {x : D} : isNV x .non = some (.bl (isNonD x)) := Eq.trans rfl rfl
@[simp] theorem notNV_non {x : D} : notNV x .non = some (.bl (!isNonD x)) := Eq.trans rfl rfl
@[simp] theorem lenV_lst {xs : List D} : lenV [.lst xs] = some (.int xs.length) := Eq.trans rfl rfl
@[simp] theorem lenV_tup {xs : List D} : lenV [.tup xs] = some (.int xs.length) := Eq.trans rfl rfl
@[simp] theorem truD_bl {b : Bool} : truD (.bl b) = some b := Eq.trans rfl rfl
@[simp] theorem truD_lst {xs : List D} : truD (.lst xs) = some !xs.isEmpty := Eq.trans rfl rfl
@[simp] theorem truD_tup {xs : List D} : truD (.tup xs) = some !xs.isEmpty := Eq.trans rfl rfl
@[simp] theorem ixV_lst {xs : List D} {i : Int} : ixV (.lst xs) (.int i) = atI xs i := Eq.trans rfl rfl
@[simp] theorem ixV_tup {xs : List D} {i : Int} : ixV (.tup xs) (.int i) = atI xs i := Eq.trans rfl rfl
theorem atI_of {α : Type} {xs : List α} {i : Int} {v : α} (n : Nat) (e : i = n) (h : xs[n]? = some v) : atI xs i = some v := by
  subst e
  exact atI_nat h
theorem atI_ints {row : List Int} {i : Int} (n : Nat) (e : i = n) (h : n < row.length) : atI (row.map D.int) i = some (.int (row.getD n 0)) := by
  refine atI_of n e ?_
  rw [List.getElem?_map, List.getElem?_eq_getElem h]
  simp [List.getD, h]
theorem runD_of {N n : Nat} {g : SDn} {ds : List D} {dr dr' : Dr} {d : D} (hl : ds.length = n) (h : g (ds.map Sl.fr ++ List.replicate (N - n) Sl.no) dr = some (.rt d, dr')) : runD N n g ds dr = some (d, dr') := by
  unfold runD
  rw [if_pos hl, h]
/-- a comprehension that draws nothing -/
theorem lcD_pure {α β : Type} {ρ0 : List (Option D)} {t : TcD} {c : TDn} {e : ED} {dr : Dr} {enc : α → D} {enc' : β → D} {ρ' : α → List (Option D)} {p : α → Bool} {f : α → β} : ∀ {xs : List α},
    (∀ x ∈ xs, t (enc x) ρ0 = some (ρ' x)) → (∀ x ∈ xs, c (ρ' x) dr = some (p x, dr)) → (∀ x ∈ xs, p x = true → e (ρ' x) dr = some (enc' (f x), dr)) → lcD ρ0 t c e (xs.map enc) dr = some (((xs.filter p).map f).map enc', dr)
  | [], _, _, _ => rfl
  | x :: xs, h1, h2, h3 => by
    have ih := lcD_pure (xs := xs) (fun y hy => h1 y (List.mem_cons_of_mem _ hy)) (fun y hy => h2 y (List.mem_cons_of_mem _ hy)) (fun y hy => h3 y (List.mem_cons_of_mem _ hy))
    rw [List.map_cons]
    unfold lcD
    rw [h1 x (by simp), Option.bind_some, h2 x (by simp), Option.bind_some]
    cases hp : p x with
    | true => simp only [if_true]; rw [h3 x (by simp) hp, Option.bind_some, ih, List.filter_cons_of_pos hp]; rfl
    | false => simp only [Bool.false_eq_true, if_false]; rw [ih, List.filter_cons_of_neg (by simp [hp])]
/-- a loop by an invariant of the part that is done -/
theorem loop_inv {α : Type} {t : TgD} {g : SDn} {enc : α → D} {xs : List α} (P : List α → List Sl → Dr → Prop)
    (hs : ∀ pre x post env dr, xs = pre ++ x :: post → P pre env dr → ∃ env1 env2 dr2, t (enc x) env = some env1 ∧ g env1 dr = some (.nx env2, dr2) ∧ P (pre ++ [x]) env2 dr2) :
    ∀ {env : List Sl} {dr : Dr}, P [] env dr → ∃ env' dr', loopD t g (xs.map enc) env dr = some (.nx env', dr') ∧ P xs env' dr' := by
  have key : ∀ (post pre : List α), xs = pre ++ post → ∀ env dr, P pre env dr → ∃ env' dr', loopD t g (post.map enc) env dr = some (.nx env', dr') ∧ P xs env' dr' := by
    intro post
    induction post with
    | nil =>
      intro pre e env dr h
      rw [List.append_nil] at e
      subst e
      exact ⟨env, dr, rfl, h⟩
    | cons x post ih =>
      intro pre e env dr h
      obtain ⟨env1, env2, dr2, h1, h2, h3⟩ := hs pre x post env dr e h
      obtain ⟨env', dr', h4, h5⟩ := ih (pre ++ [x]) (by rw [e]; simp) env2 dr2 h3
      refine ⟨env', dr', ?_, h5⟩
      rw [List.map_cons]
      unfold loopD
      rw [h1, Option.bind_some, h2]
      exact h4
  intro env dr h
  exact key xs [] rfl env dr h
/-- a loop that may give back one thing, always the same -/
theorem loop_all {α : Type} {t : TgD} {g : SDn} {enc : α → D} {d : D} {dr : Dr} (P : List Sl → Prop) (p : α → Bool) : ∀ {xs : List α},
    (∀ x ∈ xs, ∀ env, P env → ∃ env1, t (enc x) env = some env1 ∧ if p x = true then ∃ env2, g env1 dr = some (.nx env2, dr) ∧ P env2 else g env1 dr = some (.rt d, dr)) →
    ∀ {env : List Sl}, P env → if xs.all p = true then ∃ env', loopD t g (xs.map enc) env dr = some (.nx env', dr) ∧ P env' else loopD t g (xs.map enc) env dr = some (.rt d, dr)
  | [], _, env, h => by
    rw [List.all_nil, if_pos rfl]
    exact ⟨env, rfl, h⟩
  | x :: xs, hs, env, h => by
    obtain ⟨env1, h1, h2⟩ := hs x (by simp) env h
    rw [List.all_cons, List.map_cons]
    unfold loopD
    rw [h1, Option.bind_some]
    cases hp : p x with
    | true =>
      rw [hp, if_pos rfl] at h2
      obtain ⟨env2, h3, h4⟩ := h2
      rw [h3, Bool.true_and]
      exact loop_all P p (fun y hy => hs y (List.mem_cons_of_mem _ hy)) h4
    | false =>
      rw [hp, if_neg Bool.false_ne_true] at h2
      rw [h2, Bool.false_and, if_neg Bool.false_ne_true]
theorem rgD_map (lo : Int) (n : Nat) : rgD lo n = (List.range n).map fun (k : Nat) => D.int (lo + (k : Int)) := Eq.trans rfl rfl
theorem small24 {n : Nat} (h : n ≤ 16777216) : n ≤ sizeLine := h
end Dk

set_option maxRecDepth 100000
set_option maxHeartbeats 4000000
/-! Pu2: comprehensions, ranges, statement pieces as data -/
namespace Dk
open PySem PySem.Spec PyProof.Rows L2
theorem List.filter_true {α : Type} (l : List α) : l.filter (fun _ => true) = l := by induction l with
  | nil => rfl
  | cons x l ih => rw [List.filter_cons_of_pos rfl, ih]
theorem eLc_pure {α β : Type} {vs : List Nat} {src : AD} {ρ : List (Option D)} {t : TcD} {c : TDn} {e : ED} {dr : Dr} {enc : α → D} {enc' : β → D} (ρ' : α → List (Option D)) (p : α → Bool) (f : α → β) {xs : List α}
    (hsrc : src ρ dr = some (xs.map enc, dr)) (h1 : ∀ x ∈ xs, t (enc x) (wipeE ρ vs) = some (ρ' x)) (h2 : ∀ x ∈ xs, c (ρ' x) dr = some (p x, dr)) (h3 : ∀ x ∈ xs, p x = true → e (ρ' x) dr = some (enc' (f x), dr))
    (hl : (xs.filter p).length ≤ 16777216) : eLc vs src t c e ρ dr = some (.lst (((xs.filter p).map f).map enc'), dr) := by
  unfold eLc
  rw [hsrc, Option.bind_some]
  simp only
  rw [lcD_pure h1 h2 h3, Option.bind_some, if_pos]
  simpa [sizeLine] using hl
theorem eLc_all {α β : Type} {vs : List Nat} {src : AD} {ρ : List (Option D)} {t : TcD} {e : ED} {dr : Dr} {enc : α → D} {enc' : β → D} (ρ' : α → List (Option D)) (f : α → β) {xs : List α}
    (hsrc : src ρ dr = some (xs.map enc, dr)) (h1 : ∀ x ∈ xs, t (enc x) (wipeE ρ vs) = some (ρ' x)) (h3 : ∀ x ∈ xs, e (ρ' x) dr = some (enc' (f x), dr))
    (hl : xs.length ≤ 16777216) : eLc vs src t cYes e ρ dr = some (.lst ((xs.map f).map enc'), dr) := by
  have h := eLc_pure (c := cYes) (e := e) ρ' (fun _ => true) f hsrc h1 (fun _ _ => rfl) (fun x hx _ => h3 x hx) (by rw [List.filter_true]; exact hl)
  rw [List.filter_true] at h
  exact h
theorem lcD2_pure {α γ β : Type} {ρ0 : List (Option D)} {t t1 : TcD} {c c1 : TDn} {src1 : AD} {vs1 : List Nat} {e : ED} {dr : Dr} {enc : α → D} {enc1 : α → γ → D} {enc' : β → D} (ρ' : α → List (Option D)) (ρ'' : α → γ → List (Option D)) (ys : α → List γ) (p : α → γ → Bool) (f : α → γ → β) : ∀ {xs : List α},
    (∀ x ∈ xs, t (enc x) ρ0 = some (ρ' x)) → (∀ x ∈ xs, c (ρ' x) dr = some (true, dr)) → (∀ x ∈ xs, src1 (ρ' x) dr = some ((ys x).map (enc1 x), dr)) →
    (∀ x ∈ xs, ∀ y ∈ ys x, t1 (enc1 x y) (wipeE (ρ' x) vs1) = some (ρ'' x y)) → (∀ x ∈ xs, ∀ y ∈ ys x, c1 (ρ'' x y) dr = some (p x y, dr)) → (∀ x ∈ xs, ∀ y ∈ ys x, p x y = true → e (ρ'' x y) dr = some (enc' (f x y), dr)) →
    lcD2 ρ0 t c src1 vs1 t1 c1 e (xs.map enc) dr = some ((xs.flatMap fun x => ((ys x).filter (p x)).map (f x)).map enc', dr)
  | [], _, _, _, _, _, _ => rfl
  | x :: xs, h1, h2, h3, h4, h5, h6 => by
    have ih := lcD2_pure ρ' ρ'' ys p f (xs := xs) (fun y hy => h1 y (List.mem_cons_of_mem _ hy)) (fun y hy => h2 y (List.mem_cons_of_mem _ hy)) (fun y hy => h3 y (List.mem_cons_of_mem _ hy)) (fun y hy => h4 y (List.mem_cons_of_mem _ hy)) (fun y hy => h5 y (List.mem_cons_of_mem _ hy)) (fun y hy => h6 y (List.mem_cons_of_mem _ hy))
    rw [List.map_cons]
    unfold lcD2
    rw [h1 x (by simp), Option.bind_some, h2 x (by simp), Option.bind_some]
    simp only [if_true]
    rw [h3 x (by simp), Option.bind_some]
    simp only
    rw [lcD_pure (h4 x (by simp)) (h5 x (by simp)) (h6 x (by simp)), Option.bind_some]
    simp only
    rw [ih, Option.bind_some, List.flatMap_cons, List.map_append]
theorem eLc2_pure {α γ β : Type} {vs : List Nat} {src : AD} {ρ : List (Option D)} {t t1 : TcD} {c1 : TDn} {src1 : AD} {vs1 : List Nat} {e : ED} {dr : Dr} {enc : α → D} {enc1 : α → γ → D} {enc' : β → D} (ρ' : α → List (Option D)) (ρ'' : α → γ → List (Option D)) (ys : α → List γ) (p : α → γ → Bool) (f : α → γ → β) {xs : List α}
    (hsrc : src ρ dr = some (xs.map enc, dr)) (h1 : ∀ x ∈ xs, t (enc x) (wipeE ρ vs) = some (ρ' x)) (h3 : ∀ x ∈ xs, src1 (ρ' x) dr = some ((ys x).map (enc1 x), dr))
    (h4 : ∀ x ∈ xs, ∀ y ∈ ys x, t1 (enc1 x y) (wipeE (ρ' x) vs1) = some (ρ'' x y)) (h5 : ∀ x ∈ xs, ∀ y ∈ ys x, c1 (ρ'' x y) dr = some (p x y, dr)) (h6 : ∀ x ∈ xs, ∀ y ∈ ys x, p x y = true → e (ρ'' x y) dr = some (enc' (f x y), dr))
    (hl : (xs.flatMap fun x => ((ys x).filter (p x)).map (f x)).length ≤ 16777216) :
    eLc2 vs src t cYes src1 vs1 t1 c1 e ρ dr = some (.lst ((xs.flatMap fun x => ((ys x).filter (p x)).map (f x)).map enc'), dr) := by
  unfold eLc2
  rw [hsrc, Option.bind_some]
  simp only
  rw [lcD2_pure ρ' ρ'' ys p f h1 (fun _ _ => rfl) h3 h4 h5 h6, Option.bind_some, if_pos]
  simpa [sizeLine] using hl
def rg1F : List D → Dr → Option (List D × Dr) := fun ds dr => match ds with
  | [.int j] => if okR 0 j then some (rgD 0 j.toNat, dr) else none
  | _ => none
def rg2F : List D → Dr → Option (List D × Dr) := fun ds dr => match ds with
  | [.int i, .int j] => if okR i j then some (rgD i (j - i).toNat, dr) else none
  | _ => none
@[simp] theorem aRg1_some {f : AD} {ρ : List (Option D)} {dr : Dr} : aRg1 f ρ dr = ob (f ρ dr) fun p => rg1F p.1 p.2 := Eq.trans rfl rfl
@[simp] theorem aRg2_some {f : AD} {ρ : List (Option D)} {dr : Dr} : aRg2 f ρ dr = ob (f ρ dr) fun p => rg2F p.1 p.2 := Eq.trans rfl rfl
theorem rg1F_ok {j : Int} {dr : Dr} (h : okR 0 j) : rg1F [.int j] dr = some (rgD 0 j.toNat, dr) := if_pos h
theorem rg2F_ok {i j : Int} {dr : Dr} (h : okR i j) : rg2F [.int i, .int j] dr = some (rgD i (j - i).toNat, dr) := if_pos h
@[simp] theorem aSeqA_some {f : ED} {ρ : List (Option D)} {dr : Dr} : aSeqA f ρ dr = ob (f ρ dr) fun p => sqA p.1 p.2 := Eq.trans rfl rfl
def apF (i : Nat) (env : List Sl) : Option Sl → Option (D × Dr) → Option (Fl × Dr) := fun x y => match x with
  | some (.ow (.lst ds)) => y.bind fun p => if ds.length < sizeLine then some (.nx (env.set i (.ow (.lst (ds ++ [p.1])))), p.2) else none
  | _ => none
@[simp] theorem sApp_some {i : Nat} {f : ED} {env : List Sl} {dr : Dr} : sApp i f env dr = apF i env env[i]? (f (frz env) dr) := Eq.trans rfl rfl
theorem apF_ok {i : Nat} {env : List Sl} {ds : List D} {d : D} {dr : Dr} (h : ds.length < 16777216) : apF i env (some (.ow (.lst ds))) (some (d, dr)) = some (.nx (env.set i (.ow (.lst (ds ++ [d])))), dr) := if_pos h
@[simp] theorem gN_some {i : Nat} {d : D} {env : List Sl} : gN i d env = some (env.set i (.fr d)) := Eq.trans rfl rfl
@[simp] theorem cN_some {i : Nat} {d : D} {ρ : List (Option D)} : cN i d ρ = some (ρ.set i (some d)) := Eq.trans rfl rfl
@[simp] theorem gT_some {t} {ds : List D} {env : List Sl} : gT t (.tup ds) env = t ds env := Eq.trans rfl rfl
@[simp] theorem cT_some {t} {ds : List D} {env : List (Option D)} : cT t (.tup ds) env = t ds env := Eq.trans rfl rfl
@[simp] theorem gs0_some {env : List Sl} : gs0 [] env = some env := Eq.trans rfl rfl
@[simp] theorem cs0_some {env : List (Option D)} : cs0 [] env = some env := Eq.trans rfl rfl
@[simp] theorem gsC_some {t u} {d : D} {r : List D} {env : List Sl} : gsC t u (d :: r) env = ob (t d env) (u r) := Eq.trans rfl rfl
@[simp] theorem csC_some {t u} {d : D} {r : List D} {env : List (Option D)} : csC t u (d :: r) env = ob (t d env) (u r) := Eq.trans rfl rfl
@[simp] theorem mkT_0 : mkT [] = some (.tup []) := if_pos (by decide : (0:Nat) ≤ 16777216)
@[simp] theorem mkL_0 : mkL [] = some (.lst []) := if_pos (by decide : (0:Nat) ≤ 16777216)
@[simp] theorem mkT_1 {x0 : D} : mkT [x0] = some (.tup [x0]) := if_pos (by decide : (1:Nat) ≤ 16777216)
@[simp] theorem mkL_1 {x0 : D} : mkL [x0] = some (.lst [x0]) := if_pos (by decide : (1:Nat) ≤ 16777216)
@[simp] theorem mkT_2 {x0 x1 : D} : mkT [x0, x1] = some (.tup [x0, x1]) := if_pos (by decide : (2:Nat) ≤ 16777216)
@[simp] theorem mkL_2 {x0 x1 : D} : mkL [x0, x1] = some (.lst [x0, x1]) := if_pos (by decide : (2:Nat) ≤ 16777216)
@[simp] theorem mkT_3 {x0 x1 x2 : D} : mkT [x0, x1, x2] = some (.tup [x0, x1, x2]) := if_pos (by decide : (3:Nat) ≤ 16777216)
@[simp] theorem mkL_3 {x0 x1 x2 : D} : mkL [x0, x1, x2] = some (.lst [x0, x1, x2]) := if_pos (by decide : (3:Nat) ≤ 16777216)
@[simp] theorem mkT_4 {x0 x1 x2 x3 : D} : mkT [x0, x1, x2, x3] = some (.tup [x0, x1, x2, x3]) := if_pos (by decide : (4:Nat) ≤ 16777216)
@[simp] theorem mkL_4 {x0 x1 x2 x3 : D} : mkL [x0, x1, x2, x3] = some (.lst [x0, x1, x2, x3]) := if_pos (by decide : (4:Nat) ≤ 16777216)
@[simp] theorem mkT_5 {x0 x1 x2 x3 x4 : D} : mkT [x0, x1, x2, x3, x4] = some (.tup [x0, x1, x2, x3, x4]) := if_pos (by decide : (5:Nat) ≤ 16777216)
@[simp] theorem mkL_5 {x0 x1 x2 x3 x4 : D} : mkL [x0, x1, x2, x3, x4] = some (.lst [x0, x1, x2, x3, x4]) := if_pos (by decide : (5:Nat) ≤ 16777216)
@[simp] theorem mkL_6 {x0 x1 x2 x3 x4 x5 : D} : mkL [x0, x1, x2, x3, x4, x5] = some (.lst [x0, x1, x2, x3, x4, x5]) := if_pos (by decide : (6:Nat) ≤ 16777216)
@[simp] theorem mkL_7 {x0 x1 x2 x3 x4 x5 x6 : D} : mkL [x0, x1, x2, x3, x4, x5, x6] = some (.lst [x0, x1, x2, x3, x4, x5, x6]) := if_pos (by decide : (7:Nat) ≤ 16777216)
@[simp] theorem mkL_8 {x0 x1 x2 x3 x4 x5 x6 x7 : D} : mkL [x0, x1, x2, x3, x4, x5, x6, x7] = some (.lst [x0, x1, x2, x3, x4, x5, x6, x7]) := if_pos (by decide : (8:Nat) ≤ 16777216)
@[simp] theorem mkL_9 {x0 x1 x2 x3 x4 x5 x6 x7 x8 : D} : mkL [x0, x1, x2, x3, x4, x5, x6, x7, x8] = some (.lst [x0, x1, x2, x3, x4, x5, x6, x7, x8]) := if_pos (by decide : (9:Nat) ≤ 16777216)
@[simp] theorem mkL_10 {x0 x1 x2 x3 x4 x5 x6 x7 x8 x9 : D} : mkL [x0, x1, x2, x3, x4, x5, x6, x7, x8, x9] = some (.lst [x0, x1, x2, x3, x4, x5, x6, x7, x8, x9]) := if_pos (by decide : (10:Nat) ≤ 16777216)
@[simp] theorem mkL_11 {x0 x1 x2 x3 x4 x5 x6 x7 x8 x9 x10 : D} : mkL [x0, x1, x2, x3, x4, x5, x6, x7, x8, x9, x10] = some (.lst [x0, x1, x2, x3, x4, x5, x6, x7, x8, x9, x10]) := if_pos (by decide : (11:Nat) ≤ 16777216)
@[simp] theorem mkL_12 {x0 x1 x2 x3 x4 x5 x6 x7 x8 x9 x10 x11 : D} : mkL [x0, x1, x2, x3, x4, x5, x6, x7, x8, x9, x10, x11] = some (.lst [x0, x1, x2, x3, x4, x5, x6, x7, x8, x9, x10, x11]) := if_pos (by decide : (12:Nat) ≤ 16777216)
@[simp] theorem mkL_13 {x0 x1 x2 x3 x4 x5 x6 x7 x8 x9 x10 x11 x12 : D} : mkL [x0, x1, x2, x3, x4, x5, x6, x7, x8, x9, x10, x11, x12] = some (.lst [x0, x1, x2, x3, x4, x5, x6, x7, x8, x9, x10, x11, x12]) := if_pos (by decide : (13:Nat) ≤ 16777216)
@[simp] theorem wipeE_nil {ρ : List (Option D)} : wipeE ρ [] = ρ := Eq.trans rfl rfl
@[simp] theorem wipeE_cons {ρ : List (Option D)} {v : Nat} {vs : List Nat} : wipeE ρ (v :: vs) = (wipeE ρ vs).set v none := Eq.trans rfl rfl
@[simp] theorem frz_some {env : List Sl} : frz env = env.map Sl.f := Eq.trans rfl rfl
@[simp] theorem pk_some {env : List Sl} : pk env = env.map Sl.p := Eq.trans rfl rfl
theorem okR_i {i j : Int} (h1 : -4611686018427387904 ≤ i) (h2 : i < 4611686018427387904) (h3 : -4611686018427387904 ≤ j) (h4 : j < 4611686018427387904) : okR i j := ⟨h1, h2, h3, h4⟩
theorem okR_s {i j : Int} (h1 : -1073741824 ≤ i ∧ i < 1073741824 ∧ -1073741824 ≤ j ∧ j < 1073741824) : okR i j := okR_i (by omega) (by omega) (by omega) (by omega)
theorem addV_tup {xs ys : List D} (h : xs.length + ys.length ≤ 16777216) : addV (.tup xs) (.tup ys) = some (.tup (xs ++ ys)) := if_pos h
theorem addV_lst {xs ys : List D} (h : xs.length + ys.length ≤ 16777216) : addV (.lst xs) (.lst ys) = some (.lst (xs ++ ys)) := if_pos h
theorem sortedA_tups {ts : List (List Int)} (h : ∀ t ∈ ts, t ≠ []) : sortedA [.lst (ts.map tupI)] = some (.lst ((sortT ts).map tupI)) := by
  cases ts with
  | nil => rfl
  | cons t ts =>
    have e : sortedV [.lst ((t :: ts).map tupI)] = none := by
      simp only [sortedV, List.map_cons, tupI, intsD, Option.bind_none]
    unfold sortedA
    rw [e]
    simp only [sortedTV, tupsD_map h, Option.bind_some]
theorem sortedA_ints (ns : List Int) : sortedA [.lst (ns.map D.int)] = some (.lst ((sortI ns).map D.int)) := by
  unfold sortedA
  simp only [sortedV, intsD_map, Option.bind_some]
theorem range_split {n x : Nat} {pre post : List Nat} (h : List.range n = pre ++ x :: post) : x = pre.length ∧ pre = List.range x ∧ x < n := by
  have hl : n = pre.length + (post.length + 1) := by have := congrArg List.length h; simpa using this
  have e : (List.range n)[pre.length]? = some x := by rw [h]; simp
  rw [List.getElem?_range (by omega)] at e
  cases e
  refine ⟨rfl, ?_, by omega⟩
  have := congrArg (List.take pre.length) h
  rw [List.take_range, Nat.min_eq_left (by omega)] at this
  simpa using this.symm
end Dk

set_option maxRecDepth 100000
set_option maxHeartbeats 4000000
/-! Pu3: equality of data -/
namespace Dk
open PySem PySem.Spec PyProof.Rows L2
mutual
/-- data of ints, None, lists and tuples, of small depth -/
def okD : Nat → D → Bool
  | _, .non => true
  | _, .int _ => true
  | k + 1, .lst xs => okL k xs
  | k + 1, .tup xs => okL k xs
  | _, _ => false
def okL : Nat → List D → Bool
  | _, [] => true
  | k, x :: xs => okD k x && okL k xs
end
theorem okL_all (k : Nat) : ∀ xs : List D, okL k xs = xs.all (okD k)
  | [] => by simp [okL]
  | x :: xs => by rw [okL, okL_all k xs, List.all_cons]
theorem okD_int {k : Nat} {i : Int} : okD k (.int i) = true := by cases k <;> rfl
theorem okD_ints {k : Nat} (ns : List Int) : okL k (ns.map D.int) = true := by
  rw [okL_all, List.all_map, List.all_eq_true]
  intro x _
  exact okD_int
theorem okD_tupI {k : Nat} (ns : List Int) : okD (k + 1) (tupI ns) = true := okD_ints ns
theorem okD_tups {k : Nat} (ts : List (List Int)) : okL (k + 1) (ts.map tupI) = true := by
  rw [okL_all, List.all_map, List.all_eq_true]
  intro x _
  exact okD_tupI x
mutual
theorem toPy_ok : ∀ (k : Nat) (x : D), okD k x = true → ∃ p, toPy x = some p ∧ PyData.canLay0 p = true ∧ PyData.depth p ≤ k
  | k, .non, h => ⟨_, rfl, by simp [PyData.canLay0], by simp [PyData.depth]⟩
  | k, .int i, h => ⟨_, rfl, by simp [PyData.canLay0], by simp [PyData.depth]⟩
  | k + 1, .lst xs, h => by
    obtain ⟨ps, h1, h2, h3⟩ := toPyL_ok k xs (by simpa [okD] using h)
    exact ⟨.list ps, by simp [toPy, h1], by simpa [PyData.canLay0] using h2, by simp only [PyData.depth]; omega⟩
  | k + 1, .tup xs, h => by
    obtain ⟨ps, h1, h2, h3⟩ := toPyL_ok k xs (by simpa [okD] using h)
    exact ⟨.tuple ps, by simp [toPy, h1], by simpa [PyData.canLay0] using h2, by simp only [PyData.depth]; omega⟩
  | 0, .lst xs, h => by simp [okD] at h
  | 0, .tup xs, h => by simp [okD] at h
  | 0, .bl _, h => by simp [okD] at h
  | k + 1, .bl _, h => by simp [okD] at h
  | 0, .str _, h => by simp [okD] at h
  | k + 1, .str _, h => by simp [okD] at h
  | 0, .dic _ _, h => by simp [okD] at h
  | k + 1, .dic _ _, h => by simp [okD] at h
  | 0, .dit _ _, h => by simp [okD] at h
  | k + 1, .dit _ _, h => by simp [okD] at h
  | 0, .tok _, h => by simp [okD] at h
  | k + 1, .tok _, h => by simp [okD] at h
theorem toPyL_ok : ∀ (k : Nat) (xs : List D), okL k xs = true → ∃ ps, toPyL xs = some ps ∧ PyData.canLayAll0 ps = true ∧ PyData.depthAll ps ≤ k
  | k, [], h => ⟨[], rfl, by simp [PyData.canLayAll0], by simp [PyData.depthAll]⟩
  | k, x :: xs, h => by
    simp only [okL, Bool.and_eq_true] at h
    obtain ⟨p, h1, h2, h3⟩ := toPy_ok k x h.1
    obtain ⟨ps, h4, h5, h6⟩ := toPyL_ok k xs h.2
    exact ⟨p :: ps, by simp [toPyL, h1, h4], by simp [PyData.canLayAll0, h2, h5], by simp only [PyData.depthAll]; omega⟩
end
mutual
theorem eqv_ok : ∀ (k l : Nat) (x y : D) (p q : PyData), okD k x = true → okD l y = true → toPy x = some p → toPy y = some q → (PyData.eqv p q = true ↔ x = y)
  | k, l, .non, .non, p, q, _, _, h1, h2 => by simp [toPy] at h1 h2; subst h1; subst h2; simp [PyData.eqv]
  | k, l, .non, .int j, p, q, _, _, h1, h2 => by simp [toPy] at h1 h2; subst h1; subst h2; simp [PyData.eqv]
  | k, l + 1, .non, .lst ys, p, q, _, hy, h1, h2 => by
    obtain ⟨qs, e, _, _⟩ := toPyL_ok l ys (by simpa [okD] using hy)
    simp [toPy, e] at h1 h2; subst h1; subst h2; simp [PyData.eqv]
  | k, l + 1, .non, .tup ys, p, q, _, hy, h1, h2 => by
    obtain ⟨qs, e, _, _⟩ := toPyL_ok l ys (by simpa [okD] using hy)
    simp [toPy, e] at h1 h2; subst h1; subst h2; simp [PyData.eqv]
  | k, l, .int i, .non, p, q, _, _, h1, h2 => by simp [toPy] at h1 h2; subst h1; subst h2; simp [PyData.eqv]
  | k, l, .int i, .int j, p, q, _, _, h1, h2 => by simp [toPy] at h1 h2; subst h1; subst h2; simp [PyData.eqv]
  | k, l + 1, .int i, .lst ys, p, q, _, hy, h1, h2 => by
    obtain ⟨qs, e, _, _⟩ := toPyL_ok l ys (by simpa [okD] using hy)
    simp [toPy, e] at h1 h2; subst h1; subst h2; simp [PyData.eqv]
  | k, l + 1, .int i, .tup ys, p, q, _, hy, h1, h2 => by
    obtain ⟨qs, e, _, _⟩ := toPyL_ok l ys (by simpa [okD] using hy)
    simp [toPy, e] at h1 h2; subst h1; subst h2; simp [PyData.eqv]
  | k + 1, l, .lst xs, .non, p, q, hx, _, h1, h2 => by
    obtain ⟨qs, e, _, _⟩ := toPyL_ok k xs (by simpa [okD] using hx)
    simp [toPy, e] at h1 h2; subst h1; subst h2; simp [PyData.eqv]
  | k + 1, l, .lst xs, .int j, p, q, hx, _, h1, h2 => by
    obtain ⟨qs, e, _, _⟩ := toPyL_ok k xs (by simpa [okD] using hx)
    simp [toPy, e] at h1 h2; subst h1; subst h2; simp [PyData.eqv]
  | k + 1, l + 1, .lst xs, .lst ys, p, q, hx, hy, h1, h2 => by
    have hx' : okL k xs = true := by simpa [okD] using hx
    have hy' : okL l ys = true := by simpa [okD] using hy
    obtain ⟨ps, e1, _, _⟩ := toPyL_ok k xs hx'
    obtain ⟨qs, e2, _, _⟩ := toPyL_ok l ys hy'
    have ih := eqvL_ok k l xs ys ps qs hx' hy' e1 e2
    simp [toPy, e1] at h1; simp [toPy, e2] at h2; subst h1; subst h2; simpa [PyData.eqv] using ih
  | k + 1, l + 1, .lst xs, .tup ys, p, q, hx, hy, h1, h2 => by
    obtain ⟨ps, e1, _, _⟩ := toPyL_ok k xs (by simpa [okD] using hx)
    obtain ⟨qs, e2, _, _⟩ := toPyL_ok l ys (by simpa [okD] using hy)
    simp [toPy, e1] at h1; simp [toPy, e2] at h2; subst h1; subst h2; simp [PyData.eqv]
  | k + 1, l, .tup xs, .non, p, q, hx, _, h1, h2 => by
    obtain ⟨qs, e, _, _⟩ := toPyL_ok k xs (by simpa [okD] using hx)
    simp [toPy, e] at h1 h2; subst h1; subst h2; simp [PyData.eqv]
  | k + 1, l, .tup xs, .int j, p, q, hx, _, h1, h2 => by
    obtain ⟨qs, e, _, _⟩ := toPyL_ok k xs (by simpa [okD] using hx)
    simp [toPy, e] at h1 h2; subst h1; subst h2; simp [PyData.eqv]
  | k + 1, l + 1, .tup xs, .lst ys, p, q, hx, hy, h1, h2 => by
    obtain ⟨ps, e1, _, _⟩ := toPyL_ok k xs (by simpa [okD] using hx)
    obtain ⟨qs, e2, _, _⟩ := toPyL_ok l ys (by simpa [okD] using hy)
    simp [toPy, e1] at h1; simp [toPy, e2] at h2; subst h1; subst h2; simp [PyData.eqv]
  | k + 1, l + 1, .tup xs, .tup ys, p, q, hx, hy, h1, h2 => by
    have hx' : okL k xs = true := by simpa [okD] using hx
    have hy' : okL l ys = true := by simpa [okD] using hy
    obtain ⟨ps, e1, _, _⟩ := toPyL_ok k xs hx'
    obtain ⟨qs, e2, _, _⟩ := toPyL_ok l ys hy'
    have ih := eqvL_ok k l xs ys ps qs hx' hy' e1 e2
    simp [toPy, e1] at h1; simp [toPy, e2] at h2; subst h1; subst h2; simpa [PyData.eqv] using ih
theorem eqvL_ok : ∀ (k l : Nat) (xs ys : List D) (ps qs : List PyData), okL k xs = true → okL l ys = true → toPyL xs = some ps → toPyL ys = some qs → (PyData.eqvAll ps qs = true ↔ xs = ys)
  | k, l, [], [], ps, qs, _, _, h1, h2 => by simp [toPyL] at h1 h2; subst h1; subst h2; simp [PyData.eqvAll]
  | k, l, [], y :: ys, ps, qs, _, hy, h1, h2 => by
    obtain ⟨qs', e, _, _⟩ := toPyL_ok l (y :: ys) hy
    simp only [okL, Bool.and_eq_true] at hy
    obtain ⟨q, e1, _, _⟩ := toPy_ok l y hy.1
    obtain ⟨r, e2, _, _⟩ := toPyL_ok l ys hy.2
    simp [toPyL, e1, e2] at h1 h2; subst h1; subst h2; simp [PyData.eqvAll]
  | k, l, x :: xs, [], ps, qs, hx, _, h1, h2 => by
    simp only [okL, Bool.and_eq_true] at hx
    obtain ⟨q, e1, _, _⟩ := toPy_ok k x hx.1
    obtain ⟨r, e2, _, _⟩ := toPyL_ok k xs hx.2
    simp [toPyL, e1, e2] at h1 h2; subst h1; subst h2; simp [PyData.eqvAll]
  | k, l, x :: xs, y :: ys, ps, qs, hx, hy, h1, h2 => by
    simp only [okL, Bool.and_eq_true] at hx hy
    obtain ⟨p, e1, _, _⟩ := toPy_ok k x hx.1
    obtain ⟨r, e2, _, _⟩ := toPyL_ok k xs hx.2
    obtain ⟨q, e3, _, _⟩ := toPy_ok l y hy.1
    obtain ⟨u, e4, _, _⟩ := toPyL_ok l ys hy.2
    have i1 := eqv_ok k l x y p q hx.1 hy.1 e1 e3
    have i2 := eqvL_ok k l xs ys r u hx.2 hy.2 e2 e4
    simp [toPyL, e1, e2] at h1; simp [toPyL, e3, e4] at h2; subst h1; subst h2
    simp [PyData.eqvAll, i1, i2]
end
theorem eqD_ok {k l : Nat} {x y : D} (hk : k ≤ 64) (hl : l ≤ 64) (hx : okD k x = true) (hy : okD l y = true) : ∃ b, eqD x y = some b ∧ (b = true ↔ x = y) := by
  obtain ⟨p, e1, c1, d1⟩ := toPy_ok k x hx
  obtain ⟨q, e2, c2, d2⟩ := toPy_ok l y hy
  have s1 : SeqAt.shaped p = true := by unfold SeqAt.shaped; rw [c1, Bool.true_and]; exact decide_eq_true (by omega)
  have s2 : SeqAt.shaped q = true := by unfold SeqAt.shaped; rw [c2, Bool.true_and]; exact decide_eq_true (by omega)
  refine ⟨PyData.eqv p q, ?_, eqv_ok k l x y p q hx hy e1 e2⟩
  simp [eqD, e1, e2, s1, s2]
theorem eqV_ok {k l : Nat} {x y : D} (hk : k ≤ 64) (hl : l ≤ 64) (hx : okD k x = true) (hy : okD l y = true) {P : Prop} [Decidable P] (h : x = y ↔ P) : eqV x y = some (.bl (decide P)) := by
  obtain ⟨b, e, hb⟩ := eqD_ok hk hl hx hy
  unfold eqV
  rw [e, Option.bind_some]
  congr 2
  rw [Bool.eq_iff_iff, hb, h, decide_eq_true_eq]
theorem neV_ok {k l : Nat} {x y : D} (hk : k ≤ 64) (hl : l ≤ 64) (hx : okD k x = true) (hy : okD l y = true) {P : Prop} [Decidable P] (h : x = y ↔ P) : neV x y = some (.bl (!decide P)) := by
  obtain ⟨b, e, hb⟩ := eqD_ok hk hl hx hy
  unfold neV
  rw [e, Option.bind_some]
  congr 2
  congr 1
  rw [Bool.eq_iff_iff, hb, h, decide_eq_true_eq]
theorem int_inj : ∀ {xs ys : List Int}, xs.map D.int = ys.map D.int ↔ xs = ys := by
  intro xs ys
  constructor
  · intro h
    exact (List.map_inj_right (fun a b e => by injection e)).mp h
  · rintro rfl; rfl
theorem tupI_inj {s t : List Int} : tupI s = tupI t ↔ s = t := by
  unfold tupI
  rw [D.tup.injEq, int_inj]
theorem eqV_lints (xs ys : List Int) : eqV (.lst (xs.map D.int)) (.lst (ys.map D.int)) = some (.bl (decide (xs = ys))) :=
  eqV_ok (k := 1) (l := 1) (by decide) (by decide) (by simpa [okD] using okD_ints (k := 0) xs) (by simpa [okD] using okD_ints (k := 0) ys) (by rw [D.lst.injEq, int_inj])
theorem eqV_lnil {k : Nat} {xs : List D} (h : okL k xs = true) (hk : k < 64) : eqV (.lst xs) (.lst []) = some (.bl xs.isEmpty) := by
  have := eqV_ok (k := k + 1) (l := 1) (x := .lst xs) (y := .lst []) (by omega) (by decide) h rfl (P := xs.isEmpty = true) (by rw [D.lst.injEq, List.isEmpty_iff])
  rw [this]
  cases xs <;> simp
theorem eqV_tupI (xs ys : List Int) : eqV (tupI xs) (tupI ys) = some (.bl (decide (xs = ys))) :=
  eqV_ok (k := 1) (l := 1) (by decide) (by decide) (okD_tupI xs) (okD_tupI ys) tupI_inj
mutual
/-- no list in it is too long -/
def smD : D → Bool
  | .lst xs => decide (xs.length ≤ 16777216) && smL xs
  | .tup xs => decide (xs.length ≤ 16777216) && smL xs
  | _ => true
def smL : List D → Bool
  | [] => true
  | x :: xs => smD x && smL xs
end
theorem smL_all : ∀ xs : List D, smL xs = xs.all smD
  | [] => by simp [smL]
  | x :: xs => by rw [smL, smL_all xs, List.all_cons]
theorem smL_ints (ns : List Int) : smL (ns.map D.int) = true := by
  rw [smL_all, List.all_map, List.all_eq_true]
  intro x _
  simp [smD]
theorem smL_tups {ts : List (List Int)} (h : ∀ t ∈ ts, t.length ≤ 16777216) : smL (ts.map tupI) = true := by
  rw [smL_all, List.all_map, List.all_eq_true]
  intro x hx
  simp only [Function.comp, tupI, smD, smL_ints, Bool.and_true, List.length_map]
  exact decide_eq_true (h x hx)
@[simp] theorem e1isi_list_int {i : Int} : isiV "list" (.int i) = some (.bl false) := Eq.trans rfl rfl
@[simp] theorem e1isi_tuple_int {i : Int} : isiV "tuple" (.int i) = some (.bl false) := Eq.trans rfl rfl
@[simp] theorem e1isi_str_int {i : Int} : isiV "str" (.int i) = some (.bl false) := Eq.trans rfl rfl
@[simp] theorem e1isi_bool_int {i : Int} : isiV "bool" (.int i) = some (.bl false) := Eq.trans rfl rfl
@[simp] theorem e1isi_int_int {i : Int} : isiV "int" (.int i) = some (.bl true) := Eq.trans rfl rfl
@[simp] theorem e1isi_list_lst {xs : List D} : isiV "list" (.lst xs) = some (.bl true) := Eq.trans rfl rfl
@[simp] theorem e1isi_tuple_lst {xs : List D} : isiV "tuple" (.lst xs) = some (.bl false) := Eq.trans rfl rfl
@[simp] theorem e1isi_list_tup {xs : List D} : isiV "list" (.tup xs) = some (.bl false) := Eq.trans rfl rfl
@[simp] theorem e1isi_tuple_tup {xs : List D} : isiV "tuple" (.tup xs) = some (.bl true) := Eq.trans rfl rfl
@[simp] theorem e1isi_list_non : isiV "list" .non = some (.bl false) := Eq.trans rfl rfl
@[simp] theorem e1isi_tuple_non : isiV "tuple" .non = some (.bl false) := Eq.trans rfl rfl
@[simp] theorem e1isi_str_non : isiV "str" .non = some (.bl false) := Eq.trans rfl rfl
@[simp] theorem e1isi_list_bl {b : Bool} : isiV "list" (.bl b) = some (.bl false) := Eq.trans rfl rfl
@[simp] theorem e1isi_tuple_bl {b : Bool} : isiV "tuple" (.bl b) = some (.bl false) := Eq.trans rfl rfl
@[simp] theorem e1isi_str_bl {b : Bool} : isiV "str" (.bl b) = some (.bl false) := Eq.trans rfl rfl
@[simp] theorem e1isi_bool_bl {b : Bool} : isiV "bool" (.bl b) = some (.bl true) := Eq.trans rfl rfl
@[simp] theorem e1isi_int_bl {b : Bool} : isiV "int" (.bl b) = some (.bl true) := Eq.trans rfl rfl
@[simp] theorem eqV_bl {a b : Bool} : eqV (.bl a) (.bl b) = some (.bl (a == b)) := by
  have s1 : SeqAt.shaped (.bool a) = true := by simp [SeqAt.shaped, PyData.canLay0, PyData.depth]
  have s2 : SeqAt.shaped (.bool b) = true := by simp [SeqAt.shaped, PyData.canLay0, PyData.depth]
  simp [eqV, eqD, toPy, s1, s2, PyData.eqv]
@[simp] theorem neV_bl {a b : Bool} : neV (.bl a) (.bl b) = some (.bl (!(a == b))) := by
  have s1 : SeqAt.shaped (.bool a) = true := by simp [SeqAt.shaped, PyData.canLay0, PyData.depth]
  have s2 : SeqAt.shaped (.bool b) = true := by simp [SeqAt.shaped, PyData.canLay0, PyData.depth]
  simp [neV, eqD, toPy, s1, s2, PyData.eqv]
@[simp] theorem isNonD_non : isNonD .non = true := Eq.trans rfl rfl
@[simp] theorem isNonD_int {i : Int} : isNonD (.int i) = false := Eq.trans rfl rfl
@[simp] theorem isNonD_bl {i : Bool} : isNonD (.bl i) = false := Eq.trans rfl rfl
@[simp] theorem isNonD_lst {xs : List D} : isNonD (.lst xs) = false := Eq.trans rfl rfl
@[simp] theorem isNonD_tup {xs : List D} : isNonD (.tup xs) = false := Eq.trans rfl rfl
def andF (x : D) (y : Option (D × Dr)) (dr : Dr) : Option (D × Dr) := match x with
  | .bl true => y
  | .bl false => some (.bl false, dr)
  | _ => none
@[simp] theorem andF_t {y : Option (D × Dr)} {dr : Dr} : andF (.bl true) y dr = y := Eq.trans rfl rfl
@[simp] theorem andF_f {y : Option (D × Dr)} {dr : Dr} : andF (.bl false) y dr = some (.bl false, dr) := Eq.trans rfl rfl
@[simp] theorem eAnd_some {f g : ED} {ρ : List (Option D)} {dr : Dr} : eAnd f g ρ dr = ob (f ρ dr) fun p => andF p.1 (g ρ p.2) p.2 := Eq.trans rfl rfl
def orF (x : D) (y : Option (D × Dr)) (dr : Dr) : Option (D × Dr) := match x with
  | .bl false => y
  | .bl true => some (.bl true, dr)
  | _ => none
@[simp] theorem orF_f {y : Option (D × Dr)} {dr : Dr} : orF (.bl false) y dr = y := Eq.trans rfl rfl
@[simp] theorem orF_t {y : Option (D × Dr)} {dr : Dr} : orF (.bl true) y dr = some (.bl true, dr) := Eq.trans rfl rfl
@[simp] theorem eOr_some {f g : ED} {ρ : List (Option D)} {dr : Dr} : eOr f g ρ dr = ob (f ρ dr) fun p => orF p.1 (g ρ p.2) p.2 := Eq.trans rfl rfl
def notF (x : D) (dr : Dr) : Option (D × Dr) := match x with
  | .bl b => some (.bl (!b), dr)
  | _ => none
@[simp] theorem notF_b {b : Bool} {dr : Dr} : notF (.bl b) dr = some (.bl (!b), dr) := Eq.trans rfl rfl
@[simp] theorem eNot_some {f : ED} {ρ : List (Option D)} {dr : Dr} : eNot f ρ dr = ob (f ρ dr) fun p => notF p.1 p.2 := Eq.trans rfl rfl
/-- lists of bools -/
theorem toPyL_bls : ∀ bs : List Bool, toPyL (bs.map D.bl) = some (bs.map PyData.bool)
  | [] => rfl
  | b :: bs => by simp [toPyL, toPy, toPyL_bls bs]
theorem canLay_bls : ∀ bs : List Bool, PyData.canLayAll0 (bs.map PyData.bool) = true ∧ PyData.depthAll (bs.map PyData.bool) = 0
  | [] => by simp [PyData.canLayAll0, PyData.depthAll]
  | b :: bs => by
    obtain ⟨h1, h2⟩ := canLay_bls bs
    simp [PyData.canLayAll0, PyData.depthAll, PyData.canLay0, PyData.depth, h1, h2]
theorem eqv_bls : ∀ bs cs : List Bool, PyData.eqvAll (bs.map PyData.bool) (cs.map PyData.bool) = decide (bs = cs)
  | [], [] => by simp [PyData.eqvAll]
  | [], c :: cs => by simp [PyData.eqvAll]
  | b :: bs, [] => by simp [PyData.eqvAll]
  | b :: bs, c :: cs => by
    simp only [List.map_cons, PyData.eqvAll, PyData.eqv, eqv_bls bs cs]
    rw [Bool.eq_iff_iff]
    simp
theorem eqD_bls (bs cs : List Bool) : eqD (.lst (bs.map D.bl)) (.lst (cs.map D.bl)) = some (decide (bs = cs)) := by
  have s : ∀ bs : List Bool, SeqAt.shaped (.list (bs.map PyData.bool)) = true := fun bs => by
    obtain ⟨h1, h2⟩ := canLay_bls bs
    simp [SeqAt.shaped, PyData.canLay0, PyData.depth, h1, h2]
  simp only [eqD, toPy, toPyL_bls, Option.bind_some, s, Bool.and_self, if_true, PyData.eqv, eqv_bls]
theorem neV_bls (bs cs : List Bool) : neV (.lst (bs.map D.bl)) (.lst (cs.map D.bl)) = some (.bl (!decide (bs = cs))) := by simp [neV, eqD_bls]
theorem eqV_bls (bs cs : List Bool) : eqV (.lst (bs.map D.bl)) (.lst (cs.map D.bl)) = some (.bl (decide (bs = cs))) := by simp [eqV, eqD_bls]
end Dk

set_option maxRecDepth 100000
set_option maxHeartbeats 4000000
/-! Pu4: more evaluation; sums of given numbers -/
namespace Dk
open PySem PySem.Spec PyProof.Rows L2
theorem ixN_nat {n k : Nat} (h : k < n) : ixN n (k : Int) = some k := by
  unfold ixN
  rw [if_pos (by omega), if_pos (by omega), Int.toNat_natCast]
def ptF (i : Nat) (env : List Sl) : Option Sl → Option (D × Dr) → (Dr → Option (D × Dr)) → Option (Fl × Dr) := fun x y z => match x with
  | some (.ow (.lst ds)) => y.bind fun p => (z p.2).bind fun q => match q.1 with
    | .int k => (ixN ds.length k).bind fun j => some (.nx (env.set i (.ow (.lst (ds.set j p.1)))), q.2)
    | _ => none
  | _ => none
def ptPF (i : Nat) (env : List Sl) : Option Sl → Option (D × Dr) → (Dr → Option (D × Dr)) → Option (Fl × Dr) := fun x y z => match x with
  | some (.ow (.lst ds)) => y.bind fun p => (z p.2).bind fun q => match q.1 with
    | .int k => if isSc p.1 = true then (ixN ds.length k).bind fun j => some (.nx (env.set i (.ow (.lst (ds.set j p.1)))), q.2) else none
    | _ => none
  | _ => none
@[simp] theorem sPut_some {i : Nat} {f g : ED} {env : List Sl} {dr : Dr} : sPut i f g env dr = ptF i env env[i]? (f (frz env) dr) (fun d => g (pk env) d) := Eq.trans rfl rfl
@[simp] theorem sPutP_some {i : Nat} {f g : ED} {env : List Sl} {dr : Dr} : sPutP i f g env dr = ptPF i env env[i]? (f (pk env) dr) (fun d => g (pk env) d) := Eq.trans rfl rfl
theorem ptF_ok {i : Nat} {env : List Sl} {ds : List D} {d : D} {dr dr' : Dr} {z : Dr → Option (D × Dr)} (j : Nat) {k : Int} (e : k = j) (hz : z dr = some (.int k, dr')) (h : j < ds.length) : ptF i env (some (.ow (.lst ds))) (some (d, dr)) z = some (.nx (env.set i (.ow (.lst (ds.set j d)))), dr') := by
  subst e
  unfold ptF
  simp only [Option.bind_some]
  rw [hz]
  simp only [Option.bind_some]
  rw [ixN_nat h]
  rfl
theorem ptPF_ok {i : Nat} {env : List Sl} {ds : List D} {d : D} {dr dr' : Dr} {z : Dr → Option (D × Dr)} (j : Nat) {k : Int} (e : k = j) (hz : z dr = some (.int k, dr')) (hs : isSc d = true) (h : j < ds.length) : ptPF i env (some (.ow (.lst ds))) (some (d, dr)) z = some (.nx (env.set i (.ow (.lst (ds.set j d)))), dr') := by
  subst e
  unfold ptPF
  simp only [Option.bind_some]
  rw [hz]
  simp only [Option.bind_some]
  rw [if_pos hs, ixN_nat h]
  rfl
def apPF (i : Nat) (env : List Sl) : Option Sl → Option (D × Dr) → Option (Fl × Dr) := fun x y => match x with
  | some (.ow (.lst ds)) => y.bind fun p => if isSc p.1 = true ∧ ds.length < sizeLine then some (.nx (env.set i (.ow (.lst (ds ++ [p.1])))), p.2) else none
  | _ => none
@[simp] theorem sAppP_some {i : Nat} {f : ED} {env : List Sl} {dr : Dr} : sAppP i f env dr = apPF i env env[i]? (f (pk env) dr) := Eq.trans rfl rfl
theorem apPF_ok {i : Nat} {env : List Sl} {ds : List D} {d : D} {dr : Dr} (hs : isSc d = true) (h : ds.length < 16777216) : apPF i env (some (.ow (.lst ds))) (some (d, dr)) = some (.nx (env.set i (.ow (.lst (ds ++ [d])))), dr) := if_pos ⟨hs, h⟩
@[simp] theorem isSc_int {i : Int} : isSc (.int i) = true := by simp [isSc]
@[simp] theorem isSc_bl {i : Bool} : isSc (.bl i) = true := by simp [isSc]
@[simp] theorem isSc_non : isSc .non = true := by simp [isSc]
theorem isScL_ints : ∀ ns : List Int, isScL (ns.map D.int) = true
  | [] => by simp [isScL]
  | n :: ns => by simp [isScL, isScL_ints ns]
@[simp] theorem isSc_tupI {ns : List Int} : isSc (tupI ns) = true := by simp [tupI, isSc, isScL_ints]
theorem mulL_ok {xs : List D} {k : Nat} (h : xs.length * k ≤ 16777216) (hk : k < 1073741824) : mulL (.lst xs) (.int (k : Int)) = some (.lst (List.replicate k xs).flatten) := by
  unfold mulL
  simp only [Int.toNat_natCast]
  exact if_pos ⟨by omega, by omega, h⟩
theorem mulV_ok {i j : Int} (h : -18446744073709551616 < i ∧ i < 18446744073709551616) : mulV (.int i) (.int j) = some (.int (i * j)) := if_pos (.inl h)
theorem mulV'_ok {i j : Int} (h : -18446744073709551616 < i ∧ i < 18446744073709551616) : mulV' (.int i) (.int j) = some (.int (i * j)) := if_pos (.inl h)
theorem mulV'_okR {i j : Int} (h : -18446744073709551616 < j ∧ j < 18446744073709551616) : mulV' (.int i) (.int j) = some (.int (i * j)) := if_pos (.inr h)
theorem fdivV_ok {i j : Int} (h0 : j ≠ 0) (h : -1073741824 < j ∧ j < 1073741824) : fdivV (.int i) (.int j) = some (.int (i.fdiv j)) := if_pos ⟨h0, by omega⟩
theorem modV_ok {i j : Int} (h0 : j ≠ 0) : modV (.int i) (.int j) = some (.int (i.fmod j)) := if_pos h0
@[simp] theorem negV_int {i : Int} : negV (.int i) = some (.int (-i)) := Eq.trans rfl rfl
@[simp] theorem intV_int {i : Int} : intV [.int i] = some (.int i) := Eq.trans rfl rfl
theorem anyV_bls (bs : List Bool) : anyV [.lst (bs.map D.bl)] = some (.bl (bs.any id)) := by simp [anyV]
theorem allV_bls (bs : List Bool) : allV [.lst (bs.map D.bl)] = some (.bl (bs.all id)) := by simp [allV]
theorem sumA_lst (ns : List Int) : sumA [.lst (ns.map D.int)] = some (.int ns.sum) := by simp [sumA, sumV]
theorem sumA_tup (ns : List Int) : sumA [.tup (ns.map D.int)] = some (.int ns.sum) := by simp [sumA]
theorem maxA_lst {ns : List Int} (h : ns ≠ []) : maxA [.lst (ns.map D.int)] = some (.int (maxI ns)) := by simp [maxA, maxV, h]
theorem maxA_tup {ns : List Int} (h : ns ≠ []) : maxA [.tup (ns.map D.int)] = some (.int (maxI ns)) := by simp [maxA, h]
theorem minA_lst {ns : List Int} (h : ns ≠ []) : minA [.lst (ns.map D.int)] = some (.int (minI ns)) := by simp [minA, minV, h]
theorem minA_tup {ns : List Int} (h : ns ≠ []) : minA [.tup (ns.map D.int)] = some (.int (minI ns)) := by simp [minA, h]
@[simp] theorem maxA_2 {i j : Int} : maxA [.int i, .int j] = some (.int (if j > i then j else i)) := Eq.trans rfl rfl
@[simp] theorem minA_2 {i j : Int} : minA [.int i, .int j] = some (.int (if j < i then j else i)) := Eq.trans rfl rfl
@[simp] theorem tupleV_lst {xs : List D} : tupleV [.lst xs] = some (.tup xs) := Eq.trans rfl rfl
@[simp] theorem tupleV_tup {xs : List D} : tupleV [.tup xs] = some (.tup xs) := Eq.trans rfl rfl
@[simp] theorem listV_lst {xs : List D} : listV [.lst xs] = some (.lst xs) := Eq.trans rfl rfl
@[simp] theorem listV_tup {xs : List D} : listV [.tup xs] = some (.lst xs) := Eq.trans rfl rfl
theorem gcdV_ints {i j : Int} : gcdV [.int i, .int j] = some (.int ((Nat.gcd i.natAbs j.natAbs : Nat) : Int)) := rfl
theorem sortSet_lst {ns : List Int} (h : ns.length ≤ 4000) : sortSetV (.lst (ns.map D.int)) = some (.lst ((srtS ns).map D.int)) := by
  simp only [sortSetV, intsD_map, Option.bind_some]
  exact if_pos h
theorem sortSet_tup {ns : List Int} (h : ns.length ≤ 4000) : sortSetV (.tup (ns.map D.int)) = some (.lst ((srtS ns).map D.int)) := by
  simp only [sortSetV, intsD_map, Option.bind_some]
  exact if_pos h
/-- the last of a list -/
theorem atI_last {α : Type} {xs : List α} {x : α} : atI (xs ++ [x]) (-1) = some x := by
  have e : ixN (xs ++ [x]).length (-1) = some xs.length := by
    unfold ixN
    rw [List.length_append, List.length_singleton, if_neg (by omega), if_pos (by omega)]
    congr 1; omega
  unfold atI
  rw [e]
  simp
/-- x in slot i = e, a pair unpacked -/
@[simp] theorem sAsgT_some {t : TgD} {f : ED} {env : List Sl} {dr : Dr} : sAsgT t f env dr = ob (f (frz env) dr) fun p => ob (t p.1 env) fun e => some (.nx e, p.2) := Eq.trans rfl rfl
def parF (i j : Nat) (env : List Sl) : List D → Dr → Option (Fl × Dr) := fun ds dr => match ds with
  | [d, e] => some (.nx ((env.set i (.fr d)).set j (.fr e)), dr)
  | _ => none
@[simp] theorem parF_2 {i j : Nat} {env : List Sl} {d e : D} {dr : Dr} : parF i j env [d, e] dr = some (.nx ((env.set i (.fr d)).set j (.fr e)), dr) := Eq.trans rfl rfl
@[simp] theorem sPar_some {i j : Nat} {fs : AD} {env : List Sl} {dr : Dr} : sPar i j fs env dr = ob (fs (frz env) dr) fun p => parF i j env p.1 p.2 := Eq.trans rfl rfl
def augF (i : Nat) (env : List Sl) : Option Sl → Option (D × Dr) → Option (Fl × Dr) := fun x y => match x with
  | some (.fr (.int k)) => y.bind fun p => match p.1 with
    | .int m => some (.nx (env.set i (.fr (.int (k + m)))), p.2)
    | _ => none
  | _ => none
@[simp] theorem sAug_some {i : Nat} {f : ED} {env : List Sl} {dr : Dr} : sAug i f env dr = augF i env env[i]? (f (pk env) dr) := Eq.trans rfl rfl
@[simp] theorem augF_int {i : Nat} {env : List Sl} {k m : Int} {dr : Dr} : augF i env (some (.fr (.int k))) (some (.int m, dr)) = some (.nx (env.set i (.fr (.int (k + m)))), dr) := Eq.trans rfl rfl
/-- a while loop by a measure: P n holds where at most n turns are left -/
theorem while_inv {c : TDn} {g : SDn} (P : Nat → List Sl → Dr → Prop) (R : List Sl → Dr → Prop)
    (hs : ∀ n env dr, P n env dr → (c (pk env) dr = some (false, dr) ∧ R env dr) ∨ ∃ m env2 dr2, m < n ∧ c (pk env) dr = some (true, dr) ∧ g env dr = some (.nx env2, dr2) ∧ P m env2 dr2) :
    ∀ (n fuel : Nat) (env : List Sl) (dr : Dr), n < fuel → P n env dr → ∃ env' dr', whileD c g fuel env dr = some (.nx env', dr') ∧ R env' dr' := by
  intro n
  induction n using Nat.strongRecOn with
  | ind n ih =>
    intro fuel env dr hf hp
    cases fuel with
    | zero => omega
    | succ fuel =>
      rcases hs n env dr hp with ⟨h1, h2⟩ | ⟨m, env2, dr2, hm, h1, h2, h3⟩
      · refine ⟨env, dr, ?_, h2⟩
        unfold whileD
        rw [h1, Option.bind_some]
        rfl
      · obtain ⟨env', dr', h4, h5⟩ := ih m hm fuel env2 dr2 (by omega) h3
        refine ⟨env', dr', ?_, h5⟩
        unfold whileD
        rw [h1, Option.bind_some]
        simp only [if_true]
        rw [h2]
        exact h4
@[simp] theorem oN_some {ρ : List (Option D)} {dr : Dr} : oN ρ dr = some (none, dr) := Eq.trans rfl rfl
def oSF : D → Dr → Option (Option Int × Dr) := fun d dr => match d with
  | .int i => some (some i, dr)
  | _ => none
@[simp] theorem oSF_int {i : Int} {dr : Dr} : oSF (.int i) dr = some (some i, dr) := Eq.trans rfl rfl
@[simp] theorem oS_some {f : ED} {ρ : List (Option D)} {dr : Dr} : oS f ρ dr = ob (f ρ dr) fun p => oSF p.1 p.2 := Eq.trans rfl rfl
@[simp] theorem e3_some {φ : D → Option Int → Option Int → Option D} {f : ED} {g h : OD} {ρ : List (Option D)} {dr : Dr} : e3 φ f g h ρ dr = ob (f ρ dr) fun p => ob (g ρ p.2) fun q => ob (h ρ q.2) fun r => ob (φ p.1 q.1 r.1) fun d => some (d, r.2) := Eq.trans rfl rfl
@[simp] theorem slV_lst {xs : List D} {lo hi : Option Int} : slV (.lst xs) lo hi = some (.lst (cutD xs lo hi)) := Eq.trans rfl rfl
@[simp] theorem slV_tup {xs : List D} {lo hi : Option Int} : slV (.tup xs) lo hi = some (.tup (cutD xs lo hi)) := Eq.trans rfl rfl
theorem cutD_to {xs : List D} {k : Nat} {i : Int} (e : i = k) (h : k ≤ xs.length) : cutD xs none (some i) = xs.take k := by
  subst e
  unfold cutD
  have h1 : HT.sIx xs.length 0 none = 0 := rfl
  have h2 : HT.sIx xs.length xs.length (some (k : Int)) = k := by
    rw [HT.sIx_nat]
    omega
  rw [h1, h2]; simp
theorem cutD_from {xs : List D} {k : Nat} {i : Int} (e : i = k) (h : k ≤ xs.length) : cutD xs (some i) none = xs.drop k := by
  subst e
  unfold cutD
  have h1 : HT.sIx xs.length xs.length none = xs.length := rfl
  have h2 : HT.sIx xs.length 0 (some (k : Int)) = k := by
    rw [HT.sIx_nat]
    omega
  rw [h1, h2, List.take_of_length_le (by simp)]
@[simp] theorem revL_lst {xs : List D} : revL (.lst xs) = some (.lst xs.reverse) := Eq.trans rfl rfl
theorem set_map_range {n k : Nat} (f : Nat → D) (v : D) : ((List.range n).map f).set k v = (List.range n).map fun i => if i = k then v else f i := by
  apply List.ext_getElem?
  intro i
  rw [List.getElem?_set, List.getElem?_map, List.getElem?_map]
  by_cases h : k = i
  · subst h
    by_cases hn : k < n
    · simp [hn]
    · simp [hn, List.getElem?_eq_none]
  · have h' : ¬ i = k := fun e => h e.symm
    by_cases hn : i < n
    · simp [hn, h, h']
    · simp [h, List.getElem?_eq_none, hn]
theorem atI_range {n k : Nat} (f : Nat → D) (h : k < n) {i : Int} (e : i = k) : atI ((List.range n).map f) i = some (f k) := atI_of k e (by simp [h])

/-! ### sums -/
inductive NS (g : List Int) : Int → Prop
  | zero : NS g 0
  | add {n s : Int} (hs : s ∈ g) (h : NS g n) : NS g (n + s)
open Classical in
noncomputable def inS (g : List Int) (n : Nat) : Bool := decide (NS g n)
theorem inS_iff {g : List Int} {n : Nat} : inS g n = true ↔ NS g n := by
  unfold inS
  exact @decide_eq_true_iff (NS g n) (Classical.propDecidable _)
theorem NS.of_mem {g : List Int} {s : Int} (h : s ∈ g) : NS g s := by have := NS.add h NS.zero; rwa [Int.zero_add] at this
theorem NS.plus {g : List Int} {a b : Int} (h : NS g a) (k : NS g b) : NS g (a + b) := by
  induction k with
  | zero => rwa [Int.add_zero]
  | add hs _ ih => rw [← Int.add_assoc]; exact .add hs ih
theorem NS.mono {g g' : List Int} (hg : ∀ s ∈ g, NS g' s) {a : Int} (h : NS g a) : NS g' a := by
  induction h with
  | zero => exact .zero
  | add hs _ ih => exact ih.plus (hg _ hs)
theorem NS.nonneg {g : List Int} (hg : ∀ s ∈ g, (0:Int) ≤ s) {a : Int} (h : NS g a) : 0 ≤ a := by
  induction h with
  | zero => exact Int.le_refl 0
  | add hs _ ih => have := hg _ hs; omega
theorem NS.step {g : List Int} (hg : ∀ s ∈ g, (1:Int) ≤ s) {n : Int} (hn : 1 ≤ n) : NS g n ↔ ∃ s ∈ g, s ≤ n ∧ NS g (n - s) := by
  constructor
  · intro h
    cases h with
    | zero => omega
    | add hs h =>
      rename_i m s
      have := h.nonneg (fun s hs => by have := hg s hs; omega)
      exact ⟨s, hs, by omega, by rw [Int.add_sub_cancel]; exact h⟩
  · rintro ⟨s, hs, _, h⟩
    have := NS.add hs h
    rwa [Int.sub_add_cancel] at this
theorem inS_zero {g : List Int} : inS g 0 = true := inS_iff.mpr .zero
theorem inS_step {g : List Int} (hg : ∀ s ∈ g, (1:Int) ≤ s) (n : Nat) : inS g (n + 1) = g.any fun s => decide (s ≤ ((n + 1 : Nat) : Int)) && inS g (((n + 1 : Nat) : Int) - s).toNat := by
  rw [Bool.eq_iff_iff, inS_iff, NS.step hg (by omega), List.any_eq_true]
  refine exists_congr fun s => and_congr_right fun hs => ?_
  have := hg s hs
  rw [Bool.and_eq_true, decide_eq_true_eq, inS_iff]
  refine and_congr_right fun hle => ?_
  rw [Int.toNat_of_nonneg (by omega)]
/-- the table of a list's sums up to n -/
noncomputable def tblD (g : List Int) (n : Nat) : List D := (List.range (n + 1)).map fun i => D.bl (inS g i)
end Dk

set_option maxRecDepth 100000
set_option maxHeartbeats 4000000
/-! Pu5: least generators -/
namespace Dk
open PySem PySem.Spec PyProof.Rows L2
/-- in S, above 0, not the sum of two such -/
def Irr (S : Int → Prop) (x : Int) : Prop := S x ∧ 1 ≤ x ∧ ∀ a b, S a → S b → 1 ≤ a → 1 ≤ b → a + b ≠ x
open Classical in
noncomputable def irB (S : Int → Prop) (x : Int) : Bool := decide (Irr S x)
theorem irB_iff {S : Int → Prop} {x : Int} : irB S x = true ↔ Irr S x := by
  unfold irB
  exact @decide_eq_true_iff (Irr S x) (Classical.propDecidable _)
noncomputable def irr (ns : List Int) : List Int := (srtS ns).filter (irB (NS ns))
def Pos1 (g : List Int) : Prop := ∀ s ∈ g, (1:Int) ≤ s
theorem Pos1.nonneg {g : List Int} (h : Pos1 g) {a : Int} (q : NS g a) : 0 ≤ a := q.nonneg fun s hs => by have := h s hs; omega
/-- an irreducible of the sums is one of the numbers -/
theorem Irr.mem {g : List Int} (hg : Pos1 g) {x : Int} (h : Irr (NS g) x) : x ∈ g := by
  obtain ⟨h1, h2, h3⟩ := h
  cases h1 with
  | zero => omega
  | add hs h =>
    rename_i m s
    have hm := hg.nonneg h
    have hs1 := hg s hs
    by_cases z : m = 0
    · subst z; rw [Int.zero_add]; exact hs
    · exact absurd rfl (h3 m s h (NS.of_mem hs) (by omega) hs1)
/-- all of S are sums of irreducibles -/
theorem irr_gen {S : Int → Prop} : ∀ (n : Nat) (x : Int), x.toNat ≤ n → 1 ≤ x → S x → ∃ y, Irr S y ∧ (y = x ∨ (y < x ∧ ∃ z, S z ∧ 1 ≤ z ∧ y + z = x ∧ True)) ∨ ∃ a b, S a ∧ S b ∧ 1 ≤ a ∧ 1 ≤ b ∧ a + b = x := by
  intro n x _ h1 h2
  by_cases h : ∃ a b, S a ∧ S b ∧ 1 ≤ a ∧ 1 ≤ b ∧ a + b = x
  · exact ⟨0, .inr h⟩
  · exact ⟨x, .inl ⟨⟨h2, h1, fun a b ha hb h3 h4 e => h ⟨a, b, ha, hb, h3, h4, e⟩⟩, .inl rfl⟩⟩
/-- from S, closed under sums, an irreducible can be taken off -/
theorem irr_off {S : Int → Prop} (h0 : S 0) (hp : ∀ a b, S a → S b → S (a + b)) : ∀ (n : Nat) (x : Int), x.toNat ≤ n → 1 ≤ x → S x → ∃ y, Irr S y ∧ y ≤ x ∧ S (x - y) := by
  intro n
  induction n with
  | zero => intro x hx h1 _; omega
  | succ n ih =>
    intro x hx h1 hS
    by_cases h : ∃ a b, S a ∧ S b ∧ 1 ≤ a ∧ 1 ≤ b ∧ a + b = x
    · obtain ⟨a, b, ha, hb, a1, b1, e⟩ := h
      obtain ⟨y, hy, hle, hr⟩ := ih a (by omega) a1 ha
      refine ⟨y, hy, by omega, ?_⟩
      have := hp _ _ hr hb
      rwa [show a - y + b = x - y by omega] at this
    · exact ⟨x, ⟨hS, h1, fun a b ha hb h3 h4 e => h ⟨a, b, ha, hb, h3, h4, e⟩⟩, Int.le_refl _, by rw [Int.sub_self]; exact h0⟩
theorem irr_mem {ns : List Int} (hn : Pos1 ns) {x : Int} : x ∈ irr ns ↔ Irr (NS ns) x := by
  unfold irr
  rw [List.mem_filter, srtS_mem, irB_iff]
  exact ⟨fun h => h.2, fun h => ⟨h.mem hn, h⟩⟩
theorem irr_lt (ns : List Int) : (irr ns).Pairwise (· < ·) := (srtS_lt ns).filter _
theorem irr_pos {ns : List Int} (hn : Pos1 ns) : Pos1 (irr ns) := fun x hx => ((irr_mem hn).mp hx).2.1
theorem irr_NS {ns : List Int} (hn : Pos1 ns) {x : Int} : NS (irr ns) x ↔ NS ns x := by
  constructor
  · intro h
    exact h.mono fun s hs => ((irr_mem hn).mp hs).1
  · intro h
    have key : ∀ (n : Nat) (x : Int), x.toNat ≤ n → 0 ≤ x → NS ns x → NS (irr ns) x := by
      intro n
      induction n with
      | zero => intro x hx h0 _; rw [show x = 0 by omega]; exact .zero
      | succ n ih =>
        intro x hx h0 hS
        by_cases z : x = 0
        · rw [z]; exact .zero
        · obtain ⟨y, hy, hle, hr⟩ := irr_off (S := NS ns) .zero (fun a b => NS.plus) _ x (Nat.le_refl _) (by omega) hS
          have h1 := hy.2.1
          have := NS.add ((irr_mem hn).mpr hy) (ih (x - y) (by omega) (by omega) hr)
          rwa [Int.sub_add_cancel] at this
    exact key _ x (Nat.le_refl _) (hn.nonneg h) h
/-- the walk of least_of -/
noncomputable def lstF (t : List Int) : List Int → List Int
  | [] => t
  | x :: r => lstF (if inS t x.toNat = true then t else t ++ [x]) r
theorem lstF_irr {ns : List Int} (hn : Pos1 ns) : ∀ (post pre : List Int), srtS ns = pre ++ post → lstF (pre.filter (irB (NS ns))) post = irr ns
  | [], pre, h => by rw [List.append_nil] at h; rw [lstF, irr, h]
  | x :: post, pre, h => by
    have lt := srtS_lt ns
    rw [h] at lt
    have hx : x ∈ ns := srtS_mem.mp (by rw [h]; simp)
    have hx1 := hn x hx
    have below : ∀ y ∈ pre, y < x := fun y hy => (List.pairwise_append.mp lt).2.2 y hy x (by simp)
    have ipre : ∀ y, Irr (NS ns) y → y < x → y ∈ pre.filter (irB (NS ns)) := fun y hy hl => by
      have hm : y ∈ srtS ns := srtS_mem.mpr (hy.mem hn)
      rw [h, List.mem_append] at hm
      rcases hm with hm | hm
      · exact List.mem_filter.mpr ⟨hm, irB_iff.mpr hy⟩
      · rcases List.mem_cons.mp hm with e | hm
        · omega
        · have := (List.pairwise_cons.mp (List.pairwise_append.mp lt).2.1).1 y hm
          omega
    have gen : ∀ (n : Nat) (y : Int), y.toNat ≤ n → 0 ≤ y → y < x → NS ns y → NS (pre.filter (irB (NS ns))) y := by
      intro n
      induction n with
      | zero => intro y hy h0 _ _; rw [show y = 0 by omega]; exact .zero
      | succ n ih =>
        intro y hy h0 hl hS
        by_cases z : y = 0
        · rw [z]; exact .zero
        · obtain ⟨u, hu, hle, hr⟩ := irr_off (S := NS ns) .zero (fun a b => NS.plus) _ y (Nat.le_refl _) (by omega) hS
          have h1 := hu.2.1
          have := NS.add (ipre u hu (by omega)) (ih (y - u) (by omega) (by omega) (by omega) hr)
          rwa [Int.sub_add_cancel] at this
    have sub : ∀ y, NS (pre.filter (irB (NS ns))) y → NS ns y := fun y h => h.mono fun s hs => (irB_iff.mp (List.mem_filter.mp hs).2).1
    have key : (if inS (pre.filter (irB (NS ns))) x.toNat = true then pre.filter (irB (NS ns)) else pre.filter (irB (NS ns)) ++ [x]) = (pre ++ [x]).filter (irB (NS ns)) := by
      rw [List.filter_append]
      have ex : ((x.toNat : Nat) : Int) = x := Int.toNat_of_nonneg (by omega)
      by_cases hi : inS (pre.filter (irB (NS ns))) x.toNat = true
      · rw [if_pos hi]
        rw [inS_iff, ex] at hi
        have hni : ¬ Irr (NS ns) x := fun hI => by
          cases hi with
          | zero => omega
          | @add m s hs h' =>
            have ms := List.mem_filter.mp hs
            have s1 := (irB_iff.mp ms.2)
            have sl := below s ms.1
            exact hI.2.2 m s (sub _ h') s1.1 (by omega) s1.2.1 rfl
        rw [show [x].filter (irB (NS ns)) = [] from by
          rw [List.filter_cons_of_neg (by rw [irB_iff]; exact hni)]; rfl, List.append_nil]
      · rw [if_neg hi]
        rw [inS_iff, ex] at hi
        have hI : Irr (NS ns) x := ⟨NS.of_mem hx, hx1, fun a b ha hb a1 b1 e => hi (by
          rw [← e]
          exact (gen _ a (Nat.le_refl _) (by omega) (by omega) ha).plus (gen _ b (Nat.le_refl _) (by omega) (by omega) hb))⟩
        rw [List.filter_cons_of_pos (irB_iff.mpr hI), List.filter_nil]
    rw [lstF, key]
    exact lstF_irr hn post (pre ++ [x]) (by rw [h]; simp)
/-- all irreducibles of S up to n, in rising order -/
noncomputable def irrUp (S : Int → Prop) (n : Nat) : List Int := ((List.range n).map fun (k : Nat) => 1 + (k : Int)).filter (irB S)
theorem irrUp_mem {S : Int → Prop} {n : Nat} {x : Int} : x ∈ irrUp S n ↔ Irr S x ∧ x ≤ n := by
  unfold irrUp
  rw [List.mem_filter, irB_iff, List.mem_map]
  constructor
  · rintro ⟨⟨k, hk, rfl⟩, h⟩
    rw [List.mem_range] at hk
    exact ⟨h, by omega⟩
  · rintro ⟨h, hx⟩
    have := h.2.1
    exact ⟨⟨(x - 1).toNat, by rw [List.mem_range]; omega, by omega⟩, h⟩
theorem irrUp_lt (S : Int → Prop) (n : Nat) : (irrUp S n).Pairwise (· < ·) := by
  unfold irrUp
  refine List.Pairwise.filter _ (List.pairwise_map.mpr ?_)
  refine (List.pairwise_lt_range).imp fun {a b} h => ?_
  omega
theorem irrUp_succ (S : Int → Prop) (n : Nat) : irrUp S (n + 1) = irrUp S n ++ if irB S (1 + (n : Int)) = true then [1 + (n : Int)] else [] := by
  unfold irrUp
  rw [List.range_succ, List.map_append, List.filter_append]
  congr 1
  by_cases h : irB S (1 + (n : Int)) = true
  · rw [if_pos h, List.map_cons, List.map_nil, List.filter_cons_of_pos h]; rfl
  · rw [if_neg h, List.map_cons, List.map_nil, List.filter_cons_of_neg h]; rfl
/-- what the law asks at x: x is in S and no irreducible below leads into S -/
theorem irr_law {S : Int → Prop} (h0 : S 0) (hp : ∀ a b, S a → S b → S (a + b)) {n : Nat} : Irr S (1 + (n : Int)) ↔ S (1 + (n : Int)) ∧ ∀ y ∈ irrUp S n, ¬ S (1 + (n : Int) - y) := by
  constructor
  · intro h
    refine ⟨h.1, fun y hy hS => ?_⟩
    obtain ⟨hI, hle⟩ := irrUp_mem.mp hy
    exact h.2.2 y (1 + (n : Int) - y) hI.1 hS hI.2.1 (by omega) (by omega)
  · rintro ⟨h1, h2⟩
    refine ⟨h1, by omega, fun a b ha hb a1 b1 e => ?_⟩
    obtain ⟨y, hy, hle, hr⟩ := irr_off h0 hp _ a (Nat.le_refl _) a1 ha
    refine h2 y (irrUp_mem.mpr ⟨hy, by omega⟩) ?_
    have := hp _ _ hr hb
    rwa [show a - y + b = 1 + (n : Int) - y by omega] at this
theorem irr_upTo {ns : List Int} (hn : Pos1 ns) {S : Int → Prop} {n : Nat} (hS : ∀ x, NS ns x ↔ S x) (hl : ∀ x ∈ irr ns, x ≤ (n : Int)) : irr ns = irrUp S n := by
  have e : NS ns = S := funext fun x => propext (hS x)
  refine lt_unique (irr_lt ns) (irrUp_lt S n) fun k => ?_
  rw [irr_mem hn, irrUp_mem, ← e]
  exact ⟨fun h => ⟨h, hl k ((irr_mem hn).mpr h)⟩, fun h => h.1⟩
end Dk

set_option maxRecDepth 100000
set_option maxHeartbeats 4000000
/-! Ch: chains of fractions, each next to the one before -/
namespace Dk
theorem bez (m n : Nat) : ∃ x y : Int, x * m + y * n = (Nat.gcd m n : Int) := by
  induction m, n using Nat.gcd.induction with
  | H0 n => exact ⟨0, 1, by simp⟩
  | H1 m n h ih =>
    obtain ⟨x, y, e⟩ := ih
    refine ⟨y - x * ((n / m : Nat) : Int), x, ?_⟩
    rw [Nat.gcd_rec m n, ← e]
    have h1 : (n : Int) = ((n % m : Nat) : Int) + (m : Int) * ((n / m : Nat) : Int) := by
      have := Nat.mod_add_div n m
      exact_mod_cast this.symm
    rw [Int.sub_mul]
    conv => lhs; rw [h1]
    rw [Int.mul_add, Int.mul_assoc, Int.mul_comm ((n / m : Nat) : Int) (m : Int)]
    omega
/-- v is good: (1 + p v) / q over v is a fraction next to p/q and not above r/s -/
def GoodV (p q r s v : Int) : Prop := ∃ u, u * q = 1 + p * v ∧ u * s ≤ r * v
theorem goodV_of {p q r s v u : Int} (hq : 1 ≤ q) (hD : 1 ≤ r * q - p * s) (hv0 : 0 ≤ v) (hv : s ≤ v) (hu : u * q = 1 + p * v) : u * s ≤ r * v := by
  have e : q * (r * v - u * s) = v * (r * q - p * s) - s := by grind
  have h1 : v * 1 ≤ v * (r * q - p * s) := Int.mul_le_mul_of_nonneg_left hD hv0
  have h2 : 0 ≤ q * (r * v - u * s) := by rw [e]; omega
  have h3 : 0 ≤ r * v - u * s := by
    refine Classical.byContradiction fun h => ?_
    have h4 : q * (r * v - u * s) < q * 0 := Int.mul_lt_mul_of_pos_left (by omega) (by omega)
    omega
  omega
theorem goodV_ex {p q r s : Int} (hq : 1 ≤ q) (hs : 1 ≤ s) (hp : 0 ≤ p) (hg : Nat.gcd p.toNat q.toNat = 1) (hD : 1 ≤ r * q - p * s) : ∃ v : Nat, 1 ≤ v ∧ (v : Int) ≤ s + q ∧ GoodV p q r s v := by
  obtain ⟨x, y, e⟩ := bez p.toNat q.toNat
  rw [hg, Int.toNat_of_nonneg hp, Int.toNat_of_nonneg (by omega)] at e
  have h1 := Int.emod_nonneg (-x - s) (show q ≠ 0 by omega)
  have h2 := Int.emod_lt_of_pos (-x - s) (show 0 < q by omega)
  have h3 := Int.emod_add_mul_ediv (-x - s) q
  refine ⟨(s + (-x - s) % q).toNat, by omega, by omega, ?_⟩
  rw [Int.toNat_of_nonneg (by omega)]
  have hu : (y - p * ((-x - s) / q)) * q = 1 + p * (s + (-x - s) % q) := by grind
  exact ⟨_, hu, goodV_of hq hD (by omega) (by omega) hu⟩
/-- the next one: the determinants go down -/
theorem next_det {p q r s v u : Int} (hq : 1 ≤ q) (hs : 1 ≤ s) (hv : 1 ≤ v) (hu : u * q = 1 + p * v) (hle : u * s ≤ r * v) (hmin : ∀ w, 1 ≤ w → w < v → ¬ GoodV p q r s w) (hD : 1 ≤ r * q - p * s) :
    0 ≤ r * v - u * s ∧ r * v - u * s < r * q - p * s := by
  refine ⟨by omega, ?_⟩
  have e : q * (r * v - u * s) = v * (r * q - p * s) - s := by grind
  refine Classical.byContradiction fun h => ?_
  have h1 : q * (r * q - p * s) ≤ q * (r * v - u * s) := Int.mul_le_mul_of_nonneg_left (by omega) (by omega)
  by_cases hvq : v ≤ q
  · have h2 : v * (r * q - p * s) ≤ q * (r * q - p * s) := Int.mul_le_mul_of_nonneg_right hvq (by omega)
    omega
  · refine hmin (v - q) (by omega) (by omega) ⟨u - p, by grind, ?_⟩
    have e2 : q * (r * (v - q) - (u - p) * s) = q * (r * v - u * s) - q * (r * q - p * s) := by grind
    refine Classical.byContradiction fun h3 => ?_
    have h4 : q * (r * (v - q) - (u - p) * s) < q * 0 := Int.mul_lt_mul_of_pos_left (by omega) (by omega)
    omega
/-- the next one lies in the triangle -/
theorem next_le {p q r s v u B : Int} (hD : 1 ≤ r * q - p * s) (hu : u * q = 1 + p * v) (h0 : 0 ≤ r * v - u * s) (h1 : r * v - u * s < r * q - p * s) (hp : p ≤ B) (hr : r ≤ B) (hB : 0 ≤ B) : u ≤ B := by
  have e : u * (r * q - p * s) = (r * v - u * s) * p + r := by grind
  have h2 : (r * v - u * s) * p ≤ (r * v - u * s) * B := Int.mul_le_mul_of_nonneg_left hp h0
  have h3 : (r * v - u * s) * B ≤ (r * q - p * s - 1) * B := Int.mul_le_mul_of_nonneg_right (by omega) hB
  have h4 : (r * q - p * s - 1) * B = (r * q - p * s) * B - B := by grind
  refine Classical.byContradiction fun h => ?_
  have h5 : (r * q - p * s) * (B + 1) ≤ (r * q - p * s) * u := Int.mul_le_mul_of_nonneg_left (by omega) (by omega)
  have h6 : (r * q - p * s) * (B + 1) = (r * q - p * s) * B + (r * q - p * s) := by grind
  have h7 : (r * q - p * s) * u = u * (r * q - p * s) := Int.mul_comm _ _
  omega
theorem next_le2 {p q r s v u B : Int} (hD : 1 ≤ r * q - p * s) (hu : u * q = 1 + p * v) (h0 : 0 ≤ r * v - u * s) (h1 : r * v - u * s < r * q - p * s) (hp : q ≤ B) (hr : s ≤ B) (hB : 0 ≤ B) : v ≤ B := by
  have e : v * (r * q - p * s) = (r * v - u * s) * q + s := by grind
  have h2 : (r * v - u * s) * q ≤ (r * v - u * s) * B := Int.mul_le_mul_of_nonneg_left hp h0
  have h3 : (r * v - u * s) * B ≤ (r * q - p * s - 1) * B := Int.mul_le_mul_of_nonneg_right (by omega) hB
  have h4 : (r * q - p * s - 1) * B = (r * q - p * s) * B - B := by grind
  refine Classical.byContradiction fun h => ?_
  have h5 : (r * q - p * s) * (B + 1) ≤ (r * q - p * s) * v := Int.mul_le_mul_of_nonneg_left (by omega) (by omega)
  have h6 : (r * q - p * s) * (B + 1) = (r * q - p * s) * B + (r * q - p * s) := by grind
  have h7 : (r * q - p * s) * v = v * (r * q - p * s) := Int.mul_comm _ _
  omega
/-- three in a row bend one way -/
theorem three {p0 q0 p q u v r s : Int} (h1 : p * q0 - p0 * q = 1) (h2 : u * q - p * v = 1) (d0 : 1 ≤ r * q - p * s) (d1 : r * q - p * s < r * q0 - p0 * s) (d2 : 0 ≤ r * v - u * s) (hp : 0 ≤ p) :
    2 * p ≤ p0 + u := by
  have e : (u * q0 - p0 * v) * (r * q - p * s) = (r * q0 - p0 * s) + (r * v - u * s) := by grind
  have e2 : (u * q0 - p0 * v) * p = p0 + u := by grind
  have h3 : 2 ≤ u * q0 - p0 * v := by
    refine Classical.byContradiction fun h => ?_
    have : (u * q0 - p0 * v) * (r * q - p * s) ≤ 1 * (r * q - p * s) := Int.mul_le_mul_of_nonneg_right (by omega) (by omega)
    omega
  have : 2 * p ≤ (u * q0 - p0 * v) * p := Int.mul_le_mul_of_nonneg_right h3 hp
  omega
theorem goodB {p q r s v : Int} (hq : 1 ≤ q) : GoodV p q r s v ↔ (1 + p * v).fmod q = 0 ∧ (1 + p * v).fdiv q * s ≤ r * v := by
  have hf := Int.mul_fdiv_add_fmod (1 + p * v) q
  constructor
  · rintro ⟨u, h1, h2⟩
    have e1 : (1 + p * v).fmod q = 0 := by rw [← h1]; exact Int.mul_fmod_left u q
    rw [e1, Int.add_zero] at hf
    have e2 : (1 + p * v).fdiv q = u := by
      have : q * (1 + p * v).fdiv q = q * u := by rw [hf, ← h1, Int.mul_comm]
      exact Int.eq_of_mul_eq_mul_left (by omega) this
    exact ⟨e1, by rw [e2]; exact h2⟩
  · rintro ⟨h1, h2⟩
    rw [h1, Int.add_zero] at hf
    exact ⟨_, by rw [Int.mul_comm]; exact hf, h2⟩
def prI (w : Int × Int) : D := tupI [w.1, w.2]
def Chn : List (Int × Int) → Prop
  | a :: b :: r => b.1 * a.2 - a.1 * b.2 = 1 ∧ Chn (b :: r)
  | _ => True
theorem NS.times {g : List Int} {a : Int} (h : NS g a) : ∀ k : Nat, NS g ((k : Int) * a)
  | 0 => by rw [Int.natCast_zero, Int.zero_mul]; exact .zero
  | k + 1 => by
    have := (NS.times h k).plus h
    rwa [show (k : Int) * a + a = ((k + 1 : Nat) : Int) * a by grind] at this
theorem chn_gen : ∀ (L : List (Int × Int)) (w0 wn : Int × Int) (x y : Int), Chn (w0 :: L) → L.getLast? = some wn → 0 ≤ x * w0.2 - w0.1 * y → 0 ≤ wn.1 * y - x * wn.2 → NS ((w0 :: L).map (·.1)) x
  | [], w0, wn, x, y, _, hl, _, _ => by simp at hl
  | w1 :: L, w0, wn, x, y, hc, hl, h0, hn => by
    by_cases hd : 0 ≤ w1.1 * y - x * w1.2
    · have e : x = (w1.1 * y - x * w1.2) * w0.1 + (x * w0.2 - w0.1 * y) * w1.1 := by have := hc.1; grind
      have m0 : NS ((w0 :: w1 :: L).map (·.1)) w0.1 := NS.of_mem (by simp)
      have m1 : NS ((w0 :: w1 :: L).map (·.1)) w1.1 := NS.of_mem (by simp)
      have := (m0.times (w1.1 * y - x * w1.2).toNat).plus (m1.times (x * w0.2 - w0.1 * y).toNat)
      rw [Int.toNat_of_nonneg hd, Int.toNat_of_nonneg h0, ← e] at this
      exact this
    · cases L with
      | nil => simp at hl; subst hl; exact absurd hn hd
      | cons w2 L =>
        have ih := chn_gen (w2 :: L) w1 wn x y hc.2 (by simpa using hl) (by have : x * w1.2 - w1.1 * y = -(w1.1 * y - x * w1.2) := by grind
                                                                            omega) hn
        exact ih.mono fun s hs => NS.of_mem (List.mem_cons_of_mem _ hs)
theorem chn_snoc : ∀ (L : List (Int × Int)) (w z : Int × Int), Chn (L ++ [w]) → z.1 * w.2 - w.1 * z.2 = 1 → Chn (L ++ [w] ++ [z])
  | [], w, z, _, h => ⟨h, trivial⟩
  | [a], w, z, hc, h => ⟨hc.1, h, trivial⟩
  | a :: b :: L, w, z, hc, h => ⟨hc.1, by have := chn_snoc (b :: L) w z hc.2 h; simpa using this⟩
theorem cop_of {p q u v : Int} (hp : 0 ≤ u) (hv : 0 ≤ v) (h : u * q - p * v = 1) : Nat.gcd u.toNat v.toNat = 1 := by
  have h1 : ((Nat.gcd u.toNat v.toNat : Nat) : Int) ∣ u := by
    have := Int.natCast_dvd_natCast.mpr (Nat.gcd_dvd_left u.toNat v.toNat)
    rwa [Int.toNat_of_nonneg hp] at this
  have h2 : ((Nat.gcd u.toNat v.toNat : Nat) : Int) ∣ v := by
    have := Int.natCast_dvd_natCast.mpr (Nat.gcd_dvd_right u.toNat v.toNat)
    rwa [Int.toNat_of_nonneg hv] at this
  have h3 : ((Nat.gcd u.toNat v.toNat : Nat) : Int) ∣ 1 := by
    rw [← h]
    exact Int.dvd_sub (Int.dvd_mul_of_dvd_left h1) (Int.dvd_mul_of_dvd_right h2)
  have := Int.natCast_dvd_natCast.mp (by simpa using h3 : ((Nat.gcd u.toNat v.toNat : Nat) : Int) ∣ ((1 : Nat) : Int))
  exact Nat.dvd_one.mp this
/-- two lowest fractions of the same worth are the same -/
theorem low_eq {p q r s : Int} (hp : 0 ≤ p) (hq : 1 ≤ q) (hr : 0 ≤ r) (hs : 1 ≤ s) (g1 : Nat.gcd p.toNat q.toNat = 1) (g2 : Nat.gcd r.toNat s.toNat = 1) (h : r * q - p * s = 0) : p = r ∧ q = s := by
  have e : r.toNat * q.toNat = p.toNat * s.toNat := by
    have : ((r.toNat * q.toNat : Nat) : Int) = ((p.toNat * s.toNat : Nat) : Int) := by
      rw [Int.natCast_mul, Int.natCast_mul, Int.toNat_of_nonneg hp, Int.toNat_of_nonneg hr, Int.toNat_of_nonneg (by omega), Int.toNat_of_nonneg (by omega)]
      omega
    exact_mod_cast this
  have d1 : q.toNat ∣ s.toNat := by
    have : q.toNat ∣ p.toNat * s.toNat := by rw [← e]; exact Nat.dvd_mul_left _ _
    exact Nat.Coprime.dvd_of_dvd_mul_left (Nat.Coprime.symm g1) this
  have d2 : s.toNat ∣ q.toNat := by
    have : s.toNat ∣ r.toNat * q.toNat := by rw [e]; exact Nat.dvd_mul_left _ _
    exact Nat.Coprime.dvd_of_dvd_mul_left (Nat.Coprime.symm g2) this
  have eq : q.toNat = s.toNat := Nat.dvd_antisymm d1 d2
  have eq' : q = s := by omega
  refine ⟨?_, eq'⟩
  subst eq'
  have : (r - p) * q = 0 := by grind
  rcases Int.mul_eq_zero.mp this with h | h <;> omega
end Dk

set_option maxRecDepth 100000
set_option maxHeartbeats 4000000
namespace Law
open PySem PySem.Spec PyProof.Rows L2 Dk
def topS (i : Nat) : Stmt := PySem.Challenge.pw_gaphouse_k49_whole_chains_of_fractions.main.body.getD i (.Pass ⟨0, 0, 0, 0⟩)
abbrev s_next_in_chain : Stmt := topS 2
abbrev s_chain : Stmt := topS 3
abbrev s_is_chain : Stmt := topS 4
abbrev s__law_state : Stmt := topS 6
abbrev s__law_draw : Stmt := topS 7
abbrev s__law_pick : Stmt := topS 8
abbrev s__law_eq : Stmt := topS 9
abbrev s__law_gcd : Stmt := topS 10
abbrev s__law_reduced : Stmt := topS 11
abbrev s__law_lean : Stmt := topS 12
abbrev s__law_is_chain : Stmt := topS 13
abbrev s_law : Stmt := topS 14
structure Txt (K : PySem.W.Frag) (mg : Str → Option Value) : Prop where
  b_abs : mg "abs" = none
  b_all : mg "all" = none
  b_bool : mg "bool" = none
  b_int : mg "int" = none
  b_isinstance : mg "isinstance" = none
  b_len : mg "len" = none
  b_list : mg "list" = none
  b_max : mg "max" = none
  b_min : mg "min" = none
  b_range : mg "range" = none
  b_str : mg "str" = none
  b_tuple : mg "tuple" = none
  g_gcd : mg "gcd" = some (.builtin "math.gcd")
  d_next_in_chain : DefAt K mg "next_in_chain" s_next_in_chain
  d_chain : DefAt K mg "chain" s_chain
  d_is_chain : DefAt K mg "is_chain" s_is_chain
  d__law_state : DefAt K mg "_law_state" s__law_state
  d__law_draw : DefAt K mg "_law_draw" s__law_draw
  d__law_pick : DefAt K mg "_law_pick" s__law_pick
  d__law_eq : DefAt K mg "_law_eq" s__law_eq
  d__law_gcd : DefAt K mg "_law_gcd" s__law_gcd
  d__law_reduced : DefAt K mg "_law_reduced" s__law_reduced
  d__law_lean : DefAt K mg "_law_lean" s__law_lean
  d__law_is_chain : DefAt K mg "_law_is_chain" s__law_is_chain
section
variable {P : Program} {w : World} {K : PySem.W.Frag} {mg : Str → Option Value} {base : Heap}
theorem sc__law_state : FnScope ["script", "seed", "cell"] ["script"] (defScope s__law_state) := ⟨rfl, rfl, rfl, by decide +kernel, rfl, by decide +kernel, by decide +kernel⟩
theorem f__law_state (T : Txt K mg) : ∃ f fd, FnOk P w K mg base CX0 1 f fd ["script"] (spState K) ∧ mg "_law_state" = some (.ref f) ∧ PySem.W.keepIn K (.ref f) = true ∧ Binds K fd ["script"] [] := by
  obtain ⟨f, fd, F, hm⟩ := T.d__law_state
  have hb := F.binds (ps := ["script"]) fun _ _ _ _ _ _ us hl => match us, hl with | [_], _ => rfl
  refine ⟨f, fd, ?_, hm, F.kp, hb⟩
  have nd := sc__law_state.nd
  refine F.ok sc__law_state (fun vs H Q E h => ?_) (fun cdv A outer s H vs Q E hr h => ?_)
  · obtain ⟨a, ns, rfl, _⟩ := h
    rfl
  · obtain ⟨a, ns, rfl, hS, hl, kk⟩ := h
    refine ⟨_, pss_cons (ps_set (i := 1) nd rfl (Or.inl rfl) pe_int)
      (pss_cons (ps_for PassesOwn.never rfl (pi_list (pv 0)) (pg_name (i := 2) nd rfl (Or.inl rfl)) (pss_one (ps_set (i := 1) nd rfl (Or.inl rfl) (pe_op op_mod (pe_callTy call_int1 (by rfl) T.b_int boot_int (pa_cons (pe_op op_add (pe_op op_mul (pv 1) pe_int) (pv 2)) pa_nil)) pe_int))))
      (pss_one (ps_ret (pe_lst (pa_cons (pe_lc (own := [("cell", 2)]) (g := gName 2) (tt := tYes) rfl nd (pi_list (pv 0)) (blkOk_by (N := ["script", "seed", "cell"]) (sc := defScope s__law_state) (by decide +kernel)) (fun _ _ _ _ _ => pg_name (i := 2) nd rfl (Or.inl rfl)) (fun _ _ _ _ _ => pts_nil) (fun _ _ _ _ _ => pe_callB call_abs (by rfl) T.b_abs (by decide +kernel) (pa_cons (pv 2) pa_nil))) (pa_cons (pe_op op_add (pv 1) pe_int) pa_nil)))))), ?_⟩
    refine ⟨_, rfl, a, rfl, ⟨_, hS⟩, for_list (K := K) (a := a) (xs := ns.map V.int) (fun i σ H' => ∃ (c : Int) (v : Option V), σ = [some (.ref a), some (.int c), v] ∧ H' = H)
      ⟨7, none, rfl, rfl⟩ (fun i σ H' _ ⟨_, _, _, e⟩ => by rw [e]; exact hS) ?_ ?_⟩
    · rintro i y σ H' hi ⟨c, v, rfl, rfl⟩
      obtain ⟨z, rfl⟩ : ∃ z, y = V.int z := by
        rw [List.getElem?_map] at hi
        cases e : ns[i]? with
        | none => rw [e] at hi; cases hi
        | some u => rw [e] at hi; exact ⟨u, (Option.some.inj hi).symm⟩
      refine ⟨_, rfl, _, _, rfl, rfl, .inr ⟨by decide, by decide⟩, _, rfl, _, _, rfl, rfl, .inl ⟨_, rfl, _, _, rfl, rfl, (by show (0 : Int) < 1000003; decide), ?_⟩⟩
      exact ⟨_, _, rfl, rfl⟩
    · rintro σ H' ⟨c, v, rfl, rfl⟩
      refine ⟨_, rfl, a, rfl, ⟨_, hS⟩, fun D hD => lc_list (K := K) (a := a) (xs := ns.map V.int) (fun i H2 => Same H' H2 ∧ H2 D = some (.lst (((ns.take i).map absI).map V.int))) ⟨?_, upd_same⟩ (fun i H2 _ h => h.1.seq hS) ?_ ?_⟩
      · exact fun b o e => by rw [upd_ne (ne_of_none e hD)]; exact e
      · rintro i y H2 hi ⟨sm, hd⟩
        obtain ⟨z, hz, rfl⟩ : ∃ z, ns[i]? = some z ∧ y = V.int z := by
          rw [List.getElem?_map] at hi
          cases e : ns[i]? with
          | none => rw [e] at hi; cases hi
          | some u => rw [e] at hi; exact ⟨u, rfl, (Option.some.inj hi).symm⟩
        refine ⟨rfl, _, rfl, _, rfl, _, hd, ?_, fun b o e => ?_, ?_⟩
        · rw [List.length_map, List.length_map, List.length_take]
          exact Nat.lt_of_le_of_lt (Nat.min_le_right _ _) (small1000 (by omega))
        · rw [upd_ne (ne_of_none e hD)]
          exact sm _ _ e
        · rw [upd_same, List.take_add_one, hz]
          simp [absI]
      · rintro H2 ⟨sm, hd⟩
        rw [List.length_map, List.take_length] at hd
        refine ⟨_, rfl, _, _, rfl, rfl, (by show 2 ≤ sizeLine; decide), fun l hl => ?_⟩
        have hne : l ≠ D := fun e => by rw [e, hd] at hl; cases hl
        exact kk _ l D _ (fun b o e => by rw [upd_ne (ne_of_none (sm _ _ e) hl)]; exact sm _ _ e) (by
          cases e0 : H' l with
          | none => rfl
          | some u => rw [sm _ _ e0] at hl; cases hl) hD hne upd_same (by rw [upd_ne hne.symm]; exact hd)

theorem sc__law_draw : FnScope ["state", "many", "cells", "value", "mixed"] ["state", "many"] (defScope s__law_draw) := ⟨rfl, rfl, rfl, by decide +kernel, rfl, by decide +kernel, by decide +kernel⟩
theorem w__law_draw (T : Txt K mg) : FnX P w K mg base "_law_draw" 1 2 m_draw := by
  obtain ⟨f, fd, F, hm⟩ := T.d__law_draw
  have hb := F.binds (ps := ["state", "many"]) fun _ _ _ _ _ _ us hl => match us, hl with | [_, _], _ => rfl
  refine ⟨⟨f, fd, ["state", "many"], ?_, hm, F.kp, hb⟩, fun ds dr r h => ?_⟩
  · refine F.ok sc__law_draw (fun vs H Q E h => ?_) (fun cdv A outer s H vs Q E hr h => ?_)
    · obtain ⟨ms, G, dr, ds, d, dr', hl, _⟩ := h
      exact hl
    · obtain ⟨ms, G, dr, ds, d, dr', hl, w, r, hrun, kk⟩ := h
      obtain ⟨ps, pc, n, seed, cells, rfl, rfl, hne, h0, h1, hres⟩ := m_draw_inv hrun
      obtain ⟨v0, v1, rfl, q0, q1⟩ := r.two
      simp only [Rep] at q0 q1
      subst q0 q1
      obtain ⟨hps, hpc⟩ := drS_at w
      have nd := sc__law_draw.nd
      refine ⟨_, pss_cons (ps_set (i := 2) nd rfl (Or.inl rfl) (pe_ix ix_list (pv 0) pe_int (fun _ _ => rfl)))
        (pss_cons (ps_while PassesOwn.never (PW.pt (pw_and (pt_cmpR op_gt (pe_callB call_len_seq (by rfl) T.b_len PySem.boot_len (pa_cons (pv 2) pa_nil)) pe_int (nomark _)) (pw_and1 (pt_cmpR op_eq (pe_ix ix_list (pv 2) pe_int (fun _ _ => rfl)) pe_int (nomark _)))))
          (pss_one (ps_expr (pe_bm PySem.F.plainAttrs_list PySem.F.slot_list_pop PySem.F.type_list_pop mt_popAt (pv 2) (pa_cons pe_int pa_nil)))))
        (pss_cons (ps_if (pt_cmpR op_gt (pe_callB call_len_seq (by rfl) T.b_len PySem.boot_len (pa_cons (pv 2) pa_nil)) pe_int (nomark _))
          (pss_cons (ps_set (i := 3) nd rfl (Or.inl rfl) (pe_ix ix_list (pv 2) pe_int (fun _ _ => rfl)))
          (pss_cons (ps_asg (pe_op op_fdiv (pv 3) (pv 1)) (pg_sub (pv 2) pe_int set_list))
          (pss_one (ps_ret (pe_op op_mod (pe_callTy call_int1 (by rfl) T.b_int boot_int (pa_cons (pv 3) pa_nil)) (pv 1)))))) pss_nil)
        (pss_cons (ps_set (i := 4) nd rfl (Or.inl rfl) (pe_op op_mod (pe_callTy call_int1 (by rfl) T.b_int boot_int (pa_cons (pe_op op_add (pe_op op_mul (pe_ix ix_list (pv 0) pe_int (fun _ _ => rfl)) pe_int) pe_int) pa_nil)) pe_int))
        (pss_cons (ps_asg (pv 4) (pg_sub (pv 0) pe_int set_list))
        (pss_one (ps_ret (pe_op op_mod (pe_callTy call_int1 (by rfl) T.b_int boot_int (pa_cons (pe_op op_fdiv (pv 4) pe_int) pa_nil)) (pv 1)))))))), ?_⟩
      -- cells = state[0]
      refine ⟨_, rfl, ps, _, 0, _, rfl, rfl, .of hps, rfl, ?_⟩
      -- the zeros
      have hnp : pc ≠ ps := Ne.symm hne
      refine ⟨fun m σ H' => ∃ cs : List Int, m = cs.length ∧ σ = [some (.ref ps), some (.int n), some (.ref pc), none, none] ∧ zerosOff cs = zerosOff cells ∧ H' pc = some (.lst (cs.map V.int)) ∧ ∀ a, a ≠ pc → H' a = H a,
        ⟨_, cells, rfl, rfl, rfl, hpc, fun _ _ => rfl⟩, ?_⟩
      rintro m σ H1 ⟨cs, rfl, rfl, hz, hpc1, hk⟩
      have hps1 : H1 ps = some (.lst [.ref pc, .int seed]) := by rw [hk ps hne]; exact hps
      refine ⟨.ref pc, rfl, pc, _, rfl, .inl (.of hpc1), _, _, rfl, rfl, _, rfl, ?_⟩
      cases cs with
      | nil =>
        refine iteF (iteF ?_)
        -- if len(cells) > 0: no
        refine ⟨.ref pc, rfl, pc, _, rfl, .inl (.of hpc1), _, _, rfl, rfl, _, rfl, iteF ?_⟩
        have hz' : zerosOff cells = [] := hz.symm
        rw [hz'] at hres
        -- mixed
        refine ⟨_, rfl, ps, _, 1, _, rfl, rfl, .of hps1, rfl, _, _, rfl, rfl, .inr ⟨by decide, by decide⟩, _, _, rfl, rfl, .inl ⟨_, rfl, ?_⟩⟩
        refine ⟨_, _, rfl, rfl, (by show (0 : Int) < 2147483647; decide), ?_⟩
        refine ⟨_, rfl, .ref ps, rfl, ps, _, 1, 1, rfl, rfl, hps1, rfl, ?_⟩
        refine ⟨_, rfl, _, _, rfl, rfl, ⟨by decide, by decide⟩, .inl ⟨_, rfl, _, rfl, _, _, rfl, rfl, h0, ?_⟩⟩
        cases hres
        have hh : (upd H1 ps (.lst [.ref pc, .int (mixS seed)])) pc = some (.lst (([] : List Int).map V.int)) := by rw [upd_ne hnp]; exact hpc1
        obtain ⟨a', w'⟩ := drS_aft (cells' := []) (seed' := mixS seed) (H' := upd H1 ps (.lst [.ref pc, .int (mixS seed)])) hne w upd_same hh (fun a g1 g2 => by rw [upd_ne g1]; exact hk a g2)
        exact kk _ G _ rep_int a' w'
      | cons v rr =>
        have hl0 : decide ((0 : Int) < ((((v :: rr).map V.int).length : Nat) : Int)) = true := decide_eq_true (by rw [List.length_map, List.length_cons]; omega)
        have hx0 : ixN ((v :: rr).map V.int).length 0 = some 0 := by
          unfold ixN
          rw [if_pos (by decide), if_pos (by rw [List.length_map, List.length_cons]; omega)]
          rfl
        refine iteTb hl0 ?_
        have hix : atI ((v :: rr).map V.int) 0 = some (.int v) := atI_nat (j := 0) rfl
        refine ⟨.ref pc, rfl, pc, _, 0, _, rfl, rfl, .of hpc1, hix, rfl, _, rfl, ?_⟩
        by_cases hv : v = 0
        · subst hv
          refine iteT ⟨fun σ' H' => ∃ cs : List Int, cs.length < (0 :: rr).length ∧ σ' = [some (.ref ps), some (.int n), some (.ref pc), none, none] ∧ zerosOff cs = zerosOff cells ∧ H' pc = some (.lst (cs.map V.int)) ∧ ∀ a, a ≠ pc → H' a = H a,
            fun σ' H' ⟨cs, h1, h2⟩ => ⟨_, h1, cs, rfl, h2⟩, ?_⟩
          refine ⟨.ref pc, rfl, .inl ⟨rfl, _, .of hpc1⟩, pc, _, 0, 0, _, rfl, rfl, hpc1, by decide, by decide, by simp [seqIndex?], rfl, ?_⟩
          exact ⟨rr, by simp, rfl, by rw [← hz]; simp [zerosOff], upd_same, fun a ha => by rw [upd_ne ha]; exact hk a ha⟩
        · have e1 : decide (V.int v = V.int 0) = false := decide_eq_false fun z => hv (V.int.inj z)
          refine iteFb e1 ?_
          -- if len(cells) > 0
          refine ⟨.ref pc, rfl, pc, _, rfl, .inl (.of hpc1), _, _, rfl, rfl, _, rfl, ?_⟩
          refine iteTb hl0 ?_
          have hz' : zerosOff cells = v :: rr := by rw [← hz]; simp [zerosOff, hv]
          rw [hz'] at hres
          cases hres
          refine ⟨.ref pc, rfl, pc, _, 0, _, rfl, rfl, .of hpc1, hix, ?_⟩
          refine ⟨_, rfl, _, rfl, _, _, rfl, rfl, ⟨h0, h1⟩, .ref pc, rfl, pc, _, 0, 0, rfl, rfl, hpc1, hx0, ?_⟩
          refine ⟨_, rfl, .inl ⟨_, rfl, _, rfl, _, _, rfl, rfl, h0, ?_⟩⟩
          have hh : (upd H1 pc (.lst (((v :: rr).map V.int).set 0 (.int (v / n))))) ps = some (.lst [.ref pc, .int seed]) := by rw [upd_ne hne]; exact hps1
          obtain ⟨a', w'⟩ := drS_aft (cells' := v / n :: rr) (seed' := seed) (H' := upd H1 pc (.lst (((v :: rr).map V.int).set 0 (.int (v / n))))) hne w hh upd_same (fun a g1 g2 => by rw [upd_ne g2]; exact hk a g2)
          exact kk _ G _ rep_int a' w'
  · obtain ⟨ps, pc, n, seed, cells, rfl, rfl, hne, h0, h1, hres⟩ := m_draw_inv h
    rfl

theorem sc_next_in_chain : FnScope ["one", "other", "p", "q", "r", "s", "v"] ["one", "other"] (defScope s_next_in_chain) := ⟨rfl, rfl, rfl, by decide +kernel, rfl, by decide +kernel, by decide +kernel⟩
def L1_next_in_chain : SDn :=
    (sAug 6 (eC (.int 1)))
def b_next_in_chain : SDn :=
    (sSeq (sAsgT (gT (gsC (gN 2) (gsC (gN 3) gs0))) (eV 0))
    (sSeq (sAsgT (gT (gsC (gN 4) (gsC (gN 5) gs0))) (eV 1))
    (sSeq (sSet 6 (eC (.int 1)))
    (sSeq (whileD (tOr (tOf (e2 neV (e2 modV (e2 addV (eC (.int 1)) (e2 mulV' (eV 2) (eV 6))) (eV 3)) (eC (.int 0)))) (tOf (e2 gtV (e2 mulV' (e2 fdivV (e2 addV (eC (.int 1)) (e2 mulV' (eV 2) (eV 6))) (eV 3)) (eV 5)) (e2 mulV' (eV 4) (eV 6))))) L1_next_in_chain 1000000)
    (sRet (eN mkT (aC (e2 fdivV (e2 addV (eC (.int 1)) (e2 mulV' (eV 2) (eV 6))) (eV 3)) (aC (eV 6) aN))))))))
def m_next_in_chain : FD := runD 7 2 b_next_in_chain
theorem w_next_in_chain (T : Txt K mg) : FnX P w K mg base "next_in_chain" 1 2 m_next_in_chain :=
  fnx_of (N := ["one", "other", "p", "q", "r", "s", "v"]) (ps := ["one", "other"]) (k := 0) (g := b_next_in_chain) T.d_next_in_chain sc_next_in_chain (fun _ _ _ _ _ _ us hl => match us, hl with | [_, _], _ => rfl) fun cdv f A outer s H E ms G0 hr => by
    have hu := hr.units
    exact (pssd_cons (psd_asgT (ped_v 0) (pgd_tup rfl (pgsd_cons (pgd_name 2 sc_next_in_chain.nd) (pgsd_cons (pgd_name 3 sc_next_in_chain.nd) pgsd_nil)) (gsC_len (gsC_len gs0_len))))
      (pssd_cons (psd_asgT (ped_v 1) (pgd_tup rfl (pgsd_cons (pgd_name 4 sc_next_in_chain.nd) (pgsd_cons (pgd_name 5 sc_next_in_chain.nd) pgsd_nil)) (gsC_len (gsC_len gs0_len))))
      (pssd_cons (psd_set (i := 6) sc_next_in_chain.nd ped_int)
      (pssd_cons (psd_while 1000000 PassesOwn.never (PWd.pt (pwd_or (ptd_cmp (opd_ne hu) (ped_op opd_mod (ped_op opd_add ped_int (ped_op opd_mul' (ped_v 2) (ped_v 6))) (ped_v 3)) ped_int) (pwd_or1 (ptd_cmp opd_gt (ped_op opd_mul' (ped_op opd_fdiv (ped_op opd_add ped_int (ped_op opd_mul' (ped_v 2) (ped_v 6))) (ped_v 3)) (ped_v 5)) (ped_op opd_mul' (ped_v 4) (ped_v 6)))))) (pssd_one (psd_aug (i := 6) sc_next_in_chain.nd ped_int)))
      (pssd_one (psd_ret (ped_tup (pad_cons (ped_op opd_fdiv (ped_op opd_add ped_int (ped_op opd_mul' (ped_v 2) (ped_v 6))) (ped_v 3)) (pad_cons (ped_v 6) pad_nil)))))))))
theorem sc_chain : FnScope ["one", "other", "told"] ["one", "other"] (defScope s_chain) := ⟨rfl, rfl, rfl, by decide +kernel, rfl, by decide +kernel, by decide +kernel⟩
def L1_chain : SDn :=
    (sAppP 2 (eCall m_next_in_chain (aC (e2 ixV (eV 2) (e1 negV (eC (.int 1)))) (aC (eV 1) aN))))
def b_chain : SDn :=
    (sSeq (sSetO 2 (eN mkL (aC (eV 0) aN)))
    (sSeq (whileD (tOf (e2 neV (e2 ixV (eV 2) (e1 negV (eC (.int 1)))) (eV 1))) L1_chain 1000000)
    (sFrz 2 (sRet (eV 2)))))
def m_chain : FD := runD 3 2 b_chain
theorem w_chain (T : Txt K mg) : FnX P w K mg base "chain" 2 2 m_chain :=
  fnx_of (N := ["one", "other", "told"]) (ps := ["one", "other"]) (k := 1) (g := b_chain) T.d_chain sc_chain (fun _ _ _ _ _ _ us hl => match us, hl with | [_, _], _ => rfl) fun cdv f A outer s H E ms G0 hr => by
    have hu := hr.units
    exact (pssd_cons (psd_setO (i := 2) sc_chain.nd (pfd_lst (pad_cons (ped_v 0) pad_nil)))
      (pssd_cons (psd_while 1000000 PassesOwn.never (ptd_cmp (opd_ne hu) (ped_ix ixd (ped_v 2) (ped_un und_neg ped_int)) (ped_v 1)) (pssd_one (psd_appP 2 (ped_call (w_next_in_chain T) (hr.mono (by decide)) (pad_cons (ped_ix ixd (ped_v 2) (ped_un und_neg ped_int)) (pad_cons (ped_v 1) pad_nil))))))
      (pssd_one (psd_frz 2 (psd_ret (ped_v 2))))))
theorem sc_is_chain : FnScope ["rows", "p", "q", "at"] ["rows"] (defScope s_is_chain) := ⟨rfl, rfl, rfl, by decide +kernel, rfl, by decide +kernel, by decide +kernel⟩
def b_is_chain : SDn :=
    (sSeq (sIf (tOr (tOf (e2 eqV (eN lenV (aC (eV 0) aN)) (eC (.int 0)))) (tNot (tTru (eN allV (aC (eLc (([("p", 1), ("q", 2)] : List (Str × Nat)).map (·.2)) (aSeqA (eV 0)) (cT (csC (cN 1) (csC (cN 2) cs0))) cYes (eAnd (e2 geV (eV 1) (eC (.int 1))) (eAnd (e2 geV (eV 2) (eC (.int 1))) (e2 eqV (eN gcdV (aC (eV 1) (aC (eV 2) aN))) (eC (.int 1)))))) aN))))) (sRet (eC (.bl false))) sNop)
    (sRet (eN allV (aC (eLc (([("at", 3)] : List (Str × Nat)).map (·.2)) (aRg1 (aC (e2 subV (eN lenV (aC (eV 0) aN)) (eC (.int 1))) aN)) (cN 3) cYes (e2 eqV (e2 subV (e2 mulV' (e2 ixV (e2 ixV (eV 0) (e2 addV (eV 3) (eC (.int 1)))) (eC (.int 0))) (e2 ixV (e2 ixV (eV 0) (eV 3)) (eC (.int 1)))) (e2 mulV' (e2 ixV (e2 ixV (eV 0) (eV 3)) (eC (.int 0))) (e2 ixV (e2 ixV (eV 0) (e2 addV (eV 3) (eC (.int 1)))) (eC (.int 1))))) (eC (.int 1)))) aN))))
def m_is_chain : FD := runD 4 1 b_is_chain
theorem w_is_chain (T : Txt K mg) : FnX P w K mg base "is_chain" 1 1 m_is_chain :=
  fnx_of (N := ["rows", "p", "q", "at"]) (ps := ["rows"]) (k := 0) (g := b_is_chain) T.d_is_chain sc_is_chain (fun _ _ _ _ _ _ us hl => match us, hl with | [_], _ => rfl) fun cdv f A outer s H E ms G0 hr => by
    have hu := hr.units
    exact (pssd_cons (psd_if (PWd.pt (pwd_or (ptd_cmp (opd_eq hu) (ped_callB crd_len (by rfl) T.b_len PySem.boot_len (pad_cons (ped_v 0) pad_nil)) ped_int) (pwd_or1 (ptd_not (ptd_truth (ped_callB (crd_all rfl) (by rfl) T.b_all boot_all (pad_cons (ped_of (pfd_lc ([("p", 1), ("q", 2)] : List (Str × Nat)) rfl sc_is_chain.nd (pid_seq (ped_v 0)) (blkOk_by (N := ["rows", "p", "q", "at"]) (sc := defScope s_is_chain) (by decide +kernel)) (tge_tup (tges_cons (tge_name 1 (by decide)) (tges_cons (tge_name 2 (by decide)) tges_nil)) (csC_len (csC_len cs0_len))) (fun _ _ _ _ _ => (pg_tup rfl (pgs_cons (pg_name (i := 1) sc_is_chain.nd rfl (Or.inl rfl)) (pgs_cons (pg_name (i := 2) sc_is_chain.nd rfl (Or.inl rfl)) pgs_nil)))) (fun _ _ _ _ _ => ptd_nil) (fun _ _ _ _ _ => (ped_and (ped_cmp opd_ge (ped_v 1) ped_int) (ped_and (ped_cmp opd_ge (ped_v 2) ped_int) (ped_one (ped_cmp (opd_eq hu) (ped_callBf crd_gcd (by rfl) T.g_gcd (pad_cons (ped_v 1) (pad_cons (ped_v 2) pad_nil))) ped_int))))))) pad_nil))))))) (pssd_one (psd_ret ped_bl)) pssd_nil)
      (pssd_one (psd_ret (ped_callB (crd_all rfl) (by rfl) T.b_all boot_all (pad_cons (ped_of (pfd_lc ([("at", 3)] : List (Str × Nat)) rfl sc_is_chain.nd (pid_range1 T.b_range (pad_cons (ped_op opd_sub (ped_callB crd_len (by rfl) T.b_len PySem.boot_len (pad_cons (ped_v 0) pad_nil)) ped_int) pad_nil)) (blkOk_by (N := ["rows", "p", "q", "at"]) (sc := defScope s_is_chain) (by decide +kernel)) (tge_name 3 (by decide)) (fun _ _ _ _ _ => (pg_name (i := 3) sc_is_chain.nd rfl (Or.inl rfl))) (fun _ _ _ _ _ => ptd_nil) (fun _ _ _ _ _ => (ped_cmp (opd_eq hu) (ped_op opd_sub (ped_op opd_mul' (ped_ix ixd (ped_ix ixd (ped_v 0) (ped_op opd_add (ped_v 3) ped_int)) ped_int) (ped_ix ixd (ped_ix ixd (ped_v 0) (ped_v 3)) ped_int)) (ped_op opd_mul' (ped_ix ixd (ped_ix ixd (ped_v 0) (ped_v 3)) ped_int) (ped_ix ixd (ped_ix ixd (ped_v 0) (ped_op opd_add (ped_v 3) ped_int)) ped_int))) ped_int)))) pad_nil)))))
theorem sc__law_pick : FnScope ["state", "row"] ["state", "row"] (defScope s__law_pick) := ⟨rfl, rfl, rfl, by decide +kernel, rfl, by decide +kernel, by decide +kernel⟩
def b__law_pick : SDn :=
    (sRet (e2 ixV (eV 1) (eCall m_draw (aC (eV 0) (aC (eN lenV (aC (eV 1) aN)) aN)))))
def m__law_pick : FD := runD 2 2 b__law_pick
theorem w__law_pick (T : Txt K mg) : FnX P w K mg base "_law_pick" 2 2 m__law_pick :=
  fnx_of (N := ["state", "row"]) (ps := ["state", "row"]) (k := 1) (g := b__law_pick) T.d__law_pick sc__law_pick (fun _ _ _ _ _ _ us hl => match us, hl with | [_, _], _ => rfl) fun cdv f A outer s H E ms G0 hr => by
    have hu := hr.units
    exact (pssd_one (psd_ret (ped_ix ixd (ped_v 1) (ped_call (w__law_draw T) (hr.mono (by decide)) (pad_cons (ped_v 0) (pad_cons (ped_callB crd_len (by rfl) T.b_len PySem.boot_len (pad_cons (ped_v 1) pad_nil)) pad_nil))))))
theorem sc__law_eq : FnScope ["told", "due", "k"] ["told", "due"] (defScope s__law_eq) := ⟨rfl, rfl, rfl, by decide +kernel, rfl, by decide +kernel, by decide +kernel⟩
def b__law_eq (rec : FD) : SDn :=
    (sSeq (sIf (tOr (tTru (e1 (isiV "list") (eV 1))) (tTru (e1 (isiV "tuple") (eV 1)))) (sSeq (sIf (tOr (tOf (e2 neV (e1 (isiV "list") (eV 0)) (e1 (isiV "list") (eV 1)))) (tOf (e2 neV (e1 (isiV "tuple") (eV 0)) (e1 (isiV "tuple") (eV 1))))) (sRet (eC (.bl false))) sNop)
    (sSeq (sIf (tOf (e2 neV (eN lenV (aC (eV 0) aN)) (eN lenV (aC (eV 1) aN)))) (sRet (eC (.bl false))) sNop)
    (sRet (e2 eqV (eLc (([("k", 2)] : List (Str × Nat)).map (·.2)) (aRg1 (aC (eN lenV (aC (eV 1) aN)) aN)) (cN 2) (tNot (tTru (eCall rec (aC (e2 ixV (eV 0) (eV 2)) (aC (e2 ixV (eV 1) (eV 2)) aN))))) (eV 2)) (eN mkL aN))))) sNop)
    (sSeq (sIf (tOf (e2 isNV (eV 1) (eC .non))) (sRet (e2 isNV (eV 0) (eC .non))) sNop)
    (sSeq (sIf (tTru (e1 (isiV "str") (eV 1))) (sRet (eAnd (e1 (isiV "str") (eV 0)) (e2 eqV (eV 0) (eV 1)))) sNop)
    (sSeq (sIf (tTru (e1 (isiV "bool") (eV 1))) (sRet (eAnd (e1 (isiV "bool") (eV 0)) (e2 eqV (eV 0) (eV 1)))) sNop)
    (sRet (eAnd (e1 (isiV "int") (eV 0)) (eAnd (eNot (e1 (isiV "bool") (eV 0))) (e2 eqV (eV 0) (eV 1)))))))))
def m__law_eq : Nat → FD
  | 0 => fun _ _ => none
  | k + 1 => runD 3 2 (b__law_eq (m__law_eq k))
theorem w__law_eq (T : Txt K mg) : ∀ k : Nat, FnX P w K mg base "_law_eq" (1 + k) 2 (m__law_eq k)
  | 0 => fnx_zero (ps := ["told", "due"]) T.d__law_eq (fun _ _ _ _ _ _ us hl => match us, hl with | [_, _], _ => rfl)
  | k + 1 => fnx_of (N := ["told", "due", "k"]) (ps := ["told", "due"]) (k := 1 + k) (g := b__law_eq (m__law_eq k)) T.d__law_eq sc__law_eq (fun _ _ _ _ _ _ us hl => match us, hl with | [_, _], _ => rfl) fun cdv f A outer s H E ms G0 hr => by
    have hu := hr.units
    have hrec : FnX P w K mg base "_law_eq" (1 + k) 2 (m__law_eq k) := w__law_eq T k
    exact (pssd_cons (psd_if (PWd.pt (pwd_or (ptd_truth (ped_isi T.b_isinstance T.b_list boot_list (ped_v 1))) (pwd_or1 (ptd_truth (ped_isi T.b_isinstance T.b_tuple boot_tuple (ped_v 1)))))) (pssd_cons (psd_if (PWd.pt (pwd_or (ptd_cmp (opd_ne hu) (ped_isi T.b_isinstance T.b_list boot_list (ped_v 0)) (ped_isi T.b_isinstance T.b_list boot_list (ped_v 1))) (pwd_or1 (ptd_cmp (opd_ne hu) (ped_isi T.b_isinstance T.b_tuple boot_tuple (ped_v 0)) (ped_isi T.b_isinstance T.b_tuple boot_tuple (ped_v 1)))))) (pssd_one (psd_ret ped_bl)) pssd_nil)
      (pssd_cons (psd_if (ptd_cmp (opd_ne hu) (ped_callB crd_len (by rfl) T.b_len PySem.boot_len (pad_cons (ped_v 0) pad_nil)) (ped_callB crd_len (by rfl) T.b_len PySem.boot_len (pad_cons (ped_v 1) pad_nil))) (pssd_one (psd_ret ped_bl)) pssd_nil)
      (pssd_one (psd_ret (ped_cmp (opd_eq hu) (ped_of (pfd_lc ([("k", 2)] : List (Str × Nat)) rfl sc__law_eq.nd (pid_range1 T.b_range (pad_cons (ped_callB crd_len (by rfl) T.b_len PySem.boot_len (pad_cons (ped_v 1) pad_nil)) pad_nil)) (blkOk_by (N := ["told", "due", "k"]) (sc := defScope s__law_eq) (by decide +kernel)) (tge_name 2 (by decide)) (fun _ _ _ _ _ => (pg_name (i := 2) sc__law_eq.nd rfl (Or.inl rfl))) (fun _ _ _ _ _ => (ptd_one (ptd_not (ptd_truth (ped_call hrec (hr.mono (by omega)) (pad_cons (ped_ix ixd (ped_v 0) (ped_v 2)) (pad_cons (ped_ix ixd (ped_v 1) (ped_v 2)) pad_nil))))))) (fun _ _ _ _ _ => (ped_v 2)))) (ped_of (pfd_lst pad_nil))))))) pssd_nil)
      (pssd_cons (psd_if (ptd_cmp opd_isN (ped_v 1) ped_non) (pssd_one (psd_ret (ped_cmp opd_isN (ped_v 0) ped_non))) pssd_nil)
      (pssd_cons (psd_if (ptd_truth (ped_isi T.b_isinstance T.b_str boot_str (ped_v 1))) (pssd_one (psd_ret (ped_and (ped_isi T.b_isinstance T.b_str boot_str (ped_v 0)) (ped_one (ped_cmp (opd_eq hu) (ped_v 0) (ped_v 1)))))) pssd_nil)
      (pssd_cons (psd_if (ptd_truth (ped_isi T.b_isinstance T.b_bool boot_bool (ped_v 1))) (pssd_one (psd_ret (ped_and (ped_isi T.b_isinstance T.b_bool boot_bool (ped_v 0)) (ped_one (ped_cmp (opd_eq hu) (ped_v 0) (ped_v 1)))))) pssd_nil)
      (pssd_one (psd_ret (ped_and (ped_isi T.b_isinstance T.b_int boot_int (ped_v 0)) (ped_and (ped_not (ped_isi T.b_isinstance T.b_bool boot_bool (ped_v 0))) (ped_one (ped_cmp (opd_eq hu) (ped_v 0) (ped_v 1)))))))))))
theorem sc__law_gcd : FnScope ["a", "b"] ["a", "b"] (defScope s__law_gcd) := ⟨rfl, rfl, rfl, by decide +kernel, rfl, by decide +kernel, by decide +kernel⟩
def L1__law_gcd : SDn :=
    (sPar 0 1 (aC (eV 1) (aC (e2 modV (eN intV (aC (eV 0) aN)) (eV 1)) aN)))
def b__law_gcd : SDn :=
    (sSeq (whileD (tOf (e2 gtV (eV 1) (eC (.int 0)))) L1__law_gcd 1000000)
    (sRet (eV 0)))
def m__law_gcd : FD := runD 2 2 b__law_gcd
theorem w__law_gcd (T : Txt K mg) : FnX P w K mg base "_law_gcd" 1 2 m__law_gcd :=
  fnx_of (N := ["a", "b"]) (ps := ["a", "b"]) (k := 0) (g := b__law_gcd) T.d__law_gcd sc__law_gcd (fun _ _ _ _ _ _ us hl => match us, hl with | [_, _], _ => rfl) fun cdv f A outer s H E ms G0 hr => by
    have hu := hr.units
    exact (pssd_cons (psd_while 1000000 PassesOwn.never (ptd_cmp opd_gt (ped_v 1) ped_int) (pssd_one (psd_par (i := 0) (j := 1) rfl sc__law_gcd.nd (pad_cons (ped_v 1) (pad_cons (ped_op opd_mod (ped_callTy crd_int (by rfl) T.b_int boot_int (pad_cons (ped_v 0) pad_nil)) (ped_v 1)) pad_nil)) (by decide))))
      (pssd_one (psd_ret (ped_v 0))))
theorem sc__law_reduced : FnScope ["p", "q", "both"] ["p", "q"] (defScope s__law_reduced) := ⟨rfl, rfl, rfl, by decide +kernel, rfl, by decide +kernel, by decide +kernel⟩
def b__law_reduced : SDn :=
    (sSeq (sSet 2 (eCall m__law_gcd (aC (eN maxA (aC (eV 0) (aC (eV 1) aN))) (aC (eN minA (aC (eV 0) (aC (eV 1) aN))) aN))))
    (sRet (eN mkT (aC (e2 fdivV (eV 0) (eV 2)) (aC (e2 fdivV (eV 1) (eV 2)) aN)))))
def m__law_reduced : FD := runD 3 2 b__law_reduced
theorem w__law_reduced (T : Txt K mg) : FnX P w K mg base "_law_reduced" 2 2 m__law_reduced :=
  fnx_of (N := ["p", "q", "both"]) (ps := ["p", "q"]) (k := 1) (g := b__law_reduced) T.d__law_reduced sc__law_reduced (fun _ _ _ _ _ _ us hl => match us, hl with | [_, _], _ => rfl) fun cdv f A outer s H E ms G0 hr => by
    have hu := hr.units
    exact (pssd_cons (psd_set (i := 2) sc__law_reduced.nd (ped_call (w__law_gcd T) (hr.mono (by decide)) (pad_cons (ped_callB (crd_maxA rfl) (by rfl) T.b_max boot_max (pad_cons (ped_v 0) (pad_cons (ped_v 1) pad_nil))) (pad_cons (ped_callB (crd_minA rfl) (by rfl) T.b_min boot_min (pad_cons (ped_v 0) (pad_cons (ped_v 1) pad_nil))) pad_nil))))
      (pssd_one (psd_ret (ped_tup (pad_cons (ped_op opd_fdiv (ped_v 0) (ped_v 2)) (pad_cons (ped_op opd_fdiv (ped_v 1) (ped_v 2)) pad_nil))))))
theorem sc__law_lean : FnScope ["one", "other", "told", "p", "q", "fits", "v"] ["one", "other"] (defScope s__law_lean) := ⟨rfl, rfl, rfl, by decide +kernel, rfl, by decide +kernel, by decide +kernel⟩
def L1__law_lean : SDn :=
    (sIf (tAnd (tOf (e2 eqV (e2 modV (eN intV (aC (e2 addV (eC (.int 1)) (e2 mulV' (eV 3) (eV 6))) aN)) (eV 4)) (eC (.int 0)))) (tOf (e2 leV (e2 mulV' (e2 fdivV (e2 addV (eC (.int 1)) (e2 mulV' (eV 3) (eV 6))) (eV 4)) (e2 ixV (eV 1) (eC (.int 1)))) (e2 mulV' (e2 ixV (eV 1) (eC (.int 0))) (eV 6))))) (sApp 5 (eN mkT (aC (e2 fdivV (e2 addV (eC (.int 1)) (e2 mulV' (eV 3) (eV 6))) (eV 4)) (aC (eV 6) aN)))) sNop)
def L2__law_lean : SDn :=
    (sSeq (sAsgTP (gT (gsC (gN 3) (gsC (gN 4) gs0))) (e2 ixV (eV 2) (e1 negV (eC (.int 1)))))
    (sSeq (sSetO 5 (eN mkL aN))
    (sSeq (sFor (gN 6) (aRg2 (aC (eC (.int 1)) (aC (e2 addV (e2 addV (e2 mulV' (eV 4) (e2 ixV (eV 1) (eC (.int 1)))) (e2 ixV (eV 1) (eC (.int 1)))) (eC (.int 2))) aN))) L1__law_lean)
    (sAppP 2 (e2 ixV (eV 5) (eC (.int 0)))))))
def b__law_lean : SDn :=
    (sSeq (sSetO 2 (eN mkL (aC (eV 0) aN)))
    (sSeq (whileD (tOf (e2 neV (e2 ixV (eV 2) (e1 negV (eC (.int 1)))) (eV 1))) L2__law_lean 1000000)
    (sFrz 2 (sRet (eV 2)))))
def m__law_lean : FD := runD 7 2 b__law_lean
theorem w__law_lean (T : Txt K mg) : FnX P w K mg base "_law_lean" 1 2 m__law_lean :=
  fnx_of (N := ["one", "other", "told", "p", "q", "fits", "v"]) (ps := ["one", "other"]) (k := 0) (g := b__law_lean) T.d__law_lean sc__law_lean (fun _ _ _ _ _ _ us hl => match us, hl with | [_, _], _ => rfl) fun cdv f A outer s H E ms G0 hr => by
    have hu := hr.units
    exact (pssd_cons (psd_setO (i := 2) sc__law_lean.nd (pfd_lst (pad_cons (ped_v 0) pad_nil)))
      (pssd_cons (psd_while 1000000 PassesOwn.never (ptd_cmp (opd_ne hu) (ped_ix ixd (ped_v 2) (ped_un und_neg ped_int)) (ped_v 1)) (pssd_cons (psd_asgTP (ped_ix ixd (ped_v 2) (ped_un und_neg ped_int)) (pgd_tup rfl (pgsd_cons (pgd_name 3 sc__law_lean.nd) (pgsd_cons (pgd_name 4 sc__law_lean.nd) pgsd_nil)) (gsC_len (gsC_len gs0_len))))
      (pssd_cons (psd_setO (i := 5) sc__law_lean.nd (pfd_lst pad_nil))
      (pssd_cons (psd_for PassesOwn.never rfl (pid_range2 T.b_range (pad_cons ped_int (pad_cons (ped_op opd_add (ped_op opd_add (ped_op opd_mul' (ped_v 4) (ped_ix ixd (ped_v 1) ped_int)) (ped_ix ixd (ped_v 1) ped_int)) ped_int) pad_nil))) (pgd_name 6 sc__law_lean.nd) (pssd_one (psd_if (PWd.pt (pwd_and (ptd_cmp (opd_eq hu) (ped_op opd_mod (ped_callTy crd_int (by rfl) T.b_int boot_int (pad_cons (ped_op opd_add ped_int (ped_op opd_mul' (ped_v 3) (ped_v 6))) pad_nil)) (ped_v 4)) ped_int) (pwd_and1 (ptd_cmp opd_le (ped_op opd_mul' (ped_op opd_fdiv (ped_op opd_add ped_int (ped_op opd_mul' (ped_v 3) (ped_v 6))) (ped_v 4)) (ped_ix ixd (ped_v 1) ped_int)) (ped_op opd_mul' (ped_ix ixd (ped_v 1) ped_int) (ped_v 6)))))) (pssd_one (psd_app 5 (ped_tup (pad_cons (ped_op opd_fdiv (ped_op opd_add ped_int (ped_op opd_mul' (ped_v 3) (ped_v 6))) (ped_v 4)) (pad_cons (ped_v 6) pad_nil))))) pssd_nil)))
      (pssd_one (psd_appP 2 (ped_ix ixd (ped_v 5) ped_int)))))))
      (pssd_one (psd_frz 2 (psd_ret (ped_v 2))))))
theorem sc__law_is_chain : FnScope ["rows", "p", "q", "k"] ["rows"] (defScope s__law_is_chain) := ⟨rfl, rfl, rfl, by decide +kernel, rfl, by decide +kernel, by decide +kernel⟩
def b__law_is_chain : SDn :=
    (sSeq (sIf (tOr (tOf (e2 eqV (eV 0) (eN mkL aN))) (tOf (e2 neV (eLc (([("p", 1), ("q", 2)] : List (Str × Nat)).map (·.2)) (aSeqA (eV 0)) (cT (csC (cN 1) (csC (cN 2) cs0))) (tOr (tOf (e2 ltV (eV 1) (eC (.int 1)))) (tOr (tOf (e2 ltV (eV 2) (eC (.int 1)))) (tOf (e2 neV (eCall m__law_gcd (aC (eN maxA (aC (eV 1) (aC (eV 2) aN))) (aC (eN minA (aC (eV 1) (aC (eV 2) aN))) aN))) (eC (.int 1)))))) (eC (.int 1))) (eN mkL aN)))) (sRet (eC (.bl false))) sNop)
    (sRet (e2 eqV (eLc (([("k", 3)] : List (Str × Nat)).map (·.2)) (aRg1 (aC (e2 subV (eN lenV (aC (eV 0) aN)) (eC (.int 1))) aN)) (cN 3) (tOf (e2 neV (e2 subV (e2 mulV' (e2 ixV (e2 ixV (eV 0) (e2 addV (eV 3) (eC (.int 1)))) (eC (.int 0))) (e2 ixV (e2 ixV (eV 0) (eV 3)) (eC (.int 1)))) (e2 mulV' (e2 ixV (e2 ixV (eV 0) (eV 3)) (eC (.int 0))) (e2 ixV (e2 ixV (eV 0) (e2 addV (eV 3) (eC (.int 1)))) (eC (.int 1))))) (eC (.int 1)))) (eV 3)) (eN mkL aN))))
def m__law_is_chain : FD := runD 4 1 b__law_is_chain
theorem w__law_is_chain (T : Txt K mg) : FnX P w K mg base "_law_is_chain" 2 1 m__law_is_chain :=
  fnx_of (N := ["rows", "p", "q", "k"]) (ps := ["rows"]) (k := 1) (g := b__law_is_chain) T.d__law_is_chain sc__law_is_chain (fun _ _ _ _ _ _ us hl => match us, hl with | [_], _ => rfl) fun cdv f A outer s H E ms G0 hr => by
    have hu := hr.units
    exact (pssd_cons (psd_if (PWd.pt (pwd_or (ptd_cmp (opd_eq hu) (ped_v 0) (ped_of (pfd_lst pad_nil))) (pwd_or1 (ptd_cmp (opd_ne hu) (ped_of (pfd_lc ([("p", 1), ("q", 2)] : List (Str × Nat)) rfl sc__law_is_chain.nd (pid_seq (ped_v 0)) (blkOk_by (N := ["rows", "p", "q", "k"]) (sc := defScope s__law_is_chain) (by decide +kernel)) (tge_tup (tges_cons (tge_name 1 (by decide)) (tges_cons (tge_name 2 (by decide)) tges_nil)) (csC_len (csC_len cs0_len))) (fun _ _ _ _ _ => (pg_tup rfl (pgs_cons (pg_name (i := 1) sc__law_is_chain.nd rfl (Or.inl rfl)) (pgs_cons (pg_name (i := 2) sc__law_is_chain.nd rfl (Or.inl rfl)) pgs_nil)))) (fun _ _ _ _ _ => (ptd_one (PWd.pt (pwd_or (ptd_cmp opd_lt (ped_v 1) ped_int) (pwd_or (ptd_cmp opd_lt (ped_v 2) ped_int) (pwd_or1 (ptd_cmp (opd_ne hu) (ped_call (w__law_gcd T) (hr.mono (by decide)) (pad_cons (ped_callB (crd_maxA rfl) (by rfl) T.b_max boot_max (pad_cons (ped_v 1) (pad_cons (ped_v 2) pad_nil))) (pad_cons (ped_callB (crd_minA rfl) (by rfl) T.b_min boot_min (pad_cons (ped_v 1) (pad_cons (ped_v 2) pad_nil))) pad_nil))) ped_int))))))) (fun _ _ _ _ _ => ped_int))) (ped_of (pfd_lst pad_nil)))))) (pssd_one (psd_ret ped_bl)) pssd_nil)
      (pssd_one (psd_ret (ped_cmp (opd_eq hu) (ped_of (pfd_lc ([("k", 3)] : List (Str × Nat)) rfl sc__law_is_chain.nd (pid_range1 T.b_range (pad_cons (ped_op opd_sub (ped_callB crd_len (by rfl) T.b_len PySem.boot_len (pad_cons (ped_v 0) pad_nil)) ped_int) pad_nil)) (blkOk_by (N := ["rows", "p", "q", "k"]) (sc := defScope s__law_is_chain) (by decide +kernel)) (tge_name 3 (by decide)) (fun _ _ _ _ _ => (pg_name (i := 3) sc__law_is_chain.nd rfl (Or.inl rfl))) (fun _ _ _ _ _ => (ptd_one (ptd_cmp (opd_ne hu) (ped_op opd_sub (ped_op opd_mul' (ped_ix ixd (ped_ix ixd (ped_v 0) (ped_op opd_add (ped_v 3) ped_int)) ped_int) (ped_ix ixd (ped_ix ixd (ped_v 0) (ped_v 3)) ped_int)) (ped_op opd_mul' (ped_ix ixd (ped_ix ixd (ped_v 0) (ped_v 3)) ped_int) (ped_ix ixd (ped_ix ixd (ped_v 0) (ped_op opd_add (ped_v 3) ped_int)) ped_int))) ped_int))) (fun _ _ _ _ _ => (ped_v 3)))) (ped_of (pfd_lst pad_nil))))))
theorem sc_law : FnScope ["script", "state", "turn", "top", "p", "q", "r", "s", "k", "one", "other", "due", "told", "middle", "wider", "again", "at", "wrong", "bent"] ["script"] (defScope s_law) := ⟨rfl, rfl, rfl, by decide +kernel, rfl, by decide +kernel, by decide +kernel⟩
def L1_law : SDn :=
    (sIf (tOf (e2 eqV (e2 ixV (eV 11) (eV 8)) (eN mkT (aC (e2 addV (e2 ixV (e2 ixV (eV 11) (e2 subV (eV 8) (eC (.int 1)))) (eC (.int 0))) (e2 ixV (e2 ixV (eV 11) (e2 addV (eV 8) (eC (.int 1)))) (eC (.int 0)))) (aC (e2 addV (e2 ixV (e2 ixV (eV 11) (e2 subV (eV 8) (eC (.int 1)))) (eC (.int 1))) (e2 ixV (e2 ixV (eV 11) (e2 addV (eV 8) (eC (.int 1)))) (eC (.int 1)))) aN))))) (sRet (eC (.bl false))) sNop)
def L2_law : SDn :=
    (sSeq (sSet 16 (eCall m_draw (aC (eV 1) (aC (eN lenV (aC (eV 14) aN)) aN))))
    (sSeq (sSet 17 (eCall m__law_pick (aC (eV 1) (aC (eN mkL (aC (eN mkT (aC (e2 addV (e2 ixV (e2 ixV (eV 14) (eV 16)) (eC (.int 0))) (eC (.int 1))) (aC (e2 ixV (e2 ixV (eV 14) (eV 16)) (eC (.int 1))) aN))) (aC (eN mkT (aC (e2 ixV (e2 ixV (eV 14) (eV 16)) (eC (.int 1))) (aC (e2 ixV (e2 ixV (eV 14) (eV 16)) (eC (.int 0))) aN))) (aC (eN mkT (aC (e2 mulV' (eC (.int 2)) (e2 ixV (e2 ixV (eV 14) (eV 16)) (eC (.int 0)))) (aC (e2 mulV' (eC (.int 2)) (e2 ixV (e2 ixV (eV 14) (eV 16)) (eC (.int 1)))) aN))) (aC (eN mkT (aC (eC (.int 0)) (aC (eC (.int 1)) aN))) (aC (eN mkT (aC (eC (.int 1)) (aC (eC (.int 0)) aN))) aN)))))) aN))))
    (sSeq (sSet 18 (eCall m__law_pick (aC (eV 1) (aC (eN mkL (aC (eV 14) (aC (eV 11) (aC (e1 revL (eV 14)) (aC (e2 addV (e2 addV (e3 slV (eV 14) oN (oS (eV 16))) (eN mkL (aC (eV 17) aN))) (e3 slV (eV 14) (oS (e2 addV (eV 16) (eC (.int 1)))) oN)) (aC (e2 addV (e3 slV (eV 14) oN (oS (eV 16))) (e3 slV (eV 14) (oS (e2 addV (eV 16) (eC (.int 1)))) oN)) (aC (eN mkL (aC (e2 ixV (eV 14) (eV 16)) aN)) (aC (eN mkL aN) aN)))))))) aN))))
    (sIf (tNot (tTru (eCall (m__law_eq 6) (aC (eCall m_is_chain (aC (eN listV (aC (eV 18) aN)) aN)) (aC (eCall m__law_is_chain (aC (eV 18) aN)) aN))))) (sRet (eC (.bl false))) sNop))))
def L3_law : SDn :=
    (sSeq (sSet 3 (eCall m__law_pick (aC (eV 1) (aC (eN mkL (aC (eC (.int 6)) (aC (eC (.int 20)) (aC (eC (.int 60)) aN)))) aN))))
    (sSeq (sAsgT (gTL (gsC (gN 4) (gsC (gN 5) (gsC (gN 6) (gsC (gN 7) gs0))))) (eLc (([("k", 8)] : List (Str × Nat)).map (·.2)) (aRg1 (aC (eC (.int 4)) aN)) (cN 8) cYes (e2 addV (eC (.int 1)) (eCall m_draw (aC (eV 1) (aC (eV 3) aN))))))
    (sSeq (sPar 9 10 (aC (eCall m__law_reduced (aC (eV 4) (aC (eV 5) aN))) (aC (eCall m__law_reduced (aC (eV 6) (aC (eV 7) aN))) aN)))
    (sSeq (sIf (tOf (e2 gtV (e2 mulV' (e2 ixV (eV 9) (eC (.int 0))) (e2 ixV (eV 10) (eC (.int 1)))) (e2 mulV' (e2 ixV (eV 10) (eC (.int 0))) (e2 ixV (eV 9) (eC (.int 1)))))) (sPar 9 10 (aC (eV 10) (aC (eV 9) aN))) sNop)
    (sIf (tOf (e2 neV (eV 9) (eV 10))) (sSeq (sSet 11 (eCall m__law_lean (aC (eV 9) (aC (eV 10) aN))))
    (sSeq (sSet 12 (eCall m_chain (aC (eV 9) (aC (eV 10) aN))))
    (sSeq (sIf (tOr (tNot (tTru (eCall (m__law_eq 6) (aC (eV 12) (aC (eV 11) aN))))) (tOr (tNot (tTru (eCall m__law_is_chain (aC (eV 11) aN)))) (tOr (tOf (e2 neV (e2 ixV (eV 11) (eC (.int 0))) (eV 9))) (tOf (e2 neV (e2 ixV (eV 11) (e1 negV (eC (.int 1)))) (eV 10)))))) (sRet (eC (.bl false))) sNop)
    (sSeq (sFor (gN 8) (aRg2 (aC (eC (.int 1)) (aC (e2 subV (eN lenV (aC (eV 11) aN)) (eC (.int 1))) aN))) L1_law)
    (sSeq (sSet 8 (eCall m_draw (aC (eV 1) (aC (e2 subV (eN lenV (aC (eV 11) aN)) (eC (.int 1))) aN))))
    (sSeq (sSet 13 (eN mkT (aC (e2 addV (e2 ixV (e2 ixV (eV 11) (eV 8)) (eC (.int 0))) (e2 ixV (e2 ixV (eV 11) (e2 addV (eV 8) (eC (.int 1)))) (eC (.int 0)))) (aC (e2 addV (e2 ixV (e2 ixV (eV 11) (eV 8)) (eC (.int 1))) (e2 ixV (e2 ixV (eV 11) (e2 addV (eV 8) (eC (.int 1)))) (eC (.int 1)))) aN))))
    (sSeq (sSet 14 (e2 addV (e2 addV (e3 slV (eV 11) oN (oS (e2 addV (eV 8) (eC (.int 1))))) (eN mkL (aC (eV 13) aN))) (e3 slV (eV 11) (oS (e2 addV (eV 8) (eC (.int 1)))) oN)))
    (sFor (gN 15) (aRg1 (aC (eC (.int 5)) aN)) L2_law)))))))) sNop)))))
def b_law : SDn :=
    (sSeq (sFor (gN 2) (aRg1 (aC (eC (.int 4)) aN)) L3_law)
    (sRet (eCall (m__law_eq 6) (aC (eCall m_chain (aC (eN mkT (aC (eC (.int 3)) (aC (eC (.int 2)) aN))) (aC (eN mkT (aC (eC (.int 3)) (aC (eC (.int 2)) aN))) aN))) (aC (eN mkL (aC (eN mkT (aC (eC (.int 3)) (aC (eC (.int 2)) aN))) aN)) aN)))))
def PureLaw : Prop := ∀ (ps pc : Addr) (cells : List Int) (seed : Int), ps ≠ pc → ∃ dr', b_law (Sl.no :: Sl.fr (.tok ps) :: List.replicate 17 Sl.no) (drS ps pc cells seed) = some (.rt (.bl true), dr')
theorem w_law (T : Txt K mg) (hp : PureLaw) {f : Addr} {fd : FuncData} (F : Fun K "law" "law" s_law f fd) : FnOk P w K mg base CX0 8 f fd ["script"] (spLaw K) := by
  obtain ⟨fs, fds, GS, hms, hks, hbs⟩ := f__law_state (P := P) (w := w) (base := base) T
  refine F.ok sc_law (fun vs H Q E h => ?_) (fun cdv A outer s H vs Q E hr h => ?_)
  · obtain ⟨a, ns, rfl, _⟩ := h
    rfl
  · obtain ⟨a, ns, rfl, hS, hl, kk⟩ := h
    have hu := hr.units
    refine ⟨_, pss_cons (ps_set (i := 1) sc_law.nd rfl (by first | exact Or.inl rfl | exact Or.inr rfl) (pe_call GS (hr.mono (by decide)) (by rfl) hms hks hbs .nil pass0 (pa_cons (pv 0) pa_nil))) (pss_ex fun ms G0 H => (pssd_cons (psd_for PassesOwn.never rfl (pid_range1 T.b_range (pad_cons ped_int pad_nil)) (pgd_name 2 sc_law.nd) (pssd_cons (psd_set (i := 3) sc_law.nd (ped_call (w__law_pick T) (hr.mono (by decide)) (pad_cons (ped_v 1) (pad_cons (ped_of (pfd_lst (pad_cons ped_int (pad_cons ped_int (pad_cons ped_int pad_nil))))) pad_nil))))
      (pssd_cons (psd_asgT (ped_of (pfd_lc ([("k", 8)] : List (Str × Nat)) rfl sc_law.nd (pid_range1 T.b_range (pad_cons ped_int pad_nil)) (blkOk_by (N := ["script", "state", "turn", "top", "p", "q", "r", "s", "k", "one", "other", "due", "told", "middle", "wider", "again", "at", "wrong", "bent"]) (sc := defScope s_law) (by decide +kernel)) (tge_name 8 (by decide)) (fun _ _ _ _ _ => (pg_name (i := 8) sc_law.nd rfl (Or.inl rfl))) (fun _ _ _ _ _ => ptd_nil) (fun _ _ _ _ _ => (ped_op opd_add ped_int (ped_call (w__law_draw T) (hr.mono (by decide)) (pad_cons (ped_v 1) (pad_cons (ped_v 3) pad_nil))))))) (pgd_tupL rfl (pgsd_cons (pgd_name 4 sc_law.nd) (pgsd_cons (pgd_name 5 sc_law.nd) (pgsd_cons (pgd_name 6 sc_law.nd) (pgsd_cons (pgd_name 7 sc_law.nd) pgsd_nil)))) (gsC_len (gsC_len (gsC_len (gsC_len gs0_len))))))
      (pssd_cons (psd_par (i := 9) (j := 10) rfl sc_law.nd (pad_cons (ped_call (w__law_reduced T) (hr.mono (by decide)) (pad_cons (ped_v 4) (pad_cons (ped_v 5) pad_nil))) (pad_cons (ped_call (w__law_reduced T) (hr.mono (by decide)) (pad_cons (ped_v 6) (pad_cons (ped_v 7) pad_nil))) pad_nil)) (by decide))
      (pssd_cons (psd_if (ptd_cmp opd_gt (ped_op opd_mul' (ped_ix ixd (ped_v 9) ped_int) (ped_ix ixd (ped_v 10) ped_int)) (ped_op opd_mul' (ped_ix ixd (ped_v 10) ped_int) (ped_ix ixd (ped_v 9) ped_int))) (pssd_one (psd_par (i := 9) (j := 10) rfl sc_law.nd (pad_cons (ped_v 10) (pad_cons (ped_v 9) pad_nil)) (by decide))) pssd_nil)
      (pssd_one (psd_if (ptd_cmp (opd_ne hu) (ped_v 9) (ped_v 10)) (pssd_cons (psd_set (i := 11) sc_law.nd (ped_call (w__law_lean T) (hr.mono (by decide)) (pad_cons (ped_v 9) (pad_cons (ped_v 10) pad_nil))))
      (pssd_cons (psd_set (i := 12) sc_law.nd (ped_call (w_chain T) (hr.mono (by decide)) (pad_cons (ped_v 9) (pad_cons (ped_v 10) pad_nil))))
      (pssd_cons (psd_if (PWd.pt (pwd_or (ptd_not (ptd_truth (ped_call (w__law_eq T 6) (hr.mono (by decide)) (pad_cons (ped_v 12) (pad_cons (ped_v 11) pad_nil))))) (pwd_or (ptd_not (ptd_truth (ped_call (w__law_is_chain T) (hr.mono (by decide)) (pad_cons (ped_v 11) pad_nil)))) (pwd_or (ptd_cmp (opd_ne hu) (ped_ix ixd (ped_v 11) ped_int) (ped_v 9)) (pwd_or1 (ptd_cmp (opd_ne hu) (ped_ix ixd (ped_v 11) (ped_un und_neg ped_int)) (ped_v 10))))))) (pssd_one (psd_ret ped_bl)) pssd_nil)
      (pssd_cons (psd_for PassesOwn.never rfl (pid_range2 T.b_range (pad_cons ped_int (pad_cons (ped_op opd_sub (ped_callB crd_len (by rfl) T.b_len PySem.boot_len (pad_cons (ped_v 11) pad_nil)) ped_int) pad_nil))) (pgd_name 8 sc_law.nd) (pssd_one (psd_if (ptd_cmp (opd_eq hu) (ped_ix ixd (ped_v 11) (ped_v 8)) (ped_tup (pad_cons (ped_op opd_add (ped_ix ixd (ped_ix ixd (ped_v 11) (ped_op opd_sub (ped_v 8) ped_int)) ped_int) (ped_ix ixd (ped_ix ixd (ped_v 11) (ped_op opd_add (ped_v 8) ped_int)) ped_int)) (pad_cons (ped_op opd_add (ped_ix ixd (ped_ix ixd (ped_v 11) (ped_op opd_sub (ped_v 8) ped_int)) ped_int) (ped_ix ixd (ped_ix ixd (ped_v 11) (ped_op opd_add (ped_v 8) ped_int)) ped_int)) pad_nil)))) (pssd_one (psd_ret ped_bl)) pssd_nil)))
      (pssd_cons (psd_set (i := 8) sc_law.nd (ped_call (w__law_draw T) (hr.mono (by decide)) (pad_cons (ped_v 1) (pad_cons (ped_op opd_sub (ped_callB crd_len (by rfl) T.b_len PySem.boot_len (pad_cons (ped_v 11) pad_nil)) ped_int) pad_nil))))
      (pssd_cons (psd_set (i := 13) sc_law.nd (ped_tup (pad_cons (ped_op opd_add (ped_ix ixd (ped_ix ixd (ped_v 11) (ped_v 8)) ped_int) (ped_ix ixd (ped_ix ixd (ped_v 11) (ped_op opd_add (ped_v 8) ped_int)) ped_int)) (pad_cons (ped_op opd_add (ped_ix ixd (ped_ix ixd (ped_v 11) (ped_v 8)) ped_int) (ped_ix ixd (ped_ix ixd (ped_v 11) (ped_op opd_add (ped_v 8) ped_int)) ped_int)) pad_nil))))
      (pssd_cons (psd_set (i := 14) sc_law.nd (ped_op opd_add (ped_op opd_add (ped_slice (ped_v 11) pod_none (pod_some (ped_op opd_add (ped_v 8) ped_int))) (ped_of (pfd_lst (pad_cons (ped_v 13) pad_nil)))) (ped_slice (ped_v 11) (pod_some (ped_op opd_add (ped_v 8) ped_int)) pod_none)))
      (pssd_one (psd_for PassesOwn.never rfl (pid_range1 T.b_range (pad_cons ped_int pad_nil)) (pgd_name 15 sc_law.nd) (pssd_cons (psd_set (i := 16) sc_law.nd (ped_call (w__law_draw T) (hr.mono (by decide)) (pad_cons (ped_v 1) (pad_cons (ped_callB crd_len (by rfl) T.b_len PySem.boot_len (pad_cons (ped_v 14) pad_nil)) pad_nil))))
      (pssd_cons (psd_set (i := 17) sc_law.nd (ped_call (w__law_pick T) (hr.mono (by decide)) (pad_cons (ped_v 1) (pad_cons (ped_of (pfd_lst (pad_cons (ped_tup (pad_cons (ped_op opd_add (ped_ix ixd (ped_ix ixd (ped_v 14) (ped_v 16)) ped_int) ped_int) (pad_cons (ped_ix ixd (ped_ix ixd (ped_v 14) (ped_v 16)) ped_int) pad_nil))) (pad_cons (ped_tup (pad_cons (ped_ix ixd (ped_ix ixd (ped_v 14) (ped_v 16)) ped_int) (pad_cons (ped_ix ixd (ped_ix ixd (ped_v 14) (ped_v 16)) ped_int) pad_nil))) (pad_cons (ped_tup (pad_cons (ped_op opd_mul' ped_int (ped_ix ixd (ped_ix ixd (ped_v 14) (ped_v 16)) ped_int)) (pad_cons (ped_op opd_mul' ped_int (ped_ix ixd (ped_ix ixd (ped_v 14) (ped_v 16)) ped_int)) pad_nil))) (pad_cons (ped_tup (pad_cons ped_int (pad_cons ped_int pad_nil))) (pad_cons (ped_tup (pad_cons ped_int (pad_cons ped_int pad_nil))) pad_nil))))))) pad_nil))))
      (pssd_cons (psd_set (i := 18) sc_law.nd (ped_call (w__law_pick T) (hr.mono (by decide)) (pad_cons (ped_v 1) (pad_cons (ped_of (pfd_lst (pad_cons (ped_v 14) (pad_cons (ped_v 11) (pad_cons (ped_of (pfd_revL (ped_v 14))) (pad_cons (ped_op opd_add (ped_op opd_add (ped_slice (ped_v 14) pod_none (pod_some (ped_v 16))) (ped_of (pfd_lst (pad_cons (ped_v 17) pad_nil)))) (ped_slice (ped_v 14) (pod_some (ped_op opd_add (ped_v 16) ped_int)) pod_none)) (pad_cons (ped_op opd_add (ped_slice (ped_v 14) pod_none (pod_some (ped_v 16))) (ped_slice (ped_v 14) (pod_some (ped_op opd_add (ped_v 16) ped_int)) pod_none)) (pad_cons (ped_of (pfd_lst (pad_cons (ped_ix ixd (ped_v 14) (ped_v 16)) pad_nil))) (pad_cons (ped_of (pfd_lst pad_nil)) pad_nil))))))))) pad_nil))))
      (pssd_one (psd_if (ptd_not (ptd_truth (ped_call (w__law_eq T 6) (hr.mono (by decide)) (pad_cons (ped_call (w_is_chain T) (hr.mono (by decide)) (pad_cons (ped_of (pfd_callTy crf_list (by rfl) T.b_list boot_list (pad_cons (ped_v 18) pad_nil))) pad_nil)) (pad_cons (ped_call (w__law_is_chain T) (hr.mono (by decide)) (pad_cons (ped_v 18) pad_nil)) pad_nil))))) (pssd_one (psd_ret ped_bl)) pssd_nil)))))))))))))) pssd_nil)))))))
      (pssd_one (psd_ret (ped_call (w__law_eq T 6) (hr.mono (by decide)) (pad_cons (ped_call (w_chain T) (hr.mono (by decide)) (pad_cons (ped_tup (pad_cons ped_int (pad_cons ped_int pad_nil))) (pad_cons (ped_tup (pad_cons ped_int (pad_cons ped_int pad_nil))) pad_nil))) (pad_cons (ped_of (pfd_lst (pad_cons (ped_tup (pad_cons ped_int (pad_cons ped_int pad_nil))) pad_nil))) pad_nil))))))), ?_⟩
    refine ⟨_, rfl, a, ns, rfl, hS, hl, fun H1 ps pc seed sm n1 n2 ne e1 e2 => ?_⟩
    exact law_start (N := ["script", "state", "turn", "top", "p", "q", "r", "s", "k", "one", "other", "due", "told", "middle", "wider", "again", "at", "wrong", "bent"]) (a := a) (by decide) ne e1 e2 (hp ps pc _ seed ne) kk rfl
end
end Law

set_option maxRecDepth 100000
set_option maxHeartbeats 4000000
namespace Law
open PySem PySem.Spec PyProof.Rows L2 Dk
theorem next_d (p q r s : Int) (hp : 1 ≤ p) (hq : 1 ≤ q) (hr : 1 ≤ r) (hs : 1 ≤ s) (bp : p ≤ 1000000) (bq : q ≤ 1000000) (br : r ≤ 1000000) (bs : s ≤ 1000000) (hb : s + q ≤ 999990) (hg : Nat.gcd p.toNat q.toNat = 1) (hD : 1 ≤ r * q - p * s) (dr : Dr) :
    ∃ u v, m_next_in_chain [prI (p, q), prI (r, s)] dr = some (prI (u, v), dr) ∧ u * q = 1 + p * v ∧ u * s ≤ r * v ∧ 1 ≤ v ∧ v ≤ s + q ∧ ∀ w, 1 ≤ w → w < v → ¬ GoodV p q r s w := by
  obtain ⟨v0, hv1, hv2, hv3⟩ := goodV_ex hq hs (by omega) hg hD
  have W := while_inv (c := (tOr (tOf (e2 neV (e2 modV (e2 addV (eC (.int 1)) (e2 mulV' (eV 2) (eV 6))) (eV 3)) (eC (.int 0)))) (tOf (e2 gtV (e2 mulV' (e2 fdivV (e2 addV (eC (.int 1)) (e2 mulV' (eV 2) (eV 6))) (eV 3)) (eV 5)) (e2 mulV' (eV 4) (eV 6))))))
    (g := L1_next_in_chain)
    (fun n env dr' => dr' = dr ∧ ∃ v : Int, env = [.fr (prI (p, q)), .fr (prI (r, s)), .fr (.int p), .fr (.int q), .fr (.int r), .fr (.int s), .fr (.int v)] ∧ 1 ≤ v ∧ (v : Int) + n = v0 ∧ ∀ w, 1 ≤ w → w < v → ¬ GoodV p q r s w)
    (fun env dr' => dr' = dr ∧ ∃ v : Int, env = [.fr (prI (p, q)), .fr (prI (r, s)), .fr (.int p), .fr (.int q), .fr (.int r), .fr (.int s), .fr (.int v)] ∧ 1 ≤ v ∧ v ≤ v0 ∧ GoodV p q r s v ∧ ∀ w, 1 ≤ w → w < v → ¬ GoodV p q r s w)
    (by
      rintro n env dr' ⟨rfl, v, rfl, hv, hn, hmin⟩
      have m1 := mulV'_ok (i := p) (j := v) (by omega)
      have m2 := mulV'_okR (i := (1 + p * v).fdiv q) (j := s) (by omega)
      have m3 := mulV'_ok (i := r) (j := v) (by omega)
      have md := modV_ok (i := 1 + p * v) (j := q) (by omega)
      have fd := fdivV_ok (i := 1 + p * v) (j := q) (by omega) (by omega)
      by_cases good : GoodV p q r s v
      · left
        obtain ⟨g1, g2⟩ := (goodB hq).mp good
        have g2' : ¬ (r * v < (1 + p * v).fdiv q * s) := by omega
        refine ⟨?_, rfl, v, rfl, hv, by omega, good, hmin⟩
        simp [m1, m2, m3, md, fd, g1, g2']
      · right
        have hlt : 1 ≤ n := by
          rcases Nat.eq_zero_or_pos n with h | h
          · subst h
            have : v = v0 := by omega
            rw [this] at good
            exact absurd hv3 good
          · exact h
        refine ⟨n - 1, _, dr', by omega, ?_, by unfold L1_next_in_chain; simp, rfl, v + 1, rfl, by omega, by omega, ?_⟩
        · by_cases g1 : (1 + p * v).fmod q = 0
          · have g2 : r * v < (1 + p * v).fdiv q * s := by
              refine Classical.byContradiction fun h => good ((goodB hq).mpr ⟨g1, by omega⟩)
            simp [m1, m2, m3, md, fd, g1, g2]
          · simp [m1, md, g1]
        · intro w w1 w2
          by_cases e : w = v
          · rw [e]; exact good
          · exact hmin w w1 (by omega))
    (v0 - 1) 1000000 [.fr (prI (p, q)), .fr (prI (r, s)), .fr (.int p), .fr (.int q), .fr (.int r), .fr (.int s), .fr (.int 1)] dr (by omega) ⟨rfl, 1, rfl, by omega, by omega, fun w h1 h2 => by omega⟩
  obtain ⟨env', dr', h1, rfl, v, rfl, hv, hv0, good, hmin⟩ := W
  obtain ⟨u, hu, hle⟩ := good
  refine ⟨u, v, ?_, hu, hle, hv, by omega, hmin⟩
  refine runD_of rfl ?_
  unfold b_next_in_chain
  have m1 := mulV'_ok (i := p) (j := v) (by omega)
  have fd := fdivV_ok (i := 1 + p * v) (j := q) (by omega) (by omega)
  have hf : (1 + p * v).fdiv q = u := by
    rw [← hu]
    exact Int.mul_fdiv_cancel u (by omega)
  rw [hf] at fd
  simp only [prI, tupI, List.map_cons, List.map_nil] at h1
  simp [prI, tupI, h1, m1, fd]
def detF (a b : Int × Int) : Int := b.1 * a.2 - a.1 * b.2
def mzF (B : Int) (z w : Int × Int) : Int := if w.1 < z.1 then w.1 + 2 * B + 2 else if w.1 = z.1 then w.2 + B + 1 else B - w.1
def DcF (o : Int × Int) : List (Int × Int) → Prop
  | a :: b :: r => detF b o < detF a o ∧ DcF o (b :: r)
  | _ => True
theorem dc_snoc (o : Int × Int) : ∀ (L : List (Int × Int)) (w z : Int × Int), DcF o (L ++ [w]) → detF z o < detF w o → DcF o (L ++ [w] ++ [z])
  | [], w, z, _, h => ⟨h, trivial⟩
  | [a], w, z, hc, h => ⟨hc.1, h, trivial⟩
  | a :: b :: L, w, z, hc, h => ⟨hc.1, by have := dc_snoc o (b :: L) w z hc.2 h; simpa using this⟩
structure ChS (B : Int) (one other : Int × Int) (L : List (Int × Int)) (w : Int × Int) (n : Nat) : Prop where
  chn : Chn (L ++ [w])
  dc : DcF other (L ++ [w])
  hd : ∃ r, L ++ [w] = one :: r
  bd : ∀ x ∈ L ++ [w], 1 ≤ x.1 ∧ x.1 ≤ B ∧ 1 ≤ x.2 ∧ x.2 ≤ B ∧ 0 ≤ detF one x ∧ 0 ≤ detF x other
  cop : Nat.gcd w.1.toNat w.2.toNat = 1
  len : (L.length : Int) + n ≤ 3 * B + 3
  ms : (L = [] ∧ (n : Int) = 3 * B + 3) ∨ ∃ L' z, L = L' ++ [z] ∧ detF z w = 1 ∧ detF w other < detF z other ∧ (n : Int) = mzF B z w
theorem chs_step {B : Int} {one other : Int × Int} {L : List (Int × Int)} {w : Int × Int} {n : Nat} (hB : B ≤ 1000) (ho : 1 ≤ other.1 ∧ other.1 ≤ B ∧ 1 ≤ other.2 ∧ other.2 ≤ B) (S : ChS B one other L w n)
    (u v : Int) (h1 : u * w.2 = 1 + w.1 * v) (h2 : u * other.2 ≤ other.1 * v) (h3 : 1 ≤ v) (hmin : ∀ x, 1 ≤ x → x < v → ¬ GoodV w.1 w.2 other.1 other.2 x) (hD : 1 ≤ detF w other) :
    ∃ m : Nat, m < n ∧ ChS B one other (L ++ [w]) (u, v) m := by
  obtain ⟨a1, a2, a3, a4, a5, a6⟩ := S.bd w (by simp)
  unfold detF at hD
  have nd := next_det a3 ho.2.2.1 h3 h1 h2 hmin hD
  have pos : 0 ≤ w.1 * v := Int.mul_nonneg (by omega) (by omega)
  have u1 : 1 ≤ u := by
    refine Classical.byContradiction fun h => ?_
    have : u * w.2 ≤ 0 * w.2 := Int.mul_le_mul_of_nonneg_right (by omega) (by omega)
    omega
  have uB : u ≤ B := next_le hD h1 nd.1 nd.2 a2 ho.2.1 (by omega)
  have vB : v ≤ B := next_le2 hD h1 nd.1 nd.2 a4 ho.2.2.2 (by omega)
  have dw : detF w (u, v) = 1 := by unfold detF; show u * w.2 - w.1 * v = 1; omega
  have e0 : 0 ≤ detF one (u, v) := by
    unfold detF at a5 ⊢
    show 0 ≤ u * one.2 - one.1 * v
    obtain ⟨r, hr⟩ := S.hd
    have o2 := (S.bd one (by rw [hr]; simp)).2.2.1
    have q1 : w.2 * (u * one.2 - one.1 * v) = one.2 + v * (w.1 * one.2 - one.1 * w.2) := by grind
    have q2 : 0 ≤ v * (w.1 * one.2 - one.1 * w.2) := Int.mul_nonneg (by omega) a5
    refine Classical.byContradiction fun h => ?_
    have : w.2 * (u * one.2 - one.1 * v) ≤ w.2 * 0 := Int.mul_le_mul_of_nonneg_left (by omega) (by omega)
    omega
  have meas : mzF B w (u, v) + 1 ≤ n ∧ 0 ≤ mzF B w (u, v) := by
    have ch : (u : Int) = w.1 → v < w.2 := fun e => by
      rw [e] at h1
      have q : w.1 * (w.2 - v) = 1 := by grind
      refine Classical.byContradiction fun h => ?_
      have : w.1 * (w.2 - v) ≤ w.1 * 0 := Int.mul_le_mul_of_nonneg_left (by omega) (by omega)
      omega
    rcases S.ms with ⟨_, hn⟩ | ⟨L', z, hL, hz1, hz2, hn⟩
    · rw [hn]
      unfold mzF
      simp only
      split
      · omega
      · split <;> omega
    · have hzb := S.bd z (by rw [hL]; simp)
      unfold detF at hz1 hz2
      have th := three (p0 := z.1) (q0 := z.2) (p := w.1) (q := w.2) (u := u) (v := v) (r := other.1) (s := other.2) hz1 (by omega) hD hz2 nd.1 (by omega)
      rw [hn]
      unfold mzF
      simp only
      by_cases c1 : w.1 < z.1
      · rw [if_pos c1]
        by_cases d1 : u < w.1
        · rw [if_pos d1]; omega
        · rw [if_neg d1]
          split <;> omega
      · rw [if_neg c1]
        by_cases c2 : w.1 = z.1
        · rw [if_pos c2, if_neg (by omega)]
          split
          · rename_i e
            have := ch e
            omega
          · omega
        · rw [if_neg c2, if_neg (by omega), if_neg (by omega)]
          omega
  refine ⟨(mzF B w (u, v)).toNat, by omega, chn_snoc L w (u, v) S.chn dw, dc_snoc other L w (u, v) S.dc (by unfold detF; exact nd.2), ?_, ?_, cop_of (p := w.1) (q := w.2) (by show 0 ≤ u; omega) (by show 0 ≤ v; omega) dw, ?_, .inr ⟨L, w, rfl, dw, by unfold detF; exact nd.2, by omega⟩⟩
  · obtain ⟨r, hr⟩ := S.hd
    exact ⟨r ++ [(u, v)], by rw [hr]; rfl⟩
  · intro x hx
    rcases List.mem_append.mp hx with hx | hx
    · exact S.bd x hx
    · rw [List.mem_singleton.mp hx]
      exact ⟨u1, uB, h3, vB, e0, by unfold detF; exact nd.1⟩
  · have := S.len
    rw [List.length_append, List.length_singleton]
    omega
theorem prI_inj {a b : Int × Int} : prI a = prI b ↔ a = b := by
  unfold prI
  rw [tupI_inj]
  constructor
  · intro h
    simp at h
    exact Prod.ext h.1 h.2
  · rintro rfl; rfl
def NxP (w o z : Int × Int) : Prop := z.1 * w.2 = 1 + w.1 * z.2 ∧ z.1 * o.2 ≤ o.1 * z.2 ∧ 1 ≤ z.2 ∧ ∀ x, 1 ≤ x → x < z.2 → ¬ GoodV w.1 w.2 o.1 o.2 x
open Classical in
noncomputable def nxt (w o : Int × Int) : Int × Int := if h : ∃ z, NxP w o z then Classical.choose h else w
theorem nxt_eq {w o z : Int × Int} (hq : 1 ≤ w.2) (h : NxP w o z) : nxt w o = z := by
  have hx : ∃ z, NxP w o z := ⟨z, h⟩
  have hc : NxP w o (nxt w o) := by
    unfold nxt
    rw [dif_pos hx]
    exact Classical.choose_spec hx
  have e2 : (nxt w o).2 = z.2 := by
    rcases Int.lt_trichotomy (nxt w o).2 z.2 with h1 | h1 | h1
    · exact absurd ⟨_, hc.1, hc.2.1⟩ (h.2.2.2 _ hc.2.2.1 h1)
    · exact h1
    · exact absurd ⟨_, h.1, h.2.1⟩ (hc.2.2.2 _ h.2.2.1 h1)
  have e1 : (nxt w o).1 = z.1 := by
    have : (nxt w o).1 * w.2 = z.1 * w.2 := by rw [hc.1, h.1, e2]
    exact Int.eq_of_mul_eq_mul_right (by omega) this
  exact Prod.ext e1 e2
open Classical in
/-- the chain from w on -/
noncomputable def chF (o : Int × Int) : Nat → Int × Int → List (Int × Int)
  | 0, w => [w]
  | n + 1, w => if w = o then [w] else w :: chF o n (nxt w o)
theorem chF_end (o : Int × Int) : ∀ n, chF o n o = [o]
  | 0 => rfl
  | n + 1 => by unfold chF; rw [if_pos rfl]
theorem chain_d (B : Int) (one other : Int × Int) (hB : B ≤ 1000) (h1 : 1 ≤ one.1 ∧ one.1 ≤ B ∧ 1 ≤ one.2 ∧ one.2 ≤ B) (h2 : 1 ≤ other.1 ∧ other.1 ≤ B ∧ 1 ≤ other.2 ∧ other.2 ≤ B)
    (g1 : Nat.gcd one.1.toNat one.2.toNat = 1) (g2 : Nat.gcd other.1.toNat other.2.toNat = 1) (hD : 0 ≤ detF one other) (dr : Dr) :
    m_chain [prI one, prI other] dr = some (.lst ((chF other (3 * B + 3).toNat one).map prI), dr) ∧ (∃ L, chF other (3 * B + 3).toNat one = L ++ [other] ∧ ∃ n, ChS B one other L other n) := by
  have W := while_inv (c := (tOf (e2 neV (e2 ixV (eV 2) (e1 negV (eC (.int 1)))) (eV 1)))) (g := L1_chain)
    (fun k env dr' => dr' = dr ∧ ∃ L w n, n ≤ k ∧ env = [.fr (prI one), .fr (prI other), .ow (.lst ((L ++ [w]).map prI))] ∧ ChS B one other L w n ∧ L ++ chF other k w = chF other (3 * B + 3).toNat one)
    (fun env dr' => dr' = dr ∧ ∃ L n, env = [.fr (prI one), .fr (prI other), .ow (.lst ((L ++ [other]).map prI))] ∧ ChS B one other L other n ∧ L ++ [other] = chF other (3 * B + 3).toNat one)
    (by
      rintro k env dr' ⟨rfl, L, w, n, hnk, rfl, S, hF⟩
      obtain ⟨a1, a2, a3, a4, a5, a6⟩ := S.bd w (by simp)
      have hl : atI ((L ++ [w]).map prI) (-1) = some (prI w) := by
        rw [List.map_append]; exact atI_last
      have hne : neV (prI w) (prI other) = some (.bl (!decide (w = other))) :=
        neV_ok (k := 1) (l := 1) (by decide) (by decide) (okD_tupI _) (okD_tupI _) prI_inj
      by_cases e : w = other
      · left
        subst e
        rw [chF_end] at hF
        refine ⟨?_, rfl, L, n, rfl, S, hF⟩
        simp [-List.map_append, hl, hne]
      · right
        have hD1 : 1 ≤ detF w other := by
          refine Classical.byContradiction fun h => e ?_
          have h0 : other.1 * w.2 - w.1 * other.2 = 0 := by unfold detF at h a6; omega
          obtain ⟨q1, q2⟩ := low_eq (by omega) a3 (by omega) h2.2.2.1 S.cop g2 h0
          exact Prod.ext q1 q2
        obtain ⟨u, v, n1, n2, n3, n4, n5, n6⟩ := next_d w.1 w.2 other.1 other.2 a1 a3 h2.1 h2.2.2.1 (by omega) (by omega) (by omega) (by omega) (by omega) S.cop hD1 dr'
        have hnx : nxt w other = (u, v) := nxt_eq a3 ⟨n2, n3, n4, n6⟩
        obtain ⟨m, hm, S'⟩ := chs_step hB h2 S u v n2 n3 n4 n6 hD1
        have n1' : m_next_in_chain [prI w, prI other] dr' = some (prI (u, v), dr') := n1
        have hlen : ((L ++ [w]).map prI).length < 16777216 := by
          have := S.len
          rw [List.length_map, List.length_append, List.length_singleton]
          omega
        have hsc : isSc (prI (u, v)) = true := by unfold prI; exact isSc_tupI
        have hk : ∃ k', k = k' + 1 := ⟨k - 1, by omega⟩
        obtain ⟨k', rfl⟩ := hk
        have hF' : (L ++ [w]) ++ chF other k' (u, v) = chF other (3 * B + 3).toNat one := by
          rw [← hF, ← hnx]
          conv => rhs; rw [chF, if_neg e]
          simp
        refine ⟨k', [.fr (prI one), .fr (prI other), .ow (.lst ((L ++ [w]).map prI ++ [prI (u, v)]))], dr', by omega, ?_, ?_, rfl, L ++ [w], (u, v), m, by omega, ?_, S', hF'⟩
        · simp [-List.map_append, hl, hne, e]
        · unfold L1_chain
          simp [-List.map_append, hl, n1', apPF_ok hsc hlen]
        · rw [List.map_append (l₁ := L ++ [w])]; rfl)
    (3 * B + 3).toNat 1000000 [.fr (prI one), .fr (prI other), .ow (.lst [prI one])] dr (by omega)
    ⟨rfl, [], one, (3 * B + 3).toNat, Nat.le_refl _, rfl, ⟨trivial, trivial, ⟨[], rfl⟩, fun x hx => by
      simp at hx; subst hx
      exact ⟨h1.1, h1.2.1, h1.2.2.1, h1.2.2.2, by unfold detF; rw [Int.mul_comm]; omega, hD⟩, g1, by simp; omega, .inl ⟨rfl, by omega⟩⟩, rfl⟩
  obtain ⟨env', dr', w1, rfl, L, n, rfl, S, hF⟩ := W
  refine ⟨?_, L, hF.symm, n, S⟩
  rw [← hF]
  refine runD_of rfl ?_
  unfold b_chain
  simp [-List.map_append, w1]
theorem law_gcd_d (a b : Int) (ha : 0 ≤ a) (hb : 0 ≤ b) (hb2 : b < 1000000) (dr : Dr) : m__law_gcd [.int a, .int b] dr = some (.int ((Nat.gcd a.toNat b.toNat : Nat) : Int), dr) := by
  have W := while_inv (c := (tOf (e2 gtV (eV 1) (eC (.int 0))))) (g := L1__law_gcd)
    (fun n env dr' => dr' = dr ∧ ∃ x y : Int, env = [.fr (.int x), .fr (.int y)] ∧ 0 ≤ x ∧ 0 ≤ y ∧ y = n ∧ Nat.gcd x.toNat y.toNat = Nat.gcd a.toNat b.toNat)
    (fun env dr' => dr' = dr ∧ ∃ y, env = [.fr (.int ((Nat.gcd a.toNat b.toNat : Nat) : Int)), y])
    (by
      rintro n env dr' ⟨rfl, x, y, rfl, hx, hy, hn, hg⟩
      by_cases h : y = 0
      · left
        subst h
        rw [Int.toNat_zero, Nat.gcd_zero_right] at hg
        refine ⟨by simp, rfl, .fr (.int 0), ?_⟩
        rw [← hg, Int.toNat_of_nonneg hx]
      · right
        have hlt : (0 : Int) < y := by omega
        have m1 := Int.fmod_nonneg_of_pos x hlt
        have m2 := Int.fmod_lt_of_pos x hlt
        have md := modV_ok (i := x) (j := y) h
        refine ⟨(x.fmod y).toNat, [.fr (.int y), .fr (.int (x.fmod y))], dr', by omega, by simp [hlt], ?_, rfl, y, x.fmod y, rfl, hy, m1, by omega, ?_⟩
        · unfold L1__law_gcd
          simp [md]
        · rw [← hg, Nat.gcd_comm x.toNat, Nat.gcd_rec y.toNat x.toNat, Nat.gcd_comm]
          congr 1
          have : x.fmod y = x % y := Int.fmod_eq_emod_of_nonneg x (by omega)
          rw [this]
          have : x % y = ((x.toNat % y.toNat : Nat) : Int) := by
            rw [Int.natCast_emod, Int.toNat_of_nonneg hx, Int.toNat_of_nonneg hy]
          rw [this, Int.toNat_natCast])
    b.toNat 1000000 [.fr (.int a), .fr (.int b)] dr (by omega) ⟨rfl, a, b, rfl, ha, hb, by omega, rfl⟩
  obtain ⟨env', dr', h1, rfl, y, rfl⟩ := W
  refine runD_of rfl ?_
  unfold b__law_gcd
  simp [h1]
theorem gcd_maxmin (a b : Int) : Nat.gcd (if b > a then b else a).toNat (if b < a then b else a).toNat = Nat.gcd a.toNat b.toNat := by
  by_cases h : b > a
  · rw [if_pos h, if_neg (by omega), Nat.gcd_comm]
  · rw [if_neg h]
    by_cases h2 : b < a
    · rw [if_pos h2]
    · rw [if_neg h2, show a = b by omega]
/-- what the laws write: the gcd of the greater and the smaller -/
theorem law_gcd2_d (a b : Int) (ha : 0 ≤ a) (hb : 0 ≤ b) (ha2 : a < 1000000) (hb2 : b < 1000000) (dr : Dr) : m__law_gcd [.int (if b > a then b else a), .int (if b < a then b else a)] dr = some (.int ((Nat.gcd a.toNat b.toNat : Nat) : Int), dr) := by
  rw [law_gcd_d _ _ (by split <;> omega) (by split <;> omega) (by split <;> omega), gcd_maxmin]
theorem reduced_d (p q : Int) (hp : 1 ≤ p) (hq : 1 ≤ q) (bp : p < 1000000) (bq : q < 1000000) (dr : Dr) : ∃ w : Int × Int, (∀ dr, m__law_reduced [.int p, .int q] dr = some (prI w, dr)) ∧ 1 ≤ w.1 ∧ w.1 ≤ p ∧ 1 ≤ w.2 ∧ w.2 ≤ q ∧ Nat.gcd w.1.toNat w.2.toNat = 1 := by
  have hg : 0 < Nat.gcd p.toNat q.toNat := Nat.gcd_pos_of_pos_left _ (by omega)
  have hgp : Nat.gcd p.toNat q.toNat ≤ p.toNat := Nat.le_of_dvd (by omega) (Nat.gcd_dvd_left _ _)
  obtain ⟨p', e1⟩ := Nat.gcd_dvd_left p.toNat q.toNat
  obtain ⟨q', e2⟩ := Nat.gcd_dvd_right p.toNat q.toNat
  have cop : Nat.gcd p' q' = 1 := by
    have h := Nat.gcd_mul_left (Nat.gcd p.toNat q.toNat) p' q'
    rw [← e1, ← e2] at h
    have : Nat.gcd p.toNat q.toNat * 1 = Nat.gcd p.toNat q.toNat * Nat.gcd p' q' := by rw [Nat.mul_one]; exact h
    exact (Nat.eq_of_mul_eq_mul_left hg this).symm
  have hgc := law_gcd2_d p q (by omega) (by omega) bp bq
  generalize hG : Nat.gcd p.toNat q.toNat = G at *
  have f1 : p = (G : Int) * (p' : Int) := by
    have : ((p.toNat : Nat) : Int) = ((G * p' : Nat) : Int) := by rw [← e1]
    rw [Int.toNat_of_nonneg (by omega), Int.natCast_mul] at this
    exact this
  have f2 : q = (G : Int) * (q' : Int) := by
    have : ((q.toNat : Nat) : Int) = ((G * q' : Nat) : Int) := by rw [← e2]
    rw [Int.toNat_of_nonneg (by omega), Int.natCast_mul] at this
    exact this
  have p1 : 1 ≤ p' := by
    rcases Nat.eq_zero_or_pos p' with h | h
    · rw [h] at f1; omega
    · exact h
  have q1 : 1 ≤ q' := by
    rcases Nat.eq_zero_or_pos q' with h | h
    · rw [h] at f2; omega
    · exact h
  have le1 : (p' : Int) ≤ p := by
    rw [f1]
    have : (1 : Int) * p' ≤ G * p' := Int.mul_le_mul_of_nonneg_right (by omega) (by omega)
    omega
  have le2 : (q' : Int) ≤ q := by
    rw [f2]
    have : (1 : Int) * q' ≤ G * q' := Int.mul_le_mul_of_nonneg_right (by omega) (by omega)
    omega
  refine ⟨(p', q'), fun dr => ?_, by show (1 : Int) ≤ p'; omega, le1, by show (1 : Int) ≤ q'; omega, le2, by simpa using cop⟩
  refine runD_of rfl ?_
  unfold b__law_reduced
  have d1 : p.fdiv (G : Int) = p' := by rw [f1, Int.mul_comm]; exact Int.mul_fdiv_cancel _ (by omega)
  have d2 : q.fdiv (G : Int) = q' := by rw [f2, Int.mul_comm]; exact Int.mul_fdiv_cancel _ (by omega)
  have v1 := fdivV_ok (i := p) (j := (G : Int)) (by omega) (by omega)
  have v2 := fdivV_ok (i := q) (j := (G : Int)) (by omega) (by omega)
  rw [d1] at v1
  rw [d2] at v2
  have hgc' := hgc dr
  simp only [sSeq_some, sSet_some, eCall_some, aC_some, aN_some, eN_some, e2_some, eV_0, eV_s, ob_some, frz_some, List.map_cons, List.map_nil, List.cons_append, List.nil_append, List.replicate, Sl_f_fr, Sl_f_no, maxA_2, minA_2, hgc', sqF_nx, List.set_cons_succ, List.set_cons_zero, sRet_some, v1, v2, mkT_2]
  rfl
def goodN (p q r s : Int) (k : Nat) : Bool := decide ((1 + p * (1 + (k : Int))).fmod q = 0) && decide ((1 + p * (1 + (k : Int))).fdiv q * s ≤ r * (1 + (k : Int)))
theorem goodN_iff {p q r s : Int} (hq : 1 ≤ q) {k : Nat} : goodN p q r s k = true ↔ GoodV p q r s (1 + (k : Int)) := by
  unfold goodN
  rw [goodB hq, Bool.and_eq_true, decide_eq_true_eq, decide_eq_true_eq]
def fitN (p q : Int) (k : Nat) : Int × Int := ((1 + p * (1 + (k : Int))).fdiv q, 1 + (k : Int))
theorem first_of {P : Nat → Bool} {n x : Nat} {r : List Nat} (h : (List.range n).filter P = x :: r) : P x = true ∧ ∀ y, y < x → P y = false := by
  have hx : x ∈ (List.range n).filter P := by rw [h]; simp
  obtain ⟨x1, x2⟩ := List.mem_filter.mp hx
  refine ⟨x2, fun y hy => ?_⟩
  cases hp : P y with
  | false => rfl
  | true =>
    have hm : y ∈ (List.range n).filter P := List.mem_filter.mpr ⟨by rw [List.mem_range] at *; omega, hp⟩
    have pw : ((List.range n).filter P).Pairwise (· < ·) := List.Pairwise.filter _ List.pairwise_lt_range
    rw [h] at hm pw
    rcases List.mem_cons.mp hm with e | hm
    · omega
    · have := (List.pairwise_cons.mp pw).1 y hm
      omega
theorem lean1_d (p q : Int) (o : Int × Int) (y0 y2 : Sl) (acc : List (Int × Int)) (k : Nat) (hq : 1 ≤ q) (bq : q ≤ 1000000) (bp : 0 ≤ p ∧ p ≤ 1000000) (bo : 0 ≤ o.1 ∧ o.1 ≤ 1000000 ∧ 0 ≤ o.2 ∧ o.2 ≤ 1000000) (ha : acc.length < 16777216) (dr : Dr) :
    L1__law_lean [y0, .fr (prI o), y2, .fr (.int p), .fr (.int q), .ow (.lst (acc.map prI)), .fr (.int (1 + (k : Int)))] dr =
      some (.nx [y0, .fr (prI o), y2, .fr (.int p), .fr (.int q), .ow (.lst ((acc ++ if goodN p q o.1 o.2 k = true then [fitN p q k] else []).map prI)), .fr (.int (1 + (k : Int)))], dr) := by
  unfold L1__law_lean
  have m1 := mulV'_ok (i := p) (j := 1 + (k : Int)) (by omega)
  have m2 := mulV'_okR (i := (1 + p * (1 + (k : Int))).fdiv q) (j := o.2) (by omega)
  have m3 := mulV'_ok (i := o.1) (j := 1 + (k : Int)) (by omega)
  have md := modV_ok (i := 1 + p * (1 + (k : Int))) (j := q) (by omega)
  have fd := fdivV_ok (i := 1 + p * (1 + (k : Int))) (j := q) (by omega) (by omega)
  have i0 : atI [D.int o.1, D.int o.2] 0 = some (.int o.1) := rfl
  have i1 : atI [D.int o.1, D.int o.2] 1 = some (.int o.2) := rfl
  have hl : (acc.map prI).length < 16777216 := by simpa using ha
  unfold goodN
  by_cases g1 : (1 + p * (1 + (k : Int))).fmod q = 0
  · by_cases g2 : (1 + p * (1 + (k : Int))).fdiv q * o.2 ≤ o.1 * (1 + (k : Int))
    · simp [prI, tupI, m1, m2, m3, md, fd, i0, i1, g1, g2]
      rw [apF_ok (by simpa [prI, tupI] using hl)]
      simp [fitN]
    · simp [prI, tupI, m1, m2, m3, md, fd, i0, i1, g1, g2]
  · simp [prI, tupI, m1, md, g1]
theorem lean2_d (p q : Int) (o : Int × Int) (y0 y3 y4 y5 y6 : Sl) (L : List (Int × Int)) (hp : 1 ≤ p) (hq : 1 ≤ q) (bp : p ≤ 1000) (bq : q ≤ 1000) (h1 : 1 ≤ o.1) (h2 : 1 ≤ o.2) (b1 : o.1 ≤ 1000) (b2 : o.2 ≤ 1000)
    (hg : Nat.gcd p.toNat q.toNat = 1) (hD : 1 ≤ detF (p, q) o) (hL : L.length < 16000000) (dr : Dr) :
    ∃ z3 z4 z5 z6, L2__law_lean [y0, .fr (prI o), .ow (.lst ((L ++ [(p, q)]).map prI)), y3, y4, y5, y6] dr = some (.nx [y0, .fr (prI o), .ow (.lst ((L ++ [(p, q)] ++ [nxt (p, q) o]).map prI)), z3, z4, z5, z6], dr) := by
  have m0 : 0 ≤ q * o.2 ∧ q * o.2 ≤ 1000000 := by
    constructor
    · exact Int.mul_nonneg (by omega) (by omega)
    · have := Int.mul_le_mul bq b2 (by omega) (by omega)
      omega
  have ms : q ≤ q * o.2 := by
    have := Int.mul_le_mul_of_nonneg_left h2 (show 0 ≤ q by omega)
    omega
  obtain ⟨n, hn⟩ : ∃ n : Nat, (n : Int) = q * o.2 + o.2 + 1 := ⟨(q * o.2 + o.2 + 1).toNat, by omega⟩
  have LP := loop_inv (α := Nat) (t := gN 6) (g := L1__law_lean) (enc := fun (k : Nat) => D.int (1 + (k : Int))) (xs := List.range n)
    (fun pre env dr' => dr' = dr ∧ ∃ y, env = [y0, .fr (prI o), .ow (.lst ((L ++ [(p, q)]).map prI)), .fr (.int p), .fr (.int q), .ow (.lst (((pre.filter (goodN p q o.1 o.2)).map (fitN p q)).map prI)), y])
    (by
      rintro pre k post env dr' hx ⟨rfl, y, rfl⟩
      obtain ⟨e1, _, e3⟩ := range_split hx
      have hlen : ((pre.filter (goodN p q o.1 o.2)).map (fitN p q)).length < 16777216 := by
        rw [List.length_map]
        exact Nat.lt_of_le_of_lt (List.length_filter_le _ _) (by omega)
      refine ⟨_, _, _, rfl, lean1_d p q o y0 _ _ k hq (by omega) (by omega) (by omega) hlen dr', rfl, .fr (.int (1 + (k : Int))), ?_⟩
      rw [List.filter_append, List.map_append (f := fitN p q)]
      by_cases g : goodN p q o.1 o.2 k = true
      · simp [g]
      · simp [g])
    (env := [y0, .fr (prI o), .ow (.lst ((L ++ [(p, q)]).map prI)), .fr (.int p), .fr (.int q), .ow (.lst []), y6]) (dr := dr) ⟨rfl, y6, by simp⟩
  obtain ⟨env', dr', hl1, hl2, y, rfl⟩ := LP
  subst hl2
  obtain ⟨v0, v1, v2, v3⟩ := goodV_ex hq h2 (by omega) hg (by unfold detF at hD; exact hD)
  have hin : (v0 - 1) ∈ (List.range n).filter (goodN p q o.1 o.2) := by
    refine List.mem_filter.mpr ⟨by rw [List.mem_range]; omega, (goodN_iff hq).mpr ?_⟩
    rw [show (1 : Int) + ((v0 - 1 : Nat) : Int) = v0 by omega]
    exact v3
  cases hf : (List.range n).filter (goodN p q o.1 o.2) with
  | nil => rw [hf] at hin; simp at hin
  | cons x r =>
    obtain ⟨x1, x2⟩ := first_of hf
    have hnx : nxt (p, q) o = fitN p q x := by
      obtain ⟨u, hu, hle⟩ := (goodN_iff hq).mp x1
      have hfd : (1 + p * (1 + (x : Int))).fdiv q = u := by
        rw [← hu]; exact Int.mul_fdiv_cancel u (by omega)
      have : fitN p q x = (u, 1 + (x : Int)) := by unfold fitN; rw [hfd]
      rw [this]
      refine nxt_eq hq ⟨hu, hle, by show (1 : Int) ≤ 1 + x; omega, fun w w1 w2 hw => ?_⟩
      have := x2 (w - 1).toNat (by simp only at w2; omega)
      rw [← Bool.not_eq_true, goodN_iff hq, show (1 : Int) + ((w - 1).toNat : Int) = w by omega] at this
      exact this hw
    rw [hf] at hl1
    have hla : atI ((L ++ [(p, q)]).map prI) (-1) = some (prI (p, q)) := by rw [List.map_append]; exact atI_last
    have hfa : atI (((x :: r).map (fitN p q)).map prI) 0 = some (prI (fitN p q x)) := atI_of 0 rfl rfl
    have i1 : atI [D.int o.1, D.int o.2] 1 = some (.int o.2) := rfl
    have mq := mulV'_ok (i := q) (j := o.2) (by omega)
    have hk : okR 1 (q * o.2 + o.2 + 2) := okR_s (by omega)
    have hkn : (q * o.2 + o.2 + 2 - 1).toNat = n := by omega
    have hsc : isSc (prI (fitN p q x)) = true := by unfold prI; exact isSc_tupI
    have hlen : ((L ++ [(p, q)]).map prI).length < 16777216 := by simp; omega
    have hsc0 : isSc (prI (p, q)) = true := by unfold prI; exact isSc_tupI
    refine ⟨.fr (.int p), .fr (.int q), .ow (.lst (((x :: r).map (fitN p q)).map prI)), y, ?_⟩
    rw [hnx]
    unfold L2__law_lean
    have st1 : sAsgTP (gT (gsC (gN 3) (gsC (gN 4) gs0))) (e2 ixV (eV 2) (e1 negV (eC (.int 1)))) [y0, .fr (prI o), .ow (.lst ((L ++ [(p, q)]).map prI)), y3, y4, y5, y6] dr' = some (.nx [y0, .fr (prI o), .ow (.lst ((L ++ [(p, q)]).map prI)), .fr (.int p), .fr (.int q), y5, y6], dr') := by
      unfold sAsgTP
      simp only [pk_some, List.map_cons, List.map_nil, e2_some, eV_0, eV_s, Sl_p_ow, Sl_p_fr, e1_some, eC_some, ob_some, negV_int, ixV_lst, hla, Option.bind_some, hsc0, if_true]
      rfl
    rw [sSeq_some, st1, sqF_nx, sSeq_some, sSetO_some]
    simp only [eN_some, aN_some, ob_some, mkL_0, sqF_nx, List.set_cons_succ, List.set_cons_zero, sSeq_some, sFor_some, aRg2_some, aC_some, eC_some, e2_some, eV_0, eV_s, frz_some, List.map_cons, List.map_nil, Sl_f_fr, Sl_f_ow, prI, tupI, ixV_tup, i1, mq, addV_int, rg2F_ok hk, rgD_map, hkn]
    simp only [prI, tupI, List.map_cons, List.map_nil] at hl1
    rw [hl1]
    simp only [prI, tupI, List.map_cons, List.map_nil] at hfa hsc hlen
    simp only [sqF_nx, sAppP_some, pk_some, e2_some, eV_0, eV_s, List.map_cons, List.map_nil, Sl_p_fr, Sl_p_ow, eC_some, ob_some, ixV_lst, hfa]
    rw [show ∀ (a b c d e f g : Sl), ([a, b, c, d, e, f, g] : List Sl)[2]? = some c from fun _ _ _ _ _ _ _ => rfl]
    rw [apPF_ok hsc hlen]
    simp
    rfl
theorem lean_d (B : Int) (one other : Int × Int) (hB : B ≤ 1000) (h1 : 1 ≤ one.1 ∧ one.1 ≤ B ∧ 1 ≤ one.2 ∧ one.2 ≤ B) (h2 : 1 ≤ other.1 ∧ other.1 ≤ B ∧ 1 ≤ other.2 ∧ other.2 ≤ B)
    (g1 : Nat.gcd one.1.toNat one.2.toNat = 1) (g2 : Nat.gcd other.1.toNat other.2.toNat = 1) (hD : 0 ≤ detF one other) (dr : Dr) :
    m__law_lean [prI one, prI other] dr = some (.lst ((chF other (3 * B + 3).toNat one).map prI), dr) := by
  have W := while_inv (c := (tOf (e2 neV (e2 ixV (eV 2) (e1 negV (eC (.int 1)))) (eV 1)))) (g := L2__law_lean)
    (fun k env dr' => dr' = dr ∧ ∃ L w n y3 y4 y5 y6, n ≤ k ∧ env = [.fr (prI one), .fr (prI other), .ow (.lst ((L ++ [w]).map prI)), y3, y4, y5, y6] ∧ ChS B one other L w n ∧ L ++ chF other k w = chF other (3 * B + 3).toNat one)
    (fun env dr' => dr' = dr ∧ ∃ y3 y4 y5 y6, env = [.fr (prI one), .fr (prI other), .ow (.lst ((chF other (3 * B + 3).toNat one).map prI)), y3, y4, y5, y6])
    (by
      rintro k env dr' ⟨rfl, L, w, n, y3, y4, y5, y6, hnk, rfl, S, hF⟩
      obtain ⟨a1, a2, a3, a4, a5, a6⟩ := S.bd w (by simp)
      have hl : atI ((L ++ [w]).map prI) (-1) = some (prI w) := by
        rw [List.map_append]; exact atI_last
      have hne : neV (prI w) (prI other) = some (.bl (!decide (w = other))) :=
        neV_ok (k := 1) (l := 1) (by decide) (by decide) (okD_tupI _) (okD_tupI _) prI_inj
      by_cases e : w = other
      · left
        subst e
        rw [chF_end] at hF
        rw [← hF]
        refine ⟨?_, rfl, y3, y4, y5, y6, rfl⟩
        simp [-List.map_append, hl, hne]
      · right
        have hD1 : 1 ≤ detF w other := by
          refine Classical.byContradiction fun h => e ?_
          have h0 : other.1 * w.2 - w.1 * other.2 = 0 := by unfold detF at h a6; omega
          obtain ⟨q1, q2⟩ := low_eq (by omega) a3 (by omega) h2.2.2.1 S.cop g2 h0
          exact Prod.ext q1 q2
        obtain ⟨u, v, n1, n2, n3, n4, n5, n6⟩ := next_d w.1 w.2 other.1 other.2 a1 a3 h2.1 h2.2.2.1 (by omega) (by omega) (by omega) (by omega) (by omega) S.cop hD1 dr'
        have hnx : nxt w other = (u, v) := nxt_eq a3 ⟨n2, n3, n4, n6⟩
        obtain ⟨m, hm, S'⟩ := chs_step hB h2 S u v n2 n3 n4 n6 hD1
        have hlen := S.len
        obtain ⟨z3, z4, z5, z6, hz⟩ := lean2_d w.1 w.2 other (.fr (prI one)) y3 y4 y5 y6 L a1 a3 (by omega) (by omega) h2.1 h2.2.2.1 (by omega) (by omega) S.cop hD1 (by omega) dr'
        rw [show ((w.1, w.2) : Int × Int) = w from rfl, hnx] at hz
        have hk : ∃ k', k = k' + 1 := ⟨k - 1, by omega⟩
        obtain ⟨k', rfl⟩ := hk
        have hF' : (L ++ [w]) ++ chF other k' (u, v) = chF other (3 * B + 3).toNat one := by
          rw [← hF, ← hnx]
          conv => rhs; rw [chF, if_neg e]
          simp
        refine ⟨k', _, dr', by omega, ?_, hz, rfl, L ++ [w], (u, v), m, z3, z4, z5, z6, by omega, rfl, S', hF'⟩
        simp [-List.map_append, hl, hne, e])
    (3 * B + 3).toNat 1000000 [.fr (prI one), .fr (prI other), .ow (.lst [prI one]), .no, .no, .no, .no] dr (by omega)
    ⟨rfl, [], one, (3 * B + 3).toNat, .no, .no, .no, .no, Nat.le_refl _, rfl, ⟨trivial, trivial, ⟨[], rfl⟩, fun x hx => by
      simp at hx; subst hx
      exact ⟨h1.1, h1.2.1, h1.2.2.1, h1.2.2.2, by unfold detF; rw [Int.mul_comm]; omega, hD⟩, g1, by simp; omega, .inl ⟨rfl, by omega⟩⟩, rfl⟩
  obtain ⟨env', dr', w1, rfl, y3, y4, y5, y6, rfl⟩ := W
  refine runD_of rfl ?_
  unfold b__law_lean
  simp [-List.map_append, w1]
def okP (w : Int × Int) : Bool := decide (1 ≤ w.1) && (decide (1 ≤ w.2) && decide (Nat.gcd w.1.toNat w.2.toNat = 1))
def wAt (R : List (Int × Int)) (k : Nat) : Int × Int := R.getD k (0, 0)
def detB (R : List (Int × Int)) (k : Nat) : Bool := decide ((wAt R (k + 1)).1 * (wAt R k).2 - (wAt R k).1 * (wAt R (k + 1)).2 = 1)
def chainB (R : List (Int × Int)) : Bool := !R.isEmpty && R.all okP && (List.range (R.length - 1)).all (detB R)
def Bd (R : List (Int × Int)) : Prop := ∀ w ∈ R, 0 ≤ w.1 ∧ w.1 < 1000000 ∧ 0 ≤ w.2 ∧ w.2 < 1000000
theorem wAt_get {R : List (Int × Int)} {k : Nat} (h : k < R.length) : (R.map prI)[k]? = some (prI (wAt R k)) := by
  rw [List.getElem?_map, List.getElem?_eq_getElem h]
  simp [wAt, List.getD, h]
theorem wAt_at {R : List (Int × Int)} {k : Nat} {i : Int} (e : i = k) (h : k < R.length) : atI (R.map prI) i = some (prI (wAt R k)) := atI_of k e (wAt_get h)
theorem wAt_mem {R : List (Int × Int)} {k : Nat} (h : k < R.length) : wAt R k ∈ R := by
  unfold wAt
  simp [List.getD, h]
theorem pr0 (w : Int × Int) : ixV (prI w) (.int 0) = some (.int w.1) := rfl
theorem pr1 (w : Int × Int) : ixV (prI w) (.int 1) = some (.int w.2) := rfl
theorem is_chain_d (R : List (Int × Int)) (hl : R.length ≤ 1000000) (hb : Bd R) (dr : Dr) : m_is_chain [.lst (R.map prI)] dr = some (.bl (chainB R), dr) := by
  refine runD_of rfl ?_
  unfold b_is_chain
  have hm1 : ([("p", 1), ("q", 2)] : List (Str × Nat)).map (·.2) = [1, 2] := rfl
  have hm2 : ([("at", 3)] : List (Str × Nat)).map (·.2) = [3] := rfl
  rw [hm1, hm2]
  have c1 : eLc [1, 2] (aSeqA (eV 0)) (cT (csC (cN 1) (csC (cN 2) cs0))) cYes (eAnd (e2 geV (eV 1) (eC (.int 1))) (eAnd (e2 geV (eV 2) (eC (.int 1))) (e2 eqV (eN gcdV (aC (eV 1) (aC (eV 2) aN))) (eC (.int 1))))) [some (.lst (R.map prI)), none, none, none] dr = some (.lst ((R.map okP).map D.bl), dr) := by
    rw [eLc_all (α := Int × Int) (β := Bool) (enc := prI) (enc' := D.bl) (ρ' := fun w => [some (.lst (R.map prI)), some (.int w.1), some (.int w.2), none]) (f := okP) (xs := R)]
    · simp
    · intro w hw
      simp [prI, tupI]
    · intro w hw
      obtain ⟨b1, b2, b3, b4⟩ := hb w hw
      have hg := gcdV_ints (i := w.1) (j := w.2)
      rw [show w.1.natAbs = w.1.toNat by omega, show w.2.natAbs = w.2.toNat by omega] at hg
      unfold okP
      by_cases h1 : 1 ≤ w.1
      · by_cases h2 : 1 ≤ w.2
        · simp [h1, h2, hg]
          omega
        · simp [h1, h2]
      · simp [h1]
    · omega
  have a1 := allV_bls (R.map okP)
  rw [List.all_map, show (id ∘ okP) = okP from rfl] at a1
  by_cases he : R = []
  · subst he
    simp [chainB]
  · have hpos : 0 < R.length := List.length_pos_iff.mpr he
    have hne : ¬ ((R.length : Int) = 0) := by omega
    have hne2 : R.isEmpty = false := by cases R <;> simp_all
    have hk : okR 0 ((R.length : Int) - 1) := okR_s (by omega)
    have hkn : ((R.length : Int) - 1).toNat = R.length - 1 := by omega
    have c2 : eLc [3] (aRg1 (aC (e2 subV (eN lenV (aC (eV 0) aN)) (eC (.int 1))) aN)) (cN 3) cYes (e2 eqV (e2 subV (e2 mulV' (e2 ixV (e2 ixV (eV 0) (e2 addV (eV 3) (eC (.int 1)))) (eC (.int 0))) (e2 ixV (e2 ixV (eV 0) (eV 3)) (eC (.int 1)))) (e2 mulV' (e2 ixV (e2 ixV (eV 0) (eV 3)) (eC (.int 0))) (e2 ixV (e2 ixV (eV 0) (e2 addV (eV 3) (eC (.int 1)))) (eC (.int 1))))) (eC (.int 1))) [some (.lst (R.map prI)), none, none, none] dr = some (.lst (((List.range (R.length - 1)).map (detB R)).map D.bl), dr) := by
      rw [eLc_all (α := Nat) (β := Bool) (enc := fun (k : Nat) => D.int (0 + (k : Int))) (enc' := D.bl) (ρ' := fun k => [some (.lst (R.map prI)), none, none, some (.int (0 + (k : Int)))]) (f := detB R) (xs := List.range (R.length - 1))]
      · simp only [aRg1_some, aC_some, aN_some, e2_some, eN_some, eV_0, eC_some, ob_some, lenV_lst, List.length_map, subV_int, rg1F_ok hk, rgD_map, hkn]
      · intro k hk
        simp
      · intro k hk
        rw [List.mem_range] at hk
        have x0 := wAt_at (R := R) (k := k) (i := 0 + (k : Int)) (by omega) (by omega)
        have x1 := wAt_at (R := R) (k := k + 1) (i := 0 + (k : Int) + 1) (by omega) (by omega)
        have b0 := hb _ (wAt_mem (R := R) (k := k) (by omega))
        have b1 := hb _ (wAt_mem (R := R) (k := k + 1) (by omega))
        have m1 := mulV'_ok (i := (wAt R (k + 1)).1) (j := (wAt R k).2) (by omega)
        have m2 := mulV'_ok (i := (wAt R k).1) (j := (wAt R (k + 1)).2) (by omega)
        simp only [e2_some, eV_0, eV_s, eC_some, ob_some, addV_int, ixV_lst, x0, x1, pr0, pr1, m1, m2, subV_int, eqV_int, detB]
      · simp; omega
    have a2 := allV_bls ((List.range (R.length - 1)).map (detB R))
    rw [List.all_map, show (id ∘ detB R) = detB R from rfl] at a2
    simp only [List.map_cons, List.map_nil, List.replicate, List.cons_append, List.nil_append, sSeq_some, sIf_some, tOr_some, tOf_some, e2_some, eN_some, aC_some, aN_some, eV_0, eC_some, ob_some, pk_some, Sl_p_fr, Sl_p_no, lenV_lst, List.length_map, eqV_int, pb_bl, hne, decide_false, cb_false, tNot_some, tTru_some, c1, a1, truD_bl]
    cases ho : R.all okP with
    | false =>
      simp [chainB, ho]
    | true =>
      simp only [Bool.not_true, cb_false, sNop_some, sqF_nx, sRet_some, eN_some, aC_some, aN_some, frz_some, List.map_cons, List.map_nil, Sl_f_fr, Sl_f_no, c2, ob_some, a2]
      simp [chainB, ho, hne2]
theorem law_is_chain_d (R : List (Int × Int)) (hl : R.length ≤ 1000000) (hb : Bd R) (dr : Dr) : m__law_is_chain [.lst (R.map prI)] dr = some (.bl (chainB R), dr) := by
  refine runD_of rfl ?_
  unfold b__law_is_chain
  have hm1 : ([("p", 1), ("q", 2)] : List (Str × Nat)).map (·.2) = [1, 2] := rfl
  have hm2 : ([("k", 3)] : List (Str × Nat)).map (·.2) = [3] := rfl
  rw [hm1, hm2]
  have c1 : eLc [1, 2] (aSeqA (eV 0)) (cT (csC (cN 1) (csC (cN 2) cs0))) (tOr (tOf (e2 ltV (eV 1) (eC (.int 1)))) (tOr (tOf (e2 ltV (eV 2) (eC (.int 1)))) (tOf (e2 neV (eCall m__law_gcd (aC (eN maxA (aC (eV 1) (aC (eV 2) aN))) (aC (eN minA (aC (eV 1) (aC (eV 2) aN))) aN))) (eC (.int 1)))))) (eC (.int 1)) [some (.lst (R.map prI)), none, none, none] dr = some (.lst (((R.filter fun w => !okP w).map fun _ => (1 : Int)).map D.int), dr) := by
    rw [eLc_pure (α := Int × Int) (β := Int) (enc := prI) (enc' := D.int) (ρ' := fun w => [some (.lst (R.map prI)), some (.int w.1), some (.int w.2), none]) (p := fun w => !okP w) (f := fun _ => (1 : Int)) (xs := R)]
    · simp
    · intro w hw
      simp [prI, tupI]
    · intro w hw
      obtain ⟨b1, b2, b3, b4⟩ := hb w hw
      have hg := law_gcd2_d w.1 w.2 b1 b3 b2 b4 dr
      unfold okP
      by_cases h1 : 1 ≤ w.1
      · have h1' : ¬ w.1 < 1 := by omega
        by_cases h2 : 1 ≤ w.2
        · have h2' : ¬ w.2 < 1 := by omega
          simp only [tOr_some, tOf_some, e2_some, eV_0, eV_s, eC_some, ob_some, cmpV_int, h1', h2', decide_false, pb_bl, cb_false, eCall_some, aC_some, aN_some, eN_some, maxA_2, minA_2, hg, neV_int, h1, h2, decide_true, Bool.true_and]
          congr 3
          rw [decide_eq_decide]
          omega
        · have h2' : w.2 < 1 := by omega
          simp [h1', h2', h1, h2]
      · have h1' : w.1 < 1 := by omega
        simp [h1', h1]
    · intro w hw _
      simp
    · exact Nat.le_trans (List.length_filter_le _ _) (by omega)
  have n1 : neV (.lst (((R.filter fun w => !okP w).map fun _ => (1 : Int)).map D.int)) (.lst []) = some (.bl (!R.all okP)) := by
    rw [neV_ok (k := 1) (l := 1) (by decide) (by decide) (by simp only [okD]; exact okD_ints _) rfl (P := R.all okP = true) (by
      rw [D.lst.injEq, List.map_eq_nil_iff, List.map_eq_nil_iff, List.filter_eq_nil_iff, List.all_eq_true]
      simp)]
    congr 3
    cases R.all okP <;> rfl
  have okR' : okL 1 (R.map prI) = true := by
    rw [okL_all, List.all_map, List.all_eq_true]
    intro w _
    exact okD_tupI _
  have e1 : eqV (.lst (R.map prI)) (.lst []) = some (.bl R.isEmpty) := by
    rw [eqV_lnil okR' (by decide)]
    simp
  by_cases he : R = []
  · subst he
    have e1' : eqV (.lst []) (.lst []) = some (.bl true) := e1
    simp [chainB, e1']
  · have hpos : 0 < R.length := List.length_pos_iff.mpr he
    have hne2 : R.isEmpty = false := by cases R <;> simp_all
    have hk : okR 0 ((R.length : Int) - 1) := okR_s (by omega)
    have hkn : ((R.length : Int) - 1).toNat = R.length - 1 := by omega
    have c2 : eLc [3] (aRg1 (aC (e2 subV (eN lenV (aC (eV 0) aN)) (eC (.int 1))) aN)) (cN 3) (tOf (e2 neV (e2 subV (e2 mulV' (e2 ixV (e2 ixV (eV 0) (e2 addV (eV 3) (eC (.int 1)))) (eC (.int 0))) (e2 ixV (e2 ixV (eV 0) (eV 3)) (eC (.int 1)))) (e2 mulV' (e2 ixV (e2 ixV (eV 0) (eV 3)) (eC (.int 0))) (e2 ixV (e2 ixV (eV 0) (e2 addV (eV 3) (eC (.int 1)))) (eC (.int 1))))) (eC (.int 1)))) (eV 3) [some (.lst (R.map prI)), none, none, none] dr = some (.lst ((((List.range (R.length - 1)).filter fun k => !detB R k).map fun (k : Nat) => (k : Int)).map D.int), dr) := by
      rw [eLc_pure (α := Nat) (β := Int) (enc := fun (k : Nat) => D.int (0 + (k : Int))) (enc' := D.int) (ρ' := fun k => [some (.lst (R.map prI)), none, none, some (.int (0 + (k : Int)))]) (p := fun k => !detB R k) (f := fun (k : Nat) => (k : Int)) (xs := List.range (R.length - 1))]
      · simp only [aRg1_some, aC_some, aN_some, e2_some, eN_some, eV_0, eC_some, ob_some, lenV_lst, List.length_map, subV_int, rg1F_ok hk, rgD_map, hkn]
      · intro k hk
        simp
      · intro k hk
        rw [List.mem_range] at hk
        have x0 := wAt_at (R := R) (k := k) (i := 0 + (k : Int)) (by omega) (by omega)
        have x1 := wAt_at (R := R) (k := k + 1) (i := 0 + (k : Int) + 1) (by omega) (by omega)
        have b0 := hb _ (wAt_mem (R := R) (k := k) (by omega))
        have b1 := hb _ (wAt_mem (R := R) (k := k + 1) (by omega))
        have m1 := mulV'_ok (i := (wAt R (k + 1)).1) (j := (wAt R k).2) (by omega)
        have m2 := mulV'_ok (i := (wAt R k).1) (j := (wAt R (k + 1)).2) (by omega)
        simp only [tOf_some, e2_some, eV_0, eV_s, eC_some, ob_some, addV_int, ixV_lst, x0, x1, pr0, pr1, m1, m2, subV_int, neV_int, detB, pb_bl]
      · intro k hk _
        simp
      · refine Nat.le_trans (List.length_filter_le _ _) ?_
        simp; omega
    have n2 : eqV (.lst ((((List.range (R.length - 1)).filter fun k => !detB R k).map fun (k : Nat) => (k : Int)).map D.int)) (.lst []) = some (.bl ((List.range (R.length - 1)).all (detB R))) := by
      rw [eqV_ok (k := 1) (l := 1) (by decide) (by decide) (by simp only [okD]; exact okD_ints _) rfl (P := (List.range (R.length - 1)).all (detB R) = true) (by
        rw [D.lst.injEq, List.map_eq_nil_iff, List.map_eq_nil_iff, List.filter_eq_nil_iff, List.all_eq_true]
        simp)]
      congr 2
      cases (List.range (R.length - 1)).all (detB R) <;> rfl
    simp only [List.map_cons, List.map_nil, List.replicate, List.cons_append, List.nil_append, sSeq_some, sIf_some, tOr_some, tOf_some, e2_some, eN_some, aN_some, eV_0, eC_some, ob_some, pk_some, Sl_p_fr, Sl_p_no, mkL_0, e1, hne2, pb_bl, cb_false, c1, n1]
    cases ho : R.all okP with
    | false =>
      simp [chainB, ho]
    | true =>
      simp only [Bool.not_true, cb_false, sNop_some, sqF_nx, sRet_some, e2_some, eN_some, aN_some, frz_some, List.map_cons, List.map_nil, Sl_f_fr, Sl_f_no, c2, ob_some, mkL_0, n2]
      simp [chainB, ho, hne2]
theorem law_eq_int (k : Nat) (i j : Int) (dr : Dr) : m__law_eq (k + 1) [.int i, .int j] dr = some (.bl (decide (i = j)), dr) := by
  refine runD_of rfl ?_
  unfold b__law_eq
  simp
theorem law_eq_bl (k : Nat) (i j : Bool) (dr : Dr) : m__law_eq (k + 1) [.bl i, .bl j] dr = some (.bl (i == j), dr) := by
  refine runD_of rfl ?_
  unfold b__law_eq
  simp
theorem law_eq_non (k : Nat) (dr : Dr) : m__law_eq (k + 1) [.non, .non] dr = some (.bl true, dr) := by
  refine runD_of rfl ?_
  unfold b__law_eq
  simp
theorem law_eq_lc (k : Nat) (x : D) (xs : List D) (hx : x = .lst xs ∨ x = .tup xs) (hl : xs.length ≤ 16777216) (dr : Dr) (ih : ∀ y ∈ xs, m__law_eq k [y, y] dr = some (.bl true, dr)) :
    eLc [2] (aRg1 (aC (eN lenV (aC (eV 1) aN)) aN)) (cN 2) (tNot (tTru (eCall (m__law_eq k) (aC (e2 ixV (eV 0) (eV 2)) (aC (e2 ixV (eV 1) (eV 2)) aN))))) (eV 2) [some x, some x, none] dr = some (.lst [], dr) := by
  have hk : okR 0 (xs.length : Int) := okR_s (by omega)
  rw [eLc_pure (α := Nat) (β := Int) (enc := fun (i : Nat) => D.int (0 + (i : Int))) (enc' := D.int) (ρ' := fun i => [some x, some x, some (.int (0 + (i : Int)))]) (p := fun _ => false) (f := fun _ => 0) (xs := List.range xs.length)]
  · rw [List.filter_eq_nil_iff.mpr (fun _ _ => Bool.false_ne_true)]; rfl
  · rcases hx with rfl | rfl <;> simp [rg1F_ok hk, rgD_map]
  · intro i hi
    simp
  · intro i hi
    rw [List.mem_range] at hi
    have a : atI xs (i : Int) = some xs[i] := atI_of i rfl (List.getElem?_eq_getElem hi)
    have := ih xs[i] (List.getElem_mem hi)
    rcases hx with rfl | rfl <;> simp [a, this]
  · intro i hi h
    exact absurd h (by simp)
  · rw [List.filter_eq_nil_iff.mpr (fun _ _ => Bool.false_ne_true)]; exact Nat.zero_le _
theorem law_eq_refl : ∀ (k : Nat) (x : D) (dr : Dr), okD k x = true → smD x = true → m__law_eq (k + 1) [x, x] dr = some (.bl true, dr)
  | k, .non, dr, _, _ => law_eq_non k dr
  | k, .int i, dr, _, _ => by rw [law_eq_int]; simp
  | k + 1, .lst xs, dr, h, hs => by
    have h' : okL k xs = true := by simpa [okD] using h
    simp only [smD, Bool.and_eq_true, decide_eq_true_eq] at hs
    rw [okL_all, List.all_eq_true] at h'
    have hs2 := hs.2
    rw [smL_all, List.all_eq_true] at hs2
    refine runD_of rfl ?_
    unfold b__law_eq
    have hc := law_eq_lc (k + 1) (.lst xs) xs (.inl rfl) hs.1 dr fun y hy => law_eq_refl k y dr (h' y hy) (hs2 y hy)
    simp [hc, eqV_lnil (k := 0) (xs := []) rfl (by decide)]
  | k + 1, .tup xs, dr, h, hs => by
    have h' : okL k xs = true := by simpa [okD] using h
    simp only [smD, Bool.and_eq_true, decide_eq_true_eq] at hs
    rw [okL_all, List.all_eq_true] at h'
    have hs2 := hs.2
    rw [smL_all, List.all_eq_true] at hs2
    refine runD_of rfl ?_
    unfold b__law_eq
    have hc := law_eq_lc (k + 1) (.tup xs) xs (.inr rfl) hs.1 dr fun y hy => law_eq_refl k y dr (h' y hy) (hs2 y hy)
    simp [hc, eqV_lnil (k := 0) (xs := []) rfl (by decide)]
  | 0, .lst _, _, h, _ => by simp [okD] at h
  | 0, .tup _, _, h, _ => by simp [okD] at h
  | 0, .bl _, _, h, _ => by simp [okD] at h
  | k + 1, .bl _, _, h, _ => by simp [okD] at h
  | 0, .str _, _, h, _ => by simp [okD] at h
  | k + 1, .str _, _, h, _ => by simp [okD] at h
  | 0, .dic _ _, _, h, _ => by simp [okD] at h
  | k + 1, .dic _ _, _, h, _ => by simp [okD] at h
  | 0, .dit _ _, _, h, _ => by simp [okD] at h
  | k + 1, .dit _ _, _, h, _ => by simp [okD] at h
  | 0, .tok _, _, h, _ => by simp [okD] at h
  | k + 1, .tok _, _, h, _ => by simp [okD] at h
/-- two lists of int tuples, the same -/
theorem law_eq_tups (k : Nat) (ts : List (List Int)) (h1 : ts.length ≤ 16777216) (h2 : ∀ t ∈ ts, t.length ≤ 16777216) (dr : Dr) : m__law_eq (k + 3) [.lst (ts.map tupI), .lst (ts.map tupI)] dr = some (.bl true, dr) :=
  law_eq_refl (k + 2) _ dr (by simpa [okD] using okD_tups (k := k) ts) (by simp [smD, smL_tups h2, h1])
theorem law_eq_ints (k : Nat) (ns : List Int) (h1 : ns.length ≤ 16777216) (dr : Dr) : m__law_eq (k + 2) [.lst (ns.map D.int), .lst (ns.map D.int)] dr = some (.bl true, dr) :=
  law_eq_refl (k + 1) _ dr (by simpa [okD] using okD_ints (k := k) ns) (by simp [smD, smL_ints, h1])
theorem pick_d {ps pc : Addr} (h : ps ≠ pc) (cells : List Int) (seed : Int) (xs : List D) (h0 : 0 < xs.length) (h1 : xs.length < 1000000) : ∃ (k : Nat) (hk : k < xs.length) (c : List Int) (s : Int), m__law_pick [.tok ps, .lst xs] (drS ps pc cells seed) = some (xs[k], drS ps pc c s) := by
  obtain ⟨k, c, s, a1, b1, e1⟩ := draw_some h cells seed (xs.length : Int) (by omega) (by omega)
  obtain ⟨m, rfl⟩ : ∃ m : Nat, k = (m : Int) := ⟨k.toNat, by omega⟩
  refine ⟨m, by omega, c, s, ?_⟩
  refine runD_of rfl ?_
  unfold b__law_pick
  have ha : atI xs (m : Int) = some xs[m] := atI_of m rfl (List.getElem?_eq_getElem (by omega))
  simp [e1, ha]
theorem chB_of (R : List (Int × Int)) (h0 : R ≠ []) (h1 : ∀ w ∈ R, okP w = true) (h2 : Chn R) : chainB R = true := by
  unfold chainB
  have e : R.isEmpty = false := by cases R <;> simp_all
  rw [e, Bool.not_false, Bool.true_and, Bool.and_eq_true, List.all_eq_true, List.all_eq_true]
  refine ⟨h1, fun k hk => ?_⟩
  rw [List.mem_range] at hk
  unfold detB
  rw [decide_eq_true_eq]
  clear h0 h1 e
  induction R generalizing k with
  | nil => simp at hk
  | cons a R ih =>
    cases R with
    | nil => simp at hk
    | cons b R =>
      cases k with
      | zero => exact h2.1
      | succ k => exact ih h2.2 k (by simp at hk ⊢; omega)
def GoodL (R : List (Int × Int)) : Prop := Bd R ∧ R.length ≤ 1000000
theorem again49 (ps pc : Addr) (h : ps ≠ pc) (cells : List Int) (seed : Int) (C W : List (Int × Int)) (hC : ∀ w ∈ C, 0 ≤ w.1 ∧ w.1 ≤ 1000 ∧ 0 ≤ w.2 ∧ w.2 ≤ 1000) (hW : ∀ w ∈ W, 0 ≤ w.1 ∧ w.1 ≤ 1000 ∧ 0 ≤ w.2 ∧ w.2 ≤ 1000) (lC : C.length ≤ 10000) (lW : W.length ≤ 10000) (h0 : W ≠ [])
    (y0 y2 y3 y4 y5 y6 y7 y8 y9 y10 y12 y13 y15 y16 y17 y18 : Sl) :
    ∃ z16 z17 z18 cells' seed', L2_law [y0, .fr (.tok ps), y2, y3, y4, y5, y6, y7, y8, y9, y10, .fr (.lst (C.map prI)), y12, y13, .fr (.lst (W.map prI)), y15, y16, y17, y18] (drS ps pc cells seed) =
      some (.nx [y0, .fr (.tok ps), y2, y3, y4, y5, y6, y7, y8, y9, y10, .fr (.lst (C.map prI)), y12, y13, .fr (.lst (W.map prI)), y15, z16, z17, z18], drS ps pc cells' seed') := by
  have hpos : 0 < W.length := List.length_pos_iff.mpr h0
  obtain ⟨k, c1, s1, k1, k2, e1⟩ := draw_some h cells seed (W.length : Int) (by omega) (by omega)
  obtain ⟨at', rfl⟩ : ∃ m : Nat, k = (m : Int) := ⟨k.toNat, by omega⟩
  have hat : at' < W.length := by omega
  have ba := hW _ (wAt_mem hat)
  have xa := wAt_at (R := W) (k := at') (i := (at' : Int)) rfl hat
  obtain ⟨j, hj, c2, s2, e2'⟩ := pick_d h c1 s1 [prI ((wAt W at').1 + 1, (wAt W at').2), prI ((wAt W at').2, (wAt W at').1), prI (2 * (wAt W at').1, 2 * (wAt W at').2), prI (0, 1), prI (1, 0)] (by simp) (by simp)
  have hv : ∃ w : Int × Int, [prI ((wAt W at').1 + 1, (wAt W at').2), prI ((wAt W at').2, (wAt W at').1), prI (2 * (wAt W at').1, 2 * (wAt W at').2), prI (0, 1), prI (1, 0)][j] = prI w ∧ 0 ≤ w.1 ∧ w.1 ≤ 3000 ∧ 0 ≤ w.2 ∧ w.2 ≤ 3000 := by
    match j, hj with
    | 0, _ => exact ⟨_, rfl, by show (0:Int) ≤ _ + 1; omega, by show _ + 1 ≤ (3000:Int); omega, by show (0 : Int) ≤ _; omega, by show _ ≤ (3000 : Int); omega⟩
    | 1, _ => exact ⟨_, rfl, by show (0:Int) ≤ (wAt W at').2; omega, by show (wAt W at').2 ≤ (3000:Int); omega, by show (0:Int) ≤ (wAt W at').1; omega, by show (wAt W at').1 ≤ (3000:Int); omega⟩
    | 2, _ => exact ⟨_, rfl, by show (0:Int) ≤ 2 * (wAt W at').1; omega, by show 2 * (wAt W at').1 ≤ (3000:Int); omega, by show (0:Int) ≤ 2 * (wAt W at').2; omega, by show 2 * (wAt W at').2 ≤ (3000:Int); omega⟩
    | 3, _ => exact ⟨(0, 1), rfl, by decide, by decide, by decide, by decide⟩
    | 4, _ => exact ⟨(1, 0), rfl, by decide, by decide, by decide, by decide⟩
  obtain ⟨w, hw, w1, w2, w3, w4⟩ := hv
  rw [hw] at e2'
  obtain ⟨i, hi, c3, s3, e3'⟩ := pick_d h c2 s2 [.lst (W.map prI), .lst (C.map prI), .lst (W.map prI).reverse, .lst ((W.map prI).take at' ++ [prI w] ++ (W.map prI).drop (at' + 1)), .lst ((W.map prI).take at' ++ (W.map prI).drop (at' + 1)), .lst [prI (wAt W at')], .lst []] (by simp) (by simp)
  have hr : ∃ R : List (Int × Int), [D.lst (W.map prI), .lst (C.map prI), .lst (W.map prI).reverse, .lst ((W.map prI).take at' ++ [prI w] ++ (W.map prI).drop (at' + 1)), .lst ((W.map prI).take at' ++ (W.map prI).drop (at' + 1)), .lst [prI (wAt W at')], .lst []][i] = .lst (R.map prI) ∧ GoodL R := by
    have bW : Bd W := fun x hx => by have := hW x hx; omega
    have bC : Bd C := fun x hx => by have := hC x hx; omega
    match i, hi with
    | 0, _ => exact ⟨W, rfl, bW, by omega⟩
    | 1, _ => exact ⟨C, rfl, bC, by omega⟩
    | 2, _ => exact ⟨W.reverse, by simp, fun x hx => bW x (by simpa using hx), by simp; omega⟩
    | 3, _ =>
      refine ⟨W.take at' ++ [w] ++ W.drop (at' + 1), by simp, fun x hx => ?_, by simp; omega⟩
      rcases List.mem_append.mp hx with hx | hx
      · rcases List.mem_append.mp hx with hx | hx
        · exact bW x (List.mem_of_mem_take hx)
        · rw [List.mem_singleton.mp hx]; omega
      · exact bW x (List.mem_of_mem_drop hx)
    | 4, _ =>
      refine ⟨W.take at' ++ W.drop (at' + 1), by simp, fun x hx => ?_, by simp; omega⟩
      rcases List.mem_append.mp hx with hx | hx
      · exact bW x (List.mem_of_mem_take hx)
      · exact bW x (List.mem_of_mem_drop hx)
    | 5, _ => exact ⟨[wAt W at'], rfl, fun x hx => by rw [List.mem_singleton.mp hx]; omega, by simp⟩
    | 6, _ => exact ⟨[], rfl, fun x hx => by simp at hx, by simp⟩
  obtain ⟨R, hR, gb, gl⟩ := hr
  rw [hR] at e3'
  have q1 := is_chain_d R gl gb (drS ps pc c3 s3)
  have q2 := law_is_chain_d R gl gb (drS ps pc c3 s3)
  have le : m__law_eq 6 [.bl (chainB R), .bl (chainB R)] (drS ps pc c3 s3) = some (.bl true, drS ps pc c3 s3) := by
    have := law_eq_bl 5 (chainB R) (chainB R) (drS ps pc c3 s3)
    rw [beq_self_eq_true] at this
    exact this
  have m1 := mulV'_ok (i := 2) (j := (wAt W at').1) (by omega)
  have m2 := mulV'_ok (i := 2) (j := (wAt W at').2) (by omega)
  have t1 := cutD_to (xs := W.map prI) (k := at') (i := (at' : Int)) rfl (by simp; omega)
  have t2 := cutD_from (xs := W.map prI) (k := at' + 1) (i := (at' : Int) + 1) (by omega) (by simp; omega)
  have a1 := addV_lst (xs := (W.map prI).take at') (ys := [prI w]) (by simp; omega)
  have a2 := addV_lst (xs := (W.map prI).take at' ++ [prI w]) (ys := (W.map prI).drop (at' + 1)) (by simp; omega)
  have a3 := addV_lst (xs := (W.map prI).take at') (ys := (W.map prI).drop (at' + 1)) (by simp; omega)
  have pk2 : ∀ a b : Int, mkT [.int a, .int b] = some (prI (a, b)) := fun a b => mkT_2
  refine ⟨.fr (.int at'), .fr (prI w), .fr (.lst (R.map prI)), c3, s3, ?_⟩
  unfold L2_law
  simp only [sSeq_some, sSet_some, eCall_some, aC_some, aN_some, eN_some, e2_some, e1_some, e3_some, oN_some, oS_some, oSF_int, eC_some, eV_0, eV_s, ob_some, frz_some, pk_some, List.map_cons, List.map_nil, Sl_f_fr, Sl_p_fr, lenV_lst, List.length_map, e1, List.set_cons_succ, List.set_cons_zero, sqF_nx, ixV_lst, xa, pr0, pr1, addV_int, m1, m2, pk2, mkL_5, e2', slV_lst, t1, t2, a1, a2, a3, mkL_1, mkL_0, mkL_7, revL_lst, e3', listV_lst, q1, q2, le, sIf_some, tNot_some, tTru_some, truD_bl, Bool.not_true, cb_false, sNop_some]
theorem cop_all : ∀ (R : List (Int × Int)) (a : Int × Int), Chn (a :: R) → (∀ x ∈ a :: R, 1 ≤ x.1 ∧ 1 ≤ x.2) → Nat.gcd a.1.toNat a.2.toNat = 1 → ∀ x ∈ a :: R, okP x = true
  | [], a, _, hb, g, x, hx => by
    rw [List.mem_singleton.mp hx]
    obtain ⟨b1, b2⟩ := hb a (by simp)
    unfold okP
    rw [decide_eq_true b1, decide_eq_true b2, decide_eq_true g]
    rfl
  | b :: R, a, hc, hb, g, x, hx => by
    obtain ⟨b1, b2⟩ := hb a (by simp)
    obtain ⟨d1, d2⟩ := hb b (by simp)
    rcases List.mem_cons.mp hx with rfl | hx
    · unfold okP
      rw [decide_eq_true b1, decide_eq_true b2, decide_eq_true g]
      rfl
    · exact cop_all R b hc.2 (fun y hy => hb y (List.mem_cons_of_mem _ hy)) (cop_of (p := a.1) (q := a.2) (by omega) (by omega) hc.1) x hx
/-- three in a row of a chain -/
theorem mid_ne (o : Int × Int) : ∀ (C : List (Int × Int)) (k : Nat), Chn C → DcF o C → (∀ x ∈ C, 1 ≤ x.1 ∧ 0 ≤ detF x o) → k + 2 < C.length → wAt C (k + 1) ≠ ((wAt C k).1 + (wAt C (k + 2)).1, (wAt C k).2 + (wAt C (k + 2)).2)
  | [], k, _, _, _, h => by simp at h
  | [a], k, _, _, _, h => by simp at h
  | [a, b], k, _, _, _, h => by
    simp only [List.length_cons, List.length_nil] at h
    omega
  | a :: b :: c :: R, 0, hc, hd, hb, h => by
    intro e
    have e1 := congrArg Prod.fst e
    have w0 : wAt (a :: b :: c :: R) 0 = a := rfl
    have w1 : wAt (a :: b :: c :: R) (0 + 1) = b := rfl
    have w2 : wAt (a :: b :: c :: R) (0 + 2) = c := rfl
    rw [w0, w1, w2] at e1
    simp only at e1
    have hdb := hd.1
    have hdc := hd.2.1
    have b0 := hb b (by simp)
    have c0 := hb c (by simp)
    unfold detF at hdb hdc c0
    have := three (p0 := a.1) (q0 := a.2) (p := b.1) (q := b.2) (u := c.1) (v := c.2) (r := o.1) (s := o.2) hc.1 hc.2.1 (by omega) hdb c0.2 (by omega)
    omega
  | a :: b :: c :: R, k + 1, hc, hd, hb, h => by
    have := mid_ne o (b :: c :: R) k hc.2 hd.2 (fun x hx => hb x (List.mem_cons_of_mem _ hx)) (by simp at h ⊢; omega)
    exact this
theorem lcD_nil {ρ0 : List (Option D)} {t : TcD} {c : TDn} {e : ED} {dr : Dr} : lcD ρ0 t c e [] dr = some ([], dr) := Eq.trans rfl rfl
theorem lcD_cons {ρ0 : List (Option D)} {t : TcD} {c : TDn} {e : ED} {d : D} {ds : List D} {dr : Dr} : lcD ρ0 t c e (d :: ds) dr = ob (t d ρ0) fun ρ1 => ob (c ρ1 dr) fun p => cb p.1 (ob (e ρ1 p.2) fun q => ob (lcD ρ0 t c e ds q.2) fun r => some (q.1 :: r.1, r.2)) (lcD ρ0 t c e ds p.2) := Eq.trans rfl rfl
theorem eLc_of {vs : List Nat} {src : AD} {t : TcD} {c : TDn} {e : ED} {ρ : List (Option D)} {dr dr1 dr2 : Dr} {ds r : List D} (h1 : src ρ dr = some (ds, dr1)) (h2 : lcD (wipeE ρ vs) t c e ds dr1 = some (r, dr2)) (h3 : r.length ≤ 16777216) : eLc vs src t c e ρ dr = some (.lst r, dr2) := by
  unfold eLc
  rw [h1, Option.bind_some]
  simp only
  rw [h2, Option.bind_some]
  exact if_pos h3
theorem neP (a b : Int × Int) : neV (prI a) (prI b) = some (.bl (!decide (a = b))) := neV_ok (k := 1) (l := 1) (by decide) (by decide) (okD_tupI _) (okD_tupI _) prI_inj
theorem eqP (a b : Int × Int) : eqV (prI a) (prI b) = some (.bl (decide (a = b))) := eqV_ok (k := 1) (l := 1) (by decide) (by decide) (okD_tupI _) (okD_tupI _) prI_inj
theorem tail49 (ps pc : Addr) (h : ps ≠ pc) (cells : List Int) (seed : Int) (B : Int) (hB : B ≤ 500) (one other : Int × Int) (h1 : 1 ≤ one.1 ∧ one.1 ≤ B ∧ 1 ≤ one.2 ∧ one.2 ≤ B) (h2 : 1 ≤ other.1 ∧ other.1 ≤ B ∧ 1 ≤ other.2 ∧ other.2 ≤ B)
    (g1 : Nat.gcd one.1.toNat one.2.toNat = 1) (g2 : Nat.gcd other.1.toNat other.2.toNat = 1) (hD : 0 ≤ detF one other) (hne : one ≠ other) (y0 y2 y3 y4 y5 y6 y7 y8 y11 y12 y13 y14 y15 y16 y17 y18 : Sl) (g : SDn)
    (hg : g = (sSeq (sSet 11 (eCall m__law_lean (aC (eV 9) (aC (eV 10) aN))))
    (sSeq (sSet 12 (eCall m_chain (aC (eV 9) (aC (eV 10) aN))))
    (sSeq (sIf (tOr (tNot (tTru (eCall (m__law_eq 6) (aC (eV 12) (aC (eV 11) aN))))) (tOr (tNot (tTru (eCall m__law_is_chain (aC (eV 11) aN)))) (tOr (tOf (e2 neV (e2 ixV (eV 11) (eC (.int 0))) (eV 9))) (tOf (e2 neV (e2 ixV (eV 11) (e1 negV (eC (.int 1)))) (eV 10)))))) (sRet (eC (.bl false))) sNop)
    (sSeq (sFor (gN 8) (aRg2 (aC (eC (.int 1)) (aC (e2 subV (eN lenV (aC (eV 11) aN)) (eC (.int 1))) aN))) L1_law)
    (sSeq (sSet 8 (eCall m_draw (aC (eV 1) (aC (e2 subV (eN lenV (aC (eV 11) aN)) (eC (.int 1))) aN))))
    (sSeq (sSet 13 (eN mkT (aC (e2 addV (e2 ixV (e2 ixV (eV 11) (eV 8)) (eC (.int 0))) (e2 ixV (e2 ixV (eV 11) (e2 addV (eV 8) (eC (.int 1)))) (eC (.int 0)))) (aC (e2 addV (e2 ixV (e2 ixV (eV 11) (eV 8)) (eC (.int 1))) (e2 ixV (e2 ixV (eV 11) (e2 addV (eV 8) (eC (.int 1)))) (eC (.int 1)))) aN))))
    (sSeq (sSet 14 (e2 addV (e2 addV (e3 slV (eV 11) oN (oS (e2 addV (eV 8) (eC (.int 1))))) (eN mkL (aC (eV 13) aN))) (e3 slV (eV 11) (oS (e2 addV (eV 8) (eC (.int 1)))) oN)))
    (sFor (gN 15) (aRg1 (aC (eC (.int 5)) aN)) L2_law))))))))) :
    ∃ z8 z11 z12 z13 z14 z15 z16 z17 z18 cells' seed', g [y0, .fr (.tok ps), y2, y3, y4, y5, y6, y7, y8, .fr (prI one), .fr (prI other), y11, y12, y13, y14, y15, y16, y17, y18] (drS ps pc cells seed) =
      some (.nx [y0, .fr (.tok ps), y2, y3, y4, y5, y6, y7, z8, .fr (prI one), .fr (prI other), z11, z12, z13, z14, z15, z16, z17, z18], drS ps pc cells' seed') := by
  have ln := lean_d B one other (by omega) h1 h2 g1 g2 hD (drS ps pc cells seed)
  obtain ⟨cn, L, eC, n, S⟩ := chain_d B one other (by omega) h1 h2 g1 g2 hD (drS ps pc cells seed)
  generalize hC : chF other (3 * B + 3).toNat one = C at *
  subst eC
  have hbd := S.bd
  have hch := S.chn
  obtain ⟨rr, hrr⟩ := S.hd
  have hlen : (L ++ [other]).length ≤ 5000 := by
    have := S.len
    rw [List.length_append, List.length_singleton]
    omega
  have hL0 : L ≠ [] := by
    rintro rfl
    simp at hrr
    exact hne hrr.1.symm
  have hl2 : 2 ≤ (L ++ [other]).length := by
    have := List.length_pos_iff.mpr hL0
    rw [List.length_append, List.length_singleton]
    omega
  have hok : ∀ x ∈ L ++ [other], okP x = true := by
    rw [hrr] at hch hbd ⊢
    exact cop_all rr one hch (fun x hx => ⟨(hbd x hx).1, (hbd x hx).2.2.1⟩) g1
  have hcb : chainB (L ++ [other]) = true := chB_of _ (by simp) hok hch
  have hBd : Bd (L ++ [other]) := fun x hx => by have := hbd x hx; omega
  have lc := law_is_chain_d (L ++ [other]) (by omega) hBd (drS ps pc cells seed)
  rw [hcb] at lc
  have le : m__law_eq 6 [.lst ((L ++ [other]).map prI), .lst ((L ++ [other]).map prI)] (drS ps pc cells seed) = some (.bl true, drS ps pc cells seed) := by
    have := law_eq_tups 3 ((L ++ [other]).map fun w => [w.1, w.2]) (by rw [List.length_map]; omega) (fun t ht => by
      obtain ⟨w, _, rfl⟩ := List.mem_map.mp ht
      simp) (drS ps pc cells seed)
    rw [List.map_map] at this
    exact this
  have i0 : atI ((L ++ [other]).map prI) 0 = some (prI one) := by rw [hrr]; exact atI_of 0 rfl rfl
  have i1 : atI ((L ++ [other]).map prI) (-1) = some (prI other) := by rw [List.map_append]; exact atI_last
  have n0 : neV (prI one) (prI one) = some (.bl false) := by
    rw [neP]; simp
  have n1 : neV (prI other) (prI other) = some (.bl false) := by
    rw [neP]; simp
  have pk2 : ∀ a b : Int, mkT [.int a, .int b] = some (prI (a, b)) := fun a b => mkT_2
  -- no member is the sum of its neighbours
  have hk1 : okR 1 (((L ++ [other]).length : Int) - 1) := okR_s (by omega)
  have hkn : (((L ++ [other]).length : Int) - 1 - 1).toNat = (L ++ [other]).length - 2 := by omega
  have LP := loop_inv (α := Nat) (t := gN 8) (g := L1_law) (enc := fun (k : Nat) => D.int (1 + (k : Int))) (xs := List.range ((L ++ [other]).length - 2))
    (fun pre env dr' => dr' = drS ps pc cells seed ∧ ∃ z8, env = [y0, .fr (.tok ps), y2, y3, y4, y5, y6, y7, z8, .fr (prI one), .fr (prI other), .fr (.lst ((L ++ [other]).map prI)), .fr (.lst ((L ++ [other]).map prI)), y13, y14, y15, y16, y17, y18])
    (by
      rintro pre k post env dr' hx ⟨rfl, z8, rfl⟩
      obtain ⟨_, _, e3⟩ := range_split hx
      have x0 := wAt_at (R := L ++ [other]) (k := k) (i := 1 + (k : Int) - 1) (by omega) (by omega)
      have x1 := wAt_at (R := L ++ [other]) (k := k + 1) (i := 1 + (k : Int)) (by omega) (by omega)
      have x2 := wAt_at (R := L ++ [other]) (k := k + 2) (i := 1 + (k : Int) + 1) (by omega) (by omega)
      have hm := mid_ne other (L ++ [other]) k hch S.dc (fun x hx => ⟨(hbd x hx).1, (hbd x hx).2.2.2.2.2⟩) (by omega)
      have he : eqV (prI (wAt (L ++ [other]) (k + 1))) (prI ((wAt (L ++ [other]) k).1 + (wAt (L ++ [other]) (k + 2)).1, (wAt (L ++ [other]) k).2 + (wAt (L ++ [other]) (k + 2)).2)) = some (.bl false) := by
        rw [eqP, decide_eq_false hm]
      refine ⟨_, _, _, rfl, ?_, rfl, .fr (.int (1 + (k : Int))), rfl⟩
      unfold L1_law
      simp only [sIf_some, tOf_some, e2_some, eN_some, aC_some, aN_some, eV_0, eV_s, eC_some, ob_some, pk_some, List.map_cons, List.map_nil, List.set_cons_succ, List.set_cons_zero, Sl_p_fr, ixV_lst, x0, x1, x2, pr0, pr1, subV_int, addV_int, pk2, he, pb_bl, cb_false, sNop_some])
    (env := [y0, .fr (.tok ps), y2, y3, y4, y5, y6, y7, y8, .fr (prI one), .fr (prI other), .fr (.lst ((L ++ [other]).map prI)), .fr (.lst ((L ++ [other]).map prI)), y13, y14, y15, y16, y17, y18]) (dr := drS ps pc cells seed) ⟨rfl, _, rfl⟩
  obtain ⟨env', dr', lp, rfl, z8, rfl⟩ := LP
  obtain ⟨k', c1, s1, k1, k2, e1⟩ := draw_some h cells seed (((L ++ [other]).length : Int) - 1) (by omega) (by omega)
  obtain ⟨k, rfl⟩ : ∃ m : Nat, k' = (m : Int) := ⟨k'.toNat, by omega⟩
  have hk : k + 1 < (L ++ [other]).length := by omega
  have x0 := wAt_at (R := L ++ [other]) (k := k) (i := (k : Int)) rfl (by omega)
  have x1 := wAt_at (R := L ++ [other]) (k := k + 1) (i := (k : Int) + 1) (by omega) hk
  have b0 := hbd _ (wAt_mem (R := L ++ [other]) (k := k) (by omega))
  have b1 := hbd _ (wAt_mem (R := L ++ [other]) (k := k + 1) hk)
  generalize hC' : L ++ [other] = C at *
  obtain ⟨mid, hmid⟩ : ∃ w : Int × Int, w = ((wAt C k).1 + (wAt C (k + 1)).1, (wAt C k).2 + (wAt C (k + 1)).2) := ⟨_, rfl⟩
  have t1 := cutD_to (xs := C.map prI) (k := k + 1) (i := (k : Int) + 1) (by omega) (by simp; omega)
  have t2 := cutD_from (xs := C.map prI) (k := k + 1) (i := (k : Int) + 1) (by omega) (by simp; omega)
  have a1 := addV_lst (xs := (C.map prI).take (k + 1)) (ys := [prI mid]) (by simp; omega)
  have a2 := addV_lst (xs := (C.map prI).take (k + 1) ++ [prI mid]) (ys := (C.map prI).drop (k + 1)) (by simp; omega)
  have eW : (C.map prI).take (k + 1) ++ [prI mid] ++ (C.map prI).drop (k + 1) = (C.take (k + 1) ++ [mid] ++ C.drop (k + 1)).map prI := by simp
  rw [eW] at a2
  have hWb : ∀ w ∈ C.take (k + 1) ++ [mid] ++ C.drop (k + 1), 0 ≤ w.1 ∧ w.1 ≤ 1000 ∧ 0 ≤ w.2 ∧ w.2 ≤ 1000 := fun w hw => by
    rcases List.mem_append.mp hw with hw | hw
    · rcases List.mem_append.mp hw with hw | hw
      · have := hbd w (List.mem_of_mem_take hw); omega
      · rw [List.mem_singleton.mp hw, hmid]
        simp only
        omega
    · have := hbd w (List.mem_of_mem_drop hw); omega
  have LQ := loop_inv (α := Nat) (t := gN 15) (g := L2_law) (enc := fun (k : Nat) => D.int (0 + (k : Int))) (xs := List.range 5)
    (fun pre env dr' => ∃ cells seed z15 z16 z17 z18, dr' = drS ps pc cells seed ∧ env = [y0, .fr (.tok ps), y2, y3, y4, y5, y6, y7, .fr (.int k), .fr (prI one), .fr (prI other), .fr (.lst (C.map prI)), .fr (.lst (C.map prI)), .fr (prI mid), .fr (.lst ((C.take (k + 1) ++ [mid] ++ C.drop (k + 1)).map prI)), z15, z16, z17, z18])
    (by
      rintro pre x post env dr' hx ⟨cells, seed, z15, z16, z17, z18, rfl, rfl⟩
      obtain ⟨w16, w17, w18, c', s', hz⟩ := again49 ps pc h cells seed C (C.take (k + 1) ++ [mid] ++ C.drop (k + 1)) (fun w hw => by have := hbd w hw; omega) hWb (by omega) (by simp; omega) (by simp) y0 y2 y3 y4 y5 y6 y7 (.fr (.int k)) (.fr (prI one)) (.fr (prI other)) (.fr (.lst (C.map prI))) (.fr (prI mid)) (.fr (.int (0 + (x : Int)))) z16 z17 z18
      exact ⟨_, _, _, rfl, hz, c', s', _, _, _, _, rfl, rfl⟩)
    (env := [y0, .fr (.tok ps), y2, y3, y4, y5, y6, y7, .fr (.int k), .fr (prI one), .fr (prI other), .fr (.lst (C.map prI)), .fr (.lst (C.map prI)), .fr (prI mid), .fr (.lst ((C.take (k + 1) ++ [mid] ++ C.drop (k + 1)).map prI)), y15, y16, y17, y18]) (dr := drS ps pc c1 s1) ⟨_, _, _, _, _, _, rfl, rfl⟩
  obtain ⟨env', dr', lq, c5, s5, z15, z16, z17, z18, rfl, rfl⟩ := LQ
  have hk5 : okR 0 5 := okR_s (by omega)
  refine ⟨.fr (.int k), .fr (.lst (C.map prI)), .fr (.lst (C.map prI)), .fr (prI mid), .fr (.lst ((C.take (k + 1) ++ [mid] ++ C.drop (k + 1)).map prI)), z15, z16, z17, z18, c5, s5, ?_⟩
  subst hg
  simp only [sSeq_some, sSet_some, eCall_some, aC_some, aN_some, eV_0, eV_s, ob_some, frz_some, pk_some, List.map_cons, List.map_nil, Sl_f_fr, Sl_p_fr, ln, List.set_cons_succ, List.set_cons_zero, sqF_nx, cn, sIf_some, tOr_some, tNot_some, tTru_some, le, truD_bl, Bool.not_true, cb_false, lc, tOf_some, e2_some, e1_some, eC_some, negV_int, ixV_lst, i0, i1, n0, n1, pb_bl, sNop_some, sFor_some, aRg2_some, eN_some, lenV_lst, List.length_map, subV_int, rg2F_ok hk1, rgD_map, hkn]
  rw [lp]
  simp only [sSeq_some, sSet_some, eCall_some, aC_some, aN_some, eV_0, eV_s, ob_some, frz_some, pk_some, List.map_cons, List.map_nil, Sl_f_fr, Sl_p_fr, List.set_cons_succ, List.set_cons_zero, sqF_nx, e2_some, eC_some, ixV_lst, eN_some, lenV_lst, List.length_map, subV_int, e1, x0, x1, pr0, pr1, addV_int, pk2, ← hmid, e3_some, oN_some, oS_some, oSF_int, slV_lst, t1, t2, mkL_1, a1, a2, sFor_some, aRg1_some, rg1F_ok hk5, rgD_map]
  exact lq
theorem fin49 (ps pc : Addr) (h : ps ≠ pc) (cells : List Int) (seed : Int) (a b : Int × Int) (h1 : 1 ≤ a.1 ∧ a.1 ≤ 60 ∧ 1 ≤ a.2 ∧ a.2 ≤ 60) (h2 : 1 ≤ b.1 ∧ b.1 ≤ 60 ∧ 1 ≤ b.2 ∧ b.2 ≤ 60)
    (g1 : Nat.gcd a.1.toNat a.2.toNat = 1) (g2 : Nat.gcd b.1.toNat b.2.toNat = 1) (hD : 0 ≤ detF a b) (y0 y2 y3 y4 y5 y6 y7 y8 y11 y12 y13 y14 y15 y16 y17 y18 : Sl) (g : SDn)
    (hg : ∀ (y8 y11 y12 y13 y14 y15 y16 y17 y18 : Sl) (cells : List Int) (seed : Int), a ≠ b → ∃ z8 z11 z12 z13 z14 z15 z16 z17 z18 cells' seed', g [y0, .fr (.tok ps), y2, y3, y4, y5, y6, y7, y8, .fr (prI a), .fr (prI b), y11, y12, y13, y14, y15, y16, y17, y18] (drS ps pc cells seed) =
      some (.nx [y0, .fr (.tok ps), y2, y3, y4, y5, y6, y7, z8, .fr (prI a), .fr (prI b), z11, z12, z13, z14, z15, z16, z17, z18], drS ps pc cells' seed')) :
    ∃ z8 z11 z12 z13 z14 z15 z16 z17 z18 cells' seed', sIf (tOf (e2 neV (eV 9) (eV 10))) g sNop [y0, .fr (.tok ps), y2, y3, y4, y5, y6, y7, y8, .fr (prI a), .fr (prI b), y11, y12, y13, y14, y15, y16, y17, y18] (drS ps pc cells seed) =
      some (.nx [y0, .fr (.tok ps), y2, y3, y4, y5, y6, y7, z8, .fr (prI a), .fr (prI b), z11, z12, z13, z14, z15, z16, z17, z18], drS ps pc cells' seed') := by
  have hn := neP a b
  by_cases e : a = b
  · refine ⟨y8, y11, y12, y13, y14, y15, y16, y17, y18, cells, seed, ?_⟩
    · rw [decide_eq_true e] at hn
      simp only [sIf_some, tOf_some, e2_some, eV_0, eV_s, ob_some, pk_some, List.map_cons, List.map_nil, Sl_p_fr, hn, pb_bl, Bool.not_true, cb_false, sNop_some]
  · obtain ⟨z8, z11, z12, z13, z14, z15, z16, z17, z18, c', s', hz⟩ := hg y8 y11 y12 y13 y14 y15 y16 y17 y18 cells seed e
    refine ⟨z8, z11, z12, z13, z14, z15, z16, z17, z18, c', s', ?_⟩
    rw [decide_eq_false e] at hn
    simp only [sIf_some, tOf_some, e2_some, eV_0, eV_s, ob_some, pk_some, List.map_cons, List.map_nil, Sl_p_fr, hn, pb_bl, Bool.not_false, cb_true]
    exact hz
theorem round49 (ps pc : Addr) (h : ps ≠ pc) (cells : List Int) (seed : Int) (y0 y2 y3 y4 y5 y6 y7 y8 y9 y10 y11 y12 y13 y14 y15 y16 y17 y18 : Sl) :
    ∃ z3 z4 z5 z6 z7 z8 z9 z10 z11 z12 z13 z14 z15 z16 z17 z18 cells' seed', L3_law [y0, .fr (.tok ps), y2, y3, y4, y5, y6, y7, y8, y9, y10, y11, y12, y13, y14, y15, y16, y17, y18] (drS ps pc cells seed) =
      some (.nx [y0, .fr (.tok ps), y2, z3, z4, z5, z6, z7, z8, z9, z10, z11, z12, z13, z14, z15, z16, z17, z18], drS ps pc cells' seed') := by
  obtain ⟨j, hj, c0, s0, e0⟩ := pick_d h cells seed [.int 6, .int 20, .int 60] (by simp) (by simp)
  have hv : ∃ m : Int, [D.int 6, .int 20, .int 60][j] = .int m ∧ 1 ≤ m ∧ m ≤ 60 := by
    match j, hj with
    | 0, _ => exact ⟨_, rfl, by omega, by omega⟩
    | 1, _ => exact ⟨_, rfl, by omega, by omega⟩
    | 2, _ => exact ⟨_, rfl, by omega, by omega⟩
  obtain ⟨m, hm, m1, m2⟩ := hv
  rw [hm] at e0
  obtain ⟨p, c1, s1, p1, p2, e1⟩ := draw_some h c0 s0 m (by omega) (by omega)
  obtain ⟨q, c2, s2, q1, q2, e2'⟩ := draw_some h c1 s1 m (by omega) (by omega)
  obtain ⟨r, c3, s3, r1, r2, e3'⟩ := draw_some h c2 s2 m (by omega) (by omega)
  obtain ⟨s, c4, s4, t1, t2, e4⟩ := draw_some h c3 s3 m (by omega) (by omega)
  obtain ⟨a, ha, a1, a2, a3, a4, a5⟩ := reduced_d (1 + p) (1 + q) (by omega) (by omega) (by omega) (by omega) (drS ps pc c4 s4)
  obtain ⟨b, hb, b1, b2, b3, b4, b5⟩ := reduced_d (1 + r) (1 + s) (by omega) (by omega) (by omega) (by omega) (drS ps pc c4 s4)
  have ha' := ha (drS ps pc c4 s4)
  have hb' := hb (drS ps pc c4 s4)
  have hk : okR 0 4 := okR_s (by omega)
  have hcomp : ∀ w0 w2 w4 w5 w6 w7 w8 w9 w10 w11 w12 w13 w14 w15 w16 w17 w18 : Option D, eLc [8] (aRg1 (aC (eC (.int 4)) aN)) (cN 8) cYes (e2 addV (eC (.int 1)) (eCall m_draw (aC (eV 1) (aC (eV 3) aN)))) [w0, some (.tok ps), w2, some (.int m), w4, w5, w6, w7, w8, w9, w10, w11, w12, w13, w14, w15, w16, w17, w18] (drS ps pc c0 s0) =
      some (.lst [.int (1 + p), .int (1 + q), .int (1 + r), .int (1 + s)], drS ps pc c4 s4) := by
    intro w0 w2 w4 w5 w6 w7 w8 w9 w10 w11 w12 w13 w14 w15 w16 w17 w18
    refine eLc_of (ds := [.int 0, .int 1, .int 2, .int 3]) (dr1 := drS ps pc c0 s0) ?_ ?_ (by simp)
    · simp only [aRg1_some, aC_some, aN_some, eC_some, ob_some, rg1F_ok hk]
      rfl
    · simp only [wipeE_cons, wipeE_nil, List.set_cons_succ, List.set_cons_zero, lcD_cons, lcD_nil, cN_some, ob_some, cYes_some, cb_true, e2_some, eC_some, eCall_some, aC_some, aN_some, eV_0, eV_s, e1, e2', e3', e4, addV_int]
  have hmap : ([("k", 8)] : List (Str × Nat)).map (·.2) = [8] := rfl
  have mm1 := mulV'_ok (i := a.1) (j := b.2) (by omega)
  have mm2 := mulV'_ok (i := b.1) (j := a.2) (by omega)
  by_cases sw : b.1 * a.2 < a.1 * b.2
  · have hD : 0 ≤ detF b a := by unfold detF; omega
    obtain ⟨z8, z11, z12, z13, z14, z15, z16, z17, z18, c', s', hz⟩ := fin49 ps pc h c4 s4 b a (by omega) (by omega) b5 a5 hD y0 y2 (.fr (.int m)) (.fr (.int (1 + p))) (.fr (.int (1 + q))) (.fr (.int (1 + r))) (.fr (.int (1 + s))) y8 y11 y12 y13 y14 y15 y16 y17 y18 _ (fun y8 y11 y12 y13 y14 y15 y16 y17 y18 cells seed hne => tail49 ps pc h cells seed 60 (by omega) b a (by omega) (by omega) b5 a5 hD hne y0 y2 (.fr (.int m)) (.fr (.int (1 + p))) (.fr (.int (1 + q))) (.fr (.int (1 + r))) (.fr (.int (1 + s))) y8 y11 y12 y13 y14 y15 y16 y17 y18 _ rfl)
    refine ⟨.fr (.int m), .fr (.int (1 + p)), .fr (.int (1 + q)), .fr (.int (1 + r)), .fr (.int (1 + s)), z8, .fr (prI b), .fr (prI a), z11, z12, z13, z14, z15, z16, z17, z18, c', s', ?_⟩
    rw [← hz]
    unfold L3_law
    rw [hmap]
    simp only [sSeq_some, sSet_some, eCall_some, aC_some, aN_some, eN_some, eC_some, eV_0, eV_s, ob_some, frz_some, pk_some, List.map_cons, List.map_nil, Sl_f_fr, Sl_p_fr, mkL_3, e0, List.set_cons_succ, List.set_cons_zero, sqF_nx, sAsgT_some, hcomp, ha', hb', sPar_some, parF_2, sIf_some, tOf_some, e2_some, gN_some, gsC_some, gs0_some, gTL, pr0, pr1, mm1, mm2, cmpV_int, sw, decide_true, pb_bl, cb_true, sNop_some]
  · have hD : 0 ≤ detF a b := by unfold detF; omega
    obtain ⟨z8, z11, z12, z13, z14, z15, z16, z17, z18, c', s', hz⟩ := fin49 ps pc h c4 s4 a b (by omega) (by omega) a5 b5 hD y0 y2 (.fr (.int m)) (.fr (.int (1 + p))) (.fr (.int (1 + q))) (.fr (.int (1 + r))) (.fr (.int (1 + s))) y8 y11 y12 y13 y14 y15 y16 y17 y18 _ (fun y8 y11 y12 y13 y14 y15 y16 y17 y18 cells seed hne => tail49 ps pc h cells seed 60 (by omega) a b (by omega) (by omega) a5 b5 hD hne y0 y2 (.fr (.int m)) (.fr (.int (1 + p))) (.fr (.int (1 + q))) (.fr (.int (1 + r))) (.fr (.int (1 + s))) y8 y11 y12 y13 y14 y15 y16 y17 y18 _ rfl)
    refine ⟨.fr (.int m), .fr (.int (1 + p)), .fr (.int (1 + q)), .fr (.int (1 + r)), .fr (.int (1 + s)), z8, .fr (prI a), .fr (prI b), z11, z12, z13, z14, z15, z16, z17, z18, c', s', ?_⟩
    rw [← hz]
    unfold L3_law
    rw [hmap]
    simp only [sSeq_some, sSet_some, eCall_some, aC_some, aN_some, eN_some, eC_some, eV_0, eV_s, ob_some, frz_some, pk_some, List.map_cons, List.map_nil, Sl_f_fr, Sl_p_fr, mkL_3, e0, List.set_cons_succ, List.set_cons_zero, sqF_nx, sAsgT_some, hcomp, ha', hb', sPar_some, parF_2, sIf_some, tOf_some, e2_some, gN_some, gsC_some, gs0_some, gTL, pr0, pr1, mm1, mm2, cmpV_int, sw, decide_false, pb_bl, cb_false, sNop_some]
theorem law_pure : PureLaw := by
  intro ps pc cells seed h
  unfold b_law
  have L := loop_inv (α := Nat) (t := gN 2) (g := L3_law) (enc := fun (k : Nat) => D.int (0 + (k : Int))) (xs := List.range 4)
    (fun pre env dr' => ∃ cells seed y2 y3 y4 y5 y6 y7 y8 y9 y10 y11 y12 y13 y14 y15 y16 y17 y18, dr' = drS ps pc cells seed ∧ env = [.no, .fr (.tok ps), y2, y3, y4, y5, y6, y7, y8, y9, y10, y11, y12, y13, y14, y15, y16, y17, y18])
    (by
      rintro pre x post env dr' hx ⟨cells, seed, y2, y3, y4, y5, y6, y7, y8, y9, y10, y11, y12, y13, y14, y15, y16, y17, y18, rfl, rfl⟩
      obtain ⟨z3, z4, z5, z6, z7, z8, z9, z10, z11, z12, z13, z14, z15, z16, z17, z18, c', s', hz⟩ := round49 ps pc h cells seed .no (.fr (.int (0 + (x : Int)))) y3 y4 y5 y6 y7 y8 y9 y10 y11 y12 y13 y14 y15 y16 y17 y18
      exact ⟨_, _, _, rfl, hz, c', s', _, _, _, _, _, _, _, _, _, _, _, _, _, _, _, _, _, rfl, rfl⟩)
    (env := [.no, .fr (.tok ps), .no, .no, .no, .no, .no, .no, .no, .no, .no, .no, .no, .no, .no, .no, .no, .no, .no]) (dr := drS ps pc cells seed) ⟨_, _, _, _, _, _, _, _, _, _, _, _, _, _, _, _, _, _, _, rfl, rfl⟩
  obtain ⟨env', dr', hL, cc, ss, y2, y3, y4, y5, y6, y7, y8, y9, y10, y11, y12, y13, y14, y15, y16, y17, y18, rfl, rfl⟩ := L
  have r4 : rg1F [.int 4] (drS ps pc cells seed) = some ((List.range 4).map fun (k : Nat) => D.int (0 + (k : Int)), drS ps pc cells seed) := rg1F_ok (okR_s (by omega))
  obtain ⟨cn, _⟩ := chain_d 3 (3, 2) (3, 2) (by omega) (by simp) (by simp) (by decide) (by decide) (by decide) (drS ps pc cc ss)
  rw [chF_end] at cn
  have le : m__law_eq 6 [.lst [prI (3, 2)], .lst [prI (3, 2)]] (drS ps pc cc ss) = some (.bl true, drS ps pc cc ss) := law_eq_tups 3 [[3, 2]] (by simp) (by simp) (drS ps pc cc ss)
  have pk2 : ∀ a b : Int, mkT [.int a, .int b] = some (prI (a, b)) := fun a b => mkT_2
  refine ⟨drS ps pc cc ss, ?_⟩
  simp only [sSeq_some, sFor_some, aRg1_some, aC_some, aN_some, eC_some, ob_some, r4, List.replicate]
  rw [hL]
  simp only [sqF_nx, sRet_some, eCall_some, aC_some, aN_some, eN_some, eC_some, ob_some, pk2, cn, List.map_cons, List.map_nil, mkL_1, le]
end Law

set_option maxRecDepth 100000
set_option maxHeartbeats 4000000
namespace Law
open PySem PySem.Spec PyProof.Rows L2 Dk
theorem all_mk (hp : PureLaw) {l : PySem.W.OpenLaw} {w : World} {K : PySem.W.Frag} {h : Heap} {mg : Str → Option Value} {fa : Addr} (X : K.In h) (G : h.Ns mainGlobals mg) (hfa : mg "law" = some (.ref fa)) {f_next_in_chain f_chain f_is_chain f__law_state f__law_draw f__law_pick f__law_eq f__law_gcd f__law_reduced f__law_lean f__law_is_chain f_law : Addr} {od_next_in_chain an_next_in_chain od_chain an_chain od_is_chain an_is_chain od__law_state an__law_state od__law_draw an__law_draw od__law_pick an__law_pick od__law_eq an__law_eq od__law_gcd an__law_gcd od__law_reduced an__law_reduced od__law_lean an__law_lean od__law_is_chain an__law_is_chain od_law an_law : Option Addr} {sl_next_in_chain sl_chain sl_is_chain sl__law_state sl__law_draw sl__law_pick sl__law_eq sl__law_gcd sl__law_reduced sl__law_lean sl__law_is_chain sl_law : Array (Option Value)} {oc_next_in_chain kV_next_in_chain dc_next_in_chain pm_next_in_chain cd_next_in_chain ct_next_in_chain oc_chain kV_chain dc_chain pm_chain cd_chain ct_chain oc_is_chain kV_is_chain dc_is_chain pm_is_chain cd_is_chain ct_is_chain oc__law_state kV__law_state dc__law_state pm__law_state cd__law_state ct__law_state oc__law_draw kV__law_draw dc__law_draw pm__law_draw cd__law_draw ct__law_draw oc__law_pick kV__law_pick dc__law_pick pm__law_pick cd__law_pick ct__law_pick oc__law_eq kV__law_eq dc__law_eq pm__law_eq cd__law_eq ct__law_eq oc__law_gcd kV__law_gcd dc__law_gcd pm__law_gcd cd__law_gcd ct__law_gcd oc__law_reduced kV__law_reduced dc__law_reduced pm__law_reduced cd__law_reduced ct__law_reduced oc__law_lean kV__law_lean dc__law_lean pm__law_lean cd__law_lean ct__law_lean oc__law_is_chain kV__law_is_chain dc__law_is_chain pm__law_is_chain cd__law_is_chain ct__law_is_chain oc_law kV_law dc_law pm_law cd_law ct_law : Value}
    (a_next_in_chain : PySem.W.nsIn K mainGlobals "next_in_chain" = some (some (.ref f_next_in_chain)))
    (l_next_in_chain : K.lookup f_next_in_chain = some ⟨oc_next_in_chain, od_next_in_chain, .func (PySem.W.fnOf "next_in_chain" "next_in_chain" (defArgs s_next_in_chain) (defBody s_next_in_chain) (defScope s_next_in_chain) .none kV_next_in_chain dc_next_in_chain pm_next_in_chain an_next_in_chain cd_next_in_chain ct_next_in_chain), sl_next_in_chain⟩)
    (c_next_in_chain : PySem.W.codeIn K cd_next_in_chain "next_in_chain" = true)
    (k_next_in_chain : PySem.W.keepIn K (.ref f_next_in_chain) = true)
    (a_chain : PySem.W.nsIn K mainGlobals "chain" = some (some (.ref f_chain)))
    (l_chain : K.lookup f_chain = some ⟨oc_chain, od_chain, .func (PySem.W.fnOf "chain" "chain" (defArgs s_chain) (defBody s_chain) (defScope s_chain) .none kV_chain dc_chain pm_chain an_chain cd_chain ct_chain), sl_chain⟩)
    (c_chain : PySem.W.codeIn K cd_chain "chain" = true)
    (k_chain : PySem.W.keepIn K (.ref f_chain) = true)
    (a_is_chain : PySem.W.nsIn K mainGlobals "is_chain" = some (some (.ref f_is_chain)))
    (l_is_chain : K.lookup f_is_chain = some ⟨oc_is_chain, od_is_chain, .func (PySem.W.fnOf "is_chain" "is_chain" (defArgs s_is_chain) (defBody s_is_chain) (defScope s_is_chain) .none kV_is_chain dc_is_chain pm_is_chain an_is_chain cd_is_chain ct_is_chain), sl_is_chain⟩)
    (c_is_chain : PySem.W.codeIn K cd_is_chain "is_chain" = true)
    (k_is_chain : PySem.W.keepIn K (.ref f_is_chain) = true)
    (a__law_state : PySem.W.nsIn K mainGlobals "_law_state" = some (some (.ref f__law_state)))
    (l__law_state : K.lookup f__law_state = some ⟨oc__law_state, od__law_state, .func (PySem.W.fnOf "_law_state" "_law_state" (defArgs s__law_state) (defBody s__law_state) (defScope s__law_state) .none kV__law_state dc__law_state pm__law_state an__law_state cd__law_state ct__law_state), sl__law_state⟩)
    (c__law_state : PySem.W.codeIn K cd__law_state "_law_state" = true)
    (k__law_state : PySem.W.keepIn K (.ref f__law_state) = true)
    (a__law_draw : PySem.W.nsIn K mainGlobals "_law_draw" = some (some (.ref f__law_draw)))
    (l__law_draw : K.lookup f__law_draw = some ⟨oc__law_draw, od__law_draw, .func (PySem.W.fnOf "_law_draw" "_law_draw" (defArgs s__law_draw) (defBody s__law_draw) (defScope s__law_draw) .none kV__law_draw dc__law_draw pm__law_draw an__law_draw cd__law_draw ct__law_draw), sl__law_draw⟩)
    (c__law_draw : PySem.W.codeIn K cd__law_draw "_law_draw" = true)
    (k__law_draw : PySem.W.keepIn K (.ref f__law_draw) = true)
    (a__law_pick : PySem.W.nsIn K mainGlobals "_law_pick" = some (some (.ref f__law_pick)))
    (l__law_pick : K.lookup f__law_pick = some ⟨oc__law_pick, od__law_pick, .func (PySem.W.fnOf "_law_pick" "_law_pick" (defArgs s__law_pick) (defBody s__law_pick) (defScope s__law_pick) .none kV__law_pick dc__law_pick pm__law_pick an__law_pick cd__law_pick ct__law_pick), sl__law_pick⟩)
    (c__law_pick : PySem.W.codeIn K cd__law_pick "_law_pick" = true)
    (k__law_pick : PySem.W.keepIn K (.ref f__law_pick) = true)
    (a__law_eq : PySem.W.nsIn K mainGlobals "_law_eq" = some (some (.ref f__law_eq)))
    (l__law_eq : K.lookup f__law_eq = some ⟨oc__law_eq, od__law_eq, .func (PySem.W.fnOf "_law_eq" "_law_eq" (defArgs s__law_eq) (defBody s__law_eq) (defScope s__law_eq) .none kV__law_eq dc__law_eq pm__law_eq an__law_eq cd__law_eq ct__law_eq), sl__law_eq⟩)
    (c__law_eq : PySem.W.codeIn K cd__law_eq "_law_eq" = true)
    (k__law_eq : PySem.W.keepIn K (.ref f__law_eq) = true)
    (a__law_gcd : PySem.W.nsIn K mainGlobals "_law_gcd" = some (some (.ref f__law_gcd)))
    (l__law_gcd : K.lookup f__law_gcd = some ⟨oc__law_gcd, od__law_gcd, .func (PySem.W.fnOf "_law_gcd" "_law_gcd" (defArgs s__law_gcd) (defBody s__law_gcd) (defScope s__law_gcd) .none kV__law_gcd dc__law_gcd pm__law_gcd an__law_gcd cd__law_gcd ct__law_gcd), sl__law_gcd⟩)
    (c__law_gcd : PySem.W.codeIn K cd__law_gcd "_law_gcd" = true)
    (k__law_gcd : PySem.W.keepIn K (.ref f__law_gcd) = true)
    (a__law_reduced : PySem.W.nsIn K mainGlobals "_law_reduced" = some (some (.ref f__law_reduced)))
    (l__law_reduced : K.lookup f__law_reduced = some ⟨oc__law_reduced, od__law_reduced, .func (PySem.W.fnOf "_law_reduced" "_law_reduced" (defArgs s__law_reduced) (defBody s__law_reduced) (defScope s__law_reduced) .none kV__law_reduced dc__law_reduced pm__law_reduced an__law_reduced cd__law_reduced ct__law_reduced), sl__law_reduced⟩)
    (c__law_reduced : PySem.W.codeIn K cd__law_reduced "_law_reduced" = true)
    (k__law_reduced : PySem.W.keepIn K (.ref f__law_reduced) = true)
    (a__law_lean : PySem.W.nsIn K mainGlobals "_law_lean" = some (some (.ref f__law_lean)))
    (l__law_lean : K.lookup f__law_lean = some ⟨oc__law_lean, od__law_lean, .func (PySem.W.fnOf "_law_lean" "_law_lean" (defArgs s__law_lean) (defBody s__law_lean) (defScope s__law_lean) .none kV__law_lean dc__law_lean pm__law_lean an__law_lean cd__law_lean ct__law_lean), sl__law_lean⟩)
    (c__law_lean : PySem.W.codeIn K cd__law_lean "_law_lean" = true)
    (k__law_lean : PySem.W.keepIn K (.ref f__law_lean) = true)
    (a__law_is_chain : PySem.W.nsIn K mainGlobals "_law_is_chain" = some (some (.ref f__law_is_chain)))
    (l__law_is_chain : K.lookup f__law_is_chain = some ⟨oc__law_is_chain, od__law_is_chain, .func (PySem.W.fnOf "_law_is_chain" "_law_is_chain" (defArgs s__law_is_chain) (defBody s__law_is_chain) (defScope s__law_is_chain) .none kV__law_is_chain dc__law_is_chain pm__law_is_chain an__law_is_chain cd__law_is_chain ct__law_is_chain), sl__law_is_chain⟩)
    (c__law_is_chain : PySem.W.codeIn K cd__law_is_chain "_law_is_chain" = true)
    (k__law_is_chain : PySem.W.keepIn K (.ref f__law_is_chain) = true)
    (a_law : PySem.W.nsIn K mainGlobals "law" = some (some (.ref f_law)))
    (l_law : K.lookup f_law = some ⟨oc_law, od_law, .func (PySem.W.fnOf "law" "law" (defArgs s_law) (defBody s_law) (defScope s_law) .none kV_law dc_law pm_law an_law cd_law ct_law), sl_law⟩)
    (c_law : PySem.W.codeIn K cd_law "law" = true)
    (k_law : PySem.W.keepIn K (.ref f_law) = true)
    (z_abs : PySem.W.nsIn K mainGlobals "abs" = some none)
    (z_all : PySem.W.nsIn K mainGlobals "all" = some none)
    (z_bool : PySem.W.nsIn K mainGlobals "bool" = some none)
    (z_int : PySem.W.nsIn K mainGlobals "int" = some none)
    (z_isinstance : PySem.W.nsIn K mainGlobals "isinstance" = some none)
    (z_len : PySem.W.nsIn K mainGlobals "len" = some none)
    (z_list : PySem.W.nsIn K mainGlobals "list" = some none)
    (z_max : PySem.W.nsIn K mainGlobals "max" = some none)
    (z_min : PySem.W.nsIn K mainGlobals "min" = some none)
    (z_range : PySem.W.nsIn K mainGlobals "range" = some none)
    (z_str : PySem.W.nsIn K mainGlobals "str" = some none)
    (z_tuple : PySem.W.nsIn K mainGlobals "tuple" = some none)
    (z_gcd : PySem.W.nsIn K mainGlobals "gcd" = some (some (.builtin "math.gcd"))) :
    ∃ fd : FuncData, (∀ (s : Shared) (v : Value), BindsTo s fd ⟨[v], []⟩ [("script", v)]) ∧ ∀ base : Heap, K.In base → base.Ns mainGlobals mg → FnOk l.prog w K mg base CX0 8 fa fd ["script"] (spLaw K) := by
  have e := hfa.symm.trans (PySem.W.mg_of X G a_law)
  cases e
  have T : Txt K mg := {
    b_abs := PySem.W.mg_none_of X G z_abs
    b_all := PySem.W.mg_none_of X G z_all
    b_bool := PySem.W.mg_none_of X G z_bool
    b_int := PySem.W.mg_none_of X G z_int
    b_isinstance := PySem.W.mg_none_of X G z_isinstance
    b_len := PySem.W.mg_none_of X G z_len
    b_list := PySem.W.mg_none_of X G z_list
    b_max := PySem.W.mg_none_of X G z_max
    b_min := PySem.W.mg_none_of X G z_min
    b_range := PySem.W.mg_none_of X G z_range
    b_str := PySem.W.mg_none_of X G z_str
    b_tuple := PySem.W.mg_none_of X G z_tuple
    g_gcd := PySem.W.mg_of X G z_gcd
    d_next_in_chain := ⟨_, _, fun_mk (st := s_next_in_chain) l_next_in_chain c_next_in_chain k_next_in_chain, PySem.W.mg_of X G a_next_in_chain⟩
    d_chain := ⟨_, _, fun_mk (st := s_chain) l_chain c_chain k_chain, PySem.W.mg_of X G a_chain⟩
    d_is_chain := ⟨_, _, fun_mk (st := s_is_chain) l_is_chain c_is_chain k_is_chain, PySem.W.mg_of X G a_is_chain⟩
    d__law_state := ⟨_, _, fun_mk (st := s__law_state) l__law_state c__law_state k__law_state, PySem.W.mg_of X G a__law_state⟩
    d__law_draw := ⟨_, _, fun_mk (st := s__law_draw) l__law_draw c__law_draw k__law_draw, PySem.W.mg_of X G a__law_draw⟩
    d__law_pick := ⟨_, _, fun_mk (st := s__law_pick) l__law_pick c__law_pick k__law_pick, PySem.W.mg_of X G a__law_pick⟩
    d__law_eq := ⟨_, _, fun_mk (st := s__law_eq) l__law_eq c__law_eq k__law_eq, PySem.W.mg_of X G a__law_eq⟩
    d__law_gcd := ⟨_, _, fun_mk (st := s__law_gcd) l__law_gcd c__law_gcd k__law_gcd, PySem.W.mg_of X G a__law_gcd⟩
    d__law_reduced := ⟨_, _, fun_mk (st := s__law_reduced) l__law_reduced c__law_reduced k__law_reduced, PySem.W.mg_of X G a__law_reduced⟩
    d__law_lean := ⟨_, _, fun_mk (st := s__law_lean) l__law_lean c__law_lean k__law_lean, PySem.W.mg_of X G a__law_lean⟩
    d__law_is_chain := ⟨_, _, fun_mk (st := s__law_is_chain) l__law_is_chain c__law_is_chain k__law_is_chain, PySem.W.mg_of X G a__law_is_chain⟩ }
  exact ⟨PySem.W.fnOf "law" "law" (defArgs s_law) (defBody s_law) (defScope s_law) .none kV_law dc_law pm_law an_law cd_law ct_law, fun s v => .of_eq rfl, fun base _ _ => w_law T hp (fun_mk (st := s_law) l_law c_law k_law)⟩
theorem walk {l : PySem.W.OpenLaw} {q : Program} {loose : List Str} {XP : (Str → Option Value) → Heap → Prop} {YP : World → Heap → Prop} {d : DefRec} {K : Params → PySem.W.Frag} (hn : l.most = some 63) (hdf : d.params.defaults = [])
    (hY : ∀ (w : World) (h : Heap), YP w h → (K w.params).In h)
    (F : ∀ (w : World) (mg : Str → Option Value) (fa : Addr) (h : Heap), (K w.params).In h → h.Ns mainGlobals mg → mg d.name = some (.ref fa) →
      ∃ fd : FuncData, (∀ (s : Shared) (u : Value), BindsTo s fd ⟨[u], []⟩ [("script", u)]) ∧ ∀ base : Heap, (K w.params).In base → base.Ns mainGlobals mg → FnOk l.prog w (K w.params) mg base CX0 8 fa fd ["script"] (spLaw (K w.params))) :
    PySem.W.WalkO q loose XP YP l.row.toRowW d [] (fun f vs => PySem.call f vs) :=
  L2.walk_of (n := 63) (k := 8) (x := "script") (CX := fun _ => CX0) (sp := fun w => spLaw (K w.params)) hn (by decide) hdf ⟨rfl, by decide, by decide⟩ hY F (fun _ _ a ns hl _ hS => ⟨a, ns, rfl, hS, hl, fun _ => rfl⟩) fun _ _ _ _ _ z => z
end Law
open PySem PySem.W PyProof.Rows
set_option maxRecDepth 100000 in
set_option maxHeartbeats 0 in
theorem PySem.Challenge.cw_gaphouse_k49_whole_chains_of_fractions_holds : PySem.Challenge.rw_gaphouse_k49_whole_chains_of_fractions.Holds := by
  w_on; o_law; k_head; (case hw => w_witness2)
  k_fill
  refine Law.walk (l := PySem.Challenge.rw_gaphouse_k49_whole_chains_of_fractions) rfl rfl (fun w h Y => PySem.W.kIn_of Y) ?F
  case F =>
    intro w mg fa h KX G hmg
    refine' Law.all_mk Law.law_pure KX G hmg ?a_next_in_chain ?l_next_in_chain ?c_next_in_chain ?k_next_in_chain ?a_chain ?l_chain ?c_chain ?k_chain ?a_is_chain ?l_is_chain ?c_is_chain ?k_is_chain ?a__law_state ?l__law_state ?c__law_state ?k__law_state ?a__law_draw ?l__law_draw ?c__law_draw ?k__law_draw ?a__law_pick ?l__law_pick ?c__law_pick ?k__law_pick ?a__law_eq ?l__law_eq ?c__law_eq ?k__law_eq ?a__law_gcd ?l__law_gcd ?c__law_gcd ?k__law_gcd ?a__law_reduced ?l__law_reduced ?c__law_reduced ?k__law_reduced ?a__law_lean ?l__law_lean ?c__law_lean ?k__law_lean ?a__law_is_chain ?l__law_is_chain ?c__law_is_chain ?k__law_is_chain ?a_law ?l_law ?c_law ?k_law ?z_abs ?z_all ?z_bool ?z_int ?z_isinstance ?z_len ?z_list ?z_max ?z_min ?z_range ?z_str ?z_tuple ?z_gcd
    (case a_next_in_chain => k_is)
    (case l_next_in_chain => k_is)
    (case c_next_in_chain => k_is)
    (case k_next_in_chain => k_is)
    (case a_chain => k_is)
    (case l_chain => k_is)
    (case c_chain => k_is)
    (case k_chain => k_is)
    (case a_is_chain => k_is)
    (case l_is_chain => k_is)
    (case c_is_chain => k_is)
    (case k_is_chain => k_is)
    (case a__law_state => k_is)
    (case l__law_state => k_is)
    (case c__law_state => k_is)
    (case k__law_state => k_is)
    (case a__law_draw => k_is)
    (case l__law_draw => k_is)
    (case c__law_draw => k_is)
    (case k__law_draw => k_is)
    (case a__law_pick => k_is)
    (case l__law_pick => k_is)
    (case c__law_pick => k_is)
    (case k__law_pick => k_is)
    (case a__law_eq => k_is)
    (case l__law_eq => k_is)
    (case c__law_eq => k_is)
    (case k__law_eq => k_is)
    (case a__law_gcd => k_is)
    (case l__law_gcd => k_is)
    (case c__law_gcd => k_is)
    (case k__law_gcd => k_is)
    (case a__law_reduced => k_is)
    (case l__law_reduced => k_is)
    (case c__law_reduced => k_is)
    (case k__law_reduced => k_is)
    (case a__law_lean => k_is)
    (case l__law_lean => k_is)
    (case c__law_lean => k_is)
    (case k__law_lean => k_is)
    (case a__law_is_chain => k_is)
    (case l__law_is_chain => k_is)
    (case c__law_is_chain => k_is)
    (case k__law_is_chain => k_is)
    (case a_law => k_is)
    (case l_law => k_is)
    (case c_law => k_is)
    (case k_law => k_is)
    (case z_abs => k_is)
    (case z_all => k_is)
    (case z_bool => k_is)
    (case z_int => k_is)
    (case z_isinstance => k_is)
    (case z_len => k_is)
    (case z_list => k_is)
    (case z_max => k_is)
    (case z_min => k_is)
    (case z_range => k_is)
    (case z_str => k_is)
    (case z_tuple => k_is)
    (case z_gcd => k_is)
