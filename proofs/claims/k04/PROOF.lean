import PyProof.Rows.All
import HandS.ForMost
import HandS.IsInst
import HandS.Defaults
import HandS.SetKeys
import HandS.Evl
import HandS.DictComp
import HandS.TupAny
import KE.KUnpackStar
import HandS.Style
import HandS.Star
import KE.KUnpack
import KE.GoesEnum
import KE.GoesMore
import PyProof.Draws
import HandS.SetBool
import HandS.SetFor
import HandS.SetTxt0
import KE.SortData
import HandS.Strs
import HandS.Head0
import HandS.Head1
import HandS.Head2
import HandS.HeadEnd
import HandS.HeadHook1
import HandS.HeadHook2
import HandS.WordsExc
import HandS.Ends
import KE.KStateDown
import PySem.Challenge.RW_modulehall_k04_whole_scopes
import Wide.All
import OpenK.AllK
import Wide.FinOn
import Lean
section
set_option Elab.async false
set_option linter.all false
set_option maxRecDepth 100000
set_option maxHeartbeats 4000000
/-! PDA: data trees, how a heap bears them, the state relation. -/
namespace PD
open PySem L2 Evl

def sS (s : List Nat) : Str := ⟨s.toArray⟩
theorem sS_inj {a b : List Nat} (h : sS a = sS b) : a = b := by
  have h1 : a.toArray = b.toArray := congrArg Str.cps h
  simpa using congrArg Array.toList h1
theorem sS_beq (a b : List Nat) : (sS a == sS b) = (a == b) := by
  by_cases h : a = b
  · subst h; simp
  · have h2 : ¬ sS a = sS b := fun e => h (sS_inj e)
    rw [beq_eq_false_iff_ne.mpr h2, beq_eq_false_iff_ne.mpr h]

inductive D where
  | non
  | bl (b : Bool)
  | int (i : Int)
  | str (s : List Nat)
  | tup (l : List D)
  | lst (l : List D)
  | dic (l : List (List Nat × D))
  | ins (c : Nat) (l : List D)
  | scr (l : List Int)
  | fnv (i : Nat)

/-- the classes of own objects: by number, the class's address and its fields -/
structure Cl where
  C : Addr
  fs : List Str
/-- what is known of the program's top -/
structure Tb where
  K : PySem.W.Frag
  cl : Nat → Option Cl
  fn : Nat → Option Addr

mutual
def Rp (T : Tb) (H : Hp) : V → D → Prop
  | v, .non => v = .non
  | v, .bl b => v = .bl b
  | v, .int i => v = .int i
  | v, .str s => v = .str (sS s)
  | v, .tup l => ∃ a xs, v = .ref a ∧ SqT T.K H a xs ∧ Rps T H xs l
  | v, .lst l => ∃ a xs, v = .ref a ∧ H a = some (.lst xs) ∧ Rps T H xs l
  | v, .dic l => ∃ a kvs, v = .ref a ∧ H a = some (.dK kvs) ∧ Rpd T H kvs l
  | v, .ins c l => ∃ a k dx fs, v = .ref a ∧ T.cl c = some k ∧ H a = some (.ins k.C dx fs) ∧ fs.map (·.1) = k.fs ∧ Rps T H (fs.map (·.2)) l
  | v, .scr l => ∃ a, v = .ref a ∧ SqL T.K H a (l.map V.int)
  | v, .fnv i => ∃ a, v = .ref a ∧ T.fn i = some a
def Rps (T : Tb) (H : Hp) : List V → List D → Prop
  | vs, [] => vs = []
  | vs, d :: ds => ∃ v r, vs = v :: r ∧ Rp T H v d ∧ Rps T H r ds
def Rpd (T : Tb) (H : Hp) : List (Key × V) → List (List Nat × D) → Prop
  | vs, [] => vs = []
  | vs, (k, d) :: ds => ∃ v r, vs = (.inr (sS k), v) :: r ∧ Rp T H v d ∧ Rpd T H r ds
end

mutual
theorem Rp.mono {T : Tb} {H H' : Hp} (e : Ex H H') : ∀ {d : D} {v : V}, Rp T H v d → Rp T H' v d
  | .non, _, h => h
  | .bl _, _, h => h
  | .int _, _, h => h
  | .str _, _, h => h
  | .tup _, _, h => by
    obtain ⟨a, xs, e1, e2, e3⟩ := h
    exact ⟨a, xs, e1, ex_t e e2, Rps.mono e e3⟩
  | .lst _, _, h => by
    obtain ⟨a, xs, e1, e2, e3⟩ := h
    exact ⟨a, xs, e1, e a _ e2, Rps.mono e e3⟩
  | .dic _, _, h => by
    obtain ⟨a, xs, e1, e2, e3⟩ := h
    exact ⟨a, xs, e1, e a _ e2, Rpd.mono e e3⟩
  | .ins _ _, _, h => by
    obtain ⟨a, k, dx, fs, e1, e2, e3, e4, e5⟩ := h
    exact ⟨a, k, dx, fs, e1, e2, e a _ e3, e4, Rps.mono e e5⟩
  | .scr _, _, h => by
    obtain ⟨a, e1, e2⟩ := h
    exact ⟨a, e1, ex_l e e2⟩
  | .fnv _, _, h => h
theorem Rps.mono {T : Tb} {H H' : Hp} (e : Ex H H') : ∀ {ds : List D} {vs : List V}, Rps T H vs ds → Rps T H' vs ds
  | [], _, h => h
  | d :: ds, _, h => by
    obtain ⟨v, r, e1, e2, e3⟩ := h
    exact ⟨v, r, e1, Rp.mono e e2, Rps.mono e e3⟩
theorem Rpd.mono {T : Tb} {H H' : Hp} (e : Ex H H') : ∀ {ds : List (List Nat × D)} {vs : List (Key × V)}, Rpd T H vs ds → Rpd T H' vs ds
  | [], _, h => h
  | (k, d) :: ds, _, h => by
    obtain ⟨v, r, e1, e2, e3⟩ := h
    exact ⟨v, r, e1, Rp.mono e e2, Rpd.mono e e3⟩
end

theorem Rps.nil {T : Tb} {H : Hp} : Rps T H [] [] := rfl
theorem Rps.cons {T : Tb} {H : Hp} {v : V} {d : D} {vs : List V} {ds : List D} (h : Rp T H v d) (r : Rps T H vs ds) : Rps T H (v :: vs) (d :: ds) := ⟨v, vs, rfl, h, r⟩
theorem Rps.length {T : Tb} {H : Hp} : ∀ {ds : List D} {vs : List V}, Rps T H vs ds → vs.length = ds.length
  | [], _, h => by cases (show _ = [] from h); rfl
  | d :: ds, _, h => by
    obtain ⟨v, r, rfl, _, h⟩ := h
    simp [Rps.length h]
theorem Rps.append {T : Tb} {H : Hp} : ∀ {ds es : List D} {vs us : List V}, Rps T H vs ds → Rps T H us es → Rps T H (vs ++ us) (ds ++ es)
  | [], _, _, _, h, g => by cases (show _ = [] from h); exact g
  | d :: ds, _, _, _, h, g => by
    obtain ⟨v, r, rfl, h1, h2⟩ := h
    exact ⟨v, _, rfl, h1, Rps.append h2 g⟩
theorem Rps.get {T : Tb} {H : Hp} : ∀ {ds : List D} {vs : List V} {i : Nat} {d : D}, Rps T H vs ds → ds[i]? = some d → ∃ v, vs[i]? = some v ∧ Rp T H v d
  | [], _, _, _, _, e => by simp at e
  | d :: ds, _, 0, _, h, e => by
    obtain ⟨v, r, rfl, h1, h2⟩ := h
    simp at e; subst e
    exact ⟨v, rfl, h1⟩
  | d :: ds, _, i + 1, _, h, e => by
    obtain ⟨v, r, rfl, h1, h2⟩ := h
    obtain ⟨u, h3, h4⟩ := Rps.get (i := i) h2 (by simpa using e)
    exact ⟨u, by simpa using h3, h4⟩
theorem Rps.getv {T : Tb} {H : Hp} : ∀ {ds : List D} {vs : List V} {i : Nat} {v : V}, Rps T H vs ds → vs[i]? = some v → ∃ d, ds[i]? = some d ∧ Rp T H v d
  | [], _, _, _, h, e => by cases (show _ = [] from h); simp at e
  | d :: ds, _, 0, _, h, e => by
    obtain ⟨v, r, rfl, h1, h2⟩ := h
    simp at e; subst e
    exact ⟨d, rfl, h1⟩
  | d :: ds, _, i + 1, _, h, e => by
    obtain ⟨v, r, rfl, h1, h2⟩ := h
    obtain ⟨u, h3, h4⟩ := Rps.getv (i := i) h2 (by simpa using e)
    exact ⟨u, by simpa using h3, h4⟩
theorem Rps.take {T : Tb} {H : Hp} : ∀ {ds : List D} {vs : List V} (n : Nat), Rps T H vs ds → Rps T H (vs.take n) (ds.take n)
  | _, _, 0, _ => rfl
  | [], _, n + 1, h => by cases (show _ = [] from h); rfl
  | d :: ds, _, n + 1, h => by
    obtain ⟨v, r, rfl, h1, h2⟩ := h
    exact ⟨v, _, rfl, h1, Rps.take n h2⟩
theorem Rps.drop {T : Tb} {H : Hp} : ∀ {ds : List D} {vs : List V} (n : Nat), Rps T H vs ds → Rps T H (vs.drop n) (ds.drop n)
  | _, _, 0, h => h
  | [], _, n + 1, h => by cases (show _ = [] from h); rfl
  | d :: ds, _, n + 1, h => by
    obtain ⟨v, r, rfl, h1, h2⟩ := h
    exact Rps.drop n h2
theorem Rps.reverse {T : Tb} {H : Hp} : ∀ {ds : List D} {vs : List V}, Rps T H vs ds → Rps T H vs.reverse ds.reverse
  | [], _, h => by cases (show _ = [] from h); rfl
  | d :: ds, _, h => by
    obtain ⟨v, r, rfl, h1, h2⟩ := h
    rw [List.reverse_cons, List.reverse_cons]
    exact Rps.append (Rps.reverse h2) (Rps.cons h1 Rps.nil)
theorem Rps.ints {T : Tb} {H : Hp} : ∀ (ns : List Int), Rps T H (ns.map V.int) (ns.map D.int)
  | [] => rfl
  | n :: ns => ⟨_, _, rfl, rfl, Rps.ints ns⟩
theorem Rps.of_ints {T : Tb} {H : Hp} : ∀ {ns : List Int} {vs : List V}, Rps T H vs (ns.map D.int) → vs = ns.map V.int
  | [], _, h => h
  | n :: ns, _, h => by
    obtain ⟨v, r, rfl, h1, h2⟩ := h
    cases (show v = _ from h1)
    rw [Rps.of_ints h2]; rfl
theorem Rps.of_bls {T : Tb} {H : Hp} : ∀ {ns : List Bool} {vs : List V}, Rps T H vs (ns.map D.bl) → vs = ns.map V.bl
  | [], _, h => h
  | n :: ns, _, h => by
    obtain ⟨v, r, rfl, h1, h2⟩ := h
    cases (show v = _ from h1)
    rw [Rps.of_bls h2]; rfl
theorem Rps.of_strs {T : Tb} {H : Hp} : ∀ {ns : List (List Nat)} {vs : List V}, Rps T H vs (ns.map D.str) → vs = (ns.map sS).map V.str
  | [], _, h => h
  | n :: ns, _, h => by
    obtain ⟨v, r, rfl, h1, h2⟩ := h
    cases (show v = _ from h1)
    rw [Rps.of_strs h2]; rfl

/-! ### an owned container: a list or a dict that nothing else reaches -/
def Ow (T : Tb) (Hf H : Hp) (a : Addr) : D → Prop
  | .lst l => ∃ xs, H a = some (.lst xs) ∧ Rps T Hf xs l
  | .dic l => ∃ kvs, H a = some (.dK kvs) ∧ Rpd T Hf kvs l
  | _ => False
theorem Ow.mono {T : Tb} {Hf Hf' H H' : Hp} {a : Addr} {d : D} (e1 : Ex Hf Hf') (e2 : Ex H H') (h : Ow T Hf H a d) : Ow T Hf' H' a d := by
  cases d <;> first
    | exact h.elim
    | (obtain ⟨xs, h1, h2⟩ := h; first | exact ⟨xs, e2 _ _ h1, h2.mono e1⟩)
theorem Ow.exi {T : Tb} {Hf H : Hp} {a : Addr} {d : D} (h : Ow T Hf H a d) : ∃ o, H a = some o := by
  cases d <;> first
    | exact h.elim
    | (obtain ⟨xs, h1, h2⟩ := h; exact ⟨_, h1⟩)
/-- what may be read: frozen data, or an owned container -/
def Rr (T : Tb) (Hf H : Hp) (v : V) (d : D) : Prop := Rp T Hf v d ∨ ∃ a, v = .ref a ∧ Ow T Hf H a d
theorem Rr.mono {T : Tb} {Hf Hf' H H' : Hp} {v : V} {d : D} (e1 : Ex Hf Hf') (e2 : Ex H H') (h : Rr T Hf H v d) : Rr T Hf' H' v d := by
  rcases h with h | ⟨a, h1, h2⟩
  · exact .inl (h.mono e1)
  · exact .inr ⟨a, h1, h2.mono e1 e2⟩
/-- either way it is borne by the whole heap -/
theorem Rr.full {T : Tb} {Hf H : Hp} {v : V} {d : D} (e : Ex Hf H) (h : Rr T Hf H v d) : Rp T H v d := by
  rcases h with h | ⟨a, h1, h2⟩
  · exact h.mono e
  · cases d <;> first
      | exact h2.elim
      | (obtain ⟨xs, h3, h4⟩ := h2; exact ⟨a, xs, h1, h3, h4.mono e⟩)

/-! ### the state -/
abbrev Env := List (Option (Bool × D))
def gt (ρ : Env) (i : Nat) : Option D := match ρ[i]? with
  | some (some (_, d)) => some d
  | _ => none
/-- the places at is are frozen -/
def frz1 (i : Nat) (ρ : Env) : Env := match ρ[i]? with
  | some (some (_, d)) => ρ.set i (some (false, d))
  | _ => ρ
def frz (is : List Nat) (ρ : Env) : Env := is.foldl (fun r i => frz1 i r) ρ

structure Sim (T : Tb) (F0 H0 Hf H : Hp) (σ : L2.St) (ρ : Env) : Prop where
  e1 : Ex Hf H
  ef : Ex F0 Hf
  e0 : Ex H0 H
  sep : ∀ b o, H0 b = some o → F0 b = none → Hf b = none
  len : σ.length = ρ.length
  fr : ∀ (i : Nat) (d : D), ρ[i]? = some (some (false, d)) → ∃ v, σ[i]? = some (some v) ∧ Rp T Hf v d
  ow : ∀ (i : Nat) (d : D), ρ[i]? = some (some (true, d)) → ∃ a, σ[i]? = some (some (.ref a)) ∧ Hf a = none ∧ H0 a = none ∧ Ow T Hf H a d
  dj : ∀ (i j : Nat) (d d' : D) (a : Addr), i ≠ j → ρ[i]? = some (some (true, d)) → ρ[j]? = some (some (true, d')) → σ[i]? = some (some (V.ref a)) → σ[j]? = some (some (V.ref a)) → False

section
variable {T : Tb} {F0 H0 Hf H Hf' H' : Hp} {σ : L2.St} {ρ : Env}
/-- the heaps grow, what is owned stays apart -/
theorem Sim.grow (s : Sim T F0 H0 Hf H σ ρ) (e1 : Ex Hf' H') (ef : Ex Hf Hf') (e0 : Ex H H') (sp : ∀ b o, H b = some o → Hf b = none → Hf' b = none) : Sim T F0 H0 Hf' H' σ ρ where
  e1 := e1
  ef := s.ef.trans ef
  e0 := s.e0.trans e0
  sep := fun b o h1 h2 => sp b o (s.e0 b o h1) (s.sep b o h1 h2)
  len := s.len
  fr := fun i d h => by
    obtain ⟨v, h1, h2⟩ := s.fr i d h
    exact ⟨v, h1, h2.mono ef⟩
  ow := fun i d h => by
    obtain ⟨a, h1, h2, h3, h4⟩ := s.ow i d h
    obtain ⟨o, h5⟩ := h4.exi
    exact ⟨a, h1, sp a o h5 h2, h3, h4.mono ef e0⟩
  dj := s.dj
/-- a new object, not (yet) frozen -/
theorem Sim.new (s : Sim T F0 H0 Hf H σ ρ) {p : Addr} {o : HO} (hp : H p = none) : Sim T F0 H0 Hf (upd H p o) σ ρ :=
  s.grow (s.e1.trans (Ex.new hp)) (Ex.refl _) (Ex.new hp) fun _ _ _ h => h
/-- a new object, frozen -/
theorem Sim.newF (s : Sim T F0 H0 Hf H σ ρ) {p : Addr} {o : HO} (hp : H p = none) : Sim T F0 H0 (upd Hf p o) (upd H p o) σ ρ := by
  have hf : Hf p = none := fresh_back s.e1 hp
  refine s.grow (fun b u h => ?_) (Ex.new hf) (Ex.new hp) fun b u h1 h2 => ?_
  · by_cases e : b = p
    · subst e; rw [upd_same] at h; cases h; exact upd_same
    · rw [upd_ne e] at h; rw [upd_ne e]; exact s.e1 b u h
  · rw [upd_ne (ne_of_none h1 hp)]; exact h2
end

theorem frz1_len (i : Nat) (ρ : Env) : (frz1 i ρ).length = ρ.length := by
  unfold frz1
  split <;> simp
theorem frz_len : ∀ (is : List Nat) (ρ : Env), (frz is ρ).length = ρ.length
  | [], _ => rfl
  | i :: is, ρ => by show (frz is (frz1 i ρ)).length = _; rw [frz_len is, frz1_len]
theorem frz1_get (i j : Nat) (ρ : Env) : (frz1 i ρ)[j]? = if i = j then (match ρ[j]? with | some (some (_, d)) => some (some (false, d)) | x => x) else ρ[j]? := by
  unfold frz1
  by_cases e : i = j
  · subst e
    rw [if_pos rfl]
    split
    · rename_i b d h
      have hi : i < ρ.length := (List.getElem?_eq_some_iff.mp h).1
      rw [List.getElem?_set_self hi]
    · rfl
  · rw [if_neg e]
    split
    · rw [List.getElem?_set_ne e]
    · rfl
theorem gt_frz1 (i j : Nat) (ρ : Env) : gt (frz1 i ρ) j = gt ρ j := by
  unfold gt
  rw [frz1_get]
  by_cases e : i = j
  · rw [if_pos e]
    cases h : ρ[j]? with
    | none => rfl
    | some x =>
      cases x with
      | none => rfl
      | some y => obtain ⟨b, d⟩ := y; rfl
  · rw [if_neg e]
theorem gt_frz (is : List Nat) (j : Nat) : ∀ ρ : Env, gt (frz is ρ) j = gt ρ j := by
  induction is with
  | nil => intro ρ; rfl
  | cons i is ih => intro ρ; show gt (frz is (frz1 i ρ)) j = _; rw [ih, gt_frz1]
theorem frz_append (is js : List Nat) (ρ : Env) : frz (is ++ js) ρ = frz js (frz is ρ) := by
  unfold frz; rw [List.foldl_append]

section
variable {T : Tb} {F0 H0 Hf H Hf' H' : Hp} {σ : L2.St} {ρ : Env}
theorem Sim.get (s : Sim T F0 H0 Hf H σ ρ) {i : Nat} {d : D} (h : gt ρ i = some d) : ∃ v, σ[i]? = some (some v) ∧ Rr T Hf H v d := by
  unfold gt at h
  split at h
  · rename_i b d' e
    cases h
    cases b with
    | false =>
      obtain ⟨v, h1, h2⟩ := s.fr i d e
      exact ⟨v, h1, .inl h2⟩
    | true =>
      obtain ⟨a, h1, h2, h3, h4⟩ := s.ow i d e
      exact ⟨_, h1, .inr ⟨a, rfl, h4⟩⟩
  · cases h
/-- reading a name as a value: it is frozen -/
theorem Sim.freeze (s : Sim T F0 H0 Hf H σ ρ) {i : Nat} {d : D} (h : gt ρ i = some d) : ∃ v Hf', σ[i]? = some (some v) ∧ Ex Hf Hf' ∧ Sim T F0 H0 Hf' H σ (frz1 i ρ) ∧ Rp T Hf' v d := by
  unfold gt at h
  split at h
  · rename_i b d' e
    cases h
    cases b with
    | false =>
      obtain ⟨v, h1, h2⟩ := s.fr i d e
      refine ⟨v, Hf, h1, Ex.refl _, ?_, h2⟩
      have e2 : frz1 i ρ = ρ := by
        unfold frz1
        rw [e]
        apply List.ext_getElem?
        intro j
        by_cases hj : i = j
        · subst hj
          rw [List.getElem?_set_self (List.getElem?_eq_some_iff.mp e).1]; exact e.symm
        · rw [List.getElem?_set_ne hj]
      rw [e2]; exact s
    | true =>
      obtain ⟨a, h1, h2, h3, h4⟩ := s.ow i d e
      obtain ⟨o, h5⟩ := h4.exi
      have hex : Ex Hf (upd Hf a o) := Ex.new h2
      refine ⟨.ref a, upd Hf a o, h1, hex, ?_, ?_⟩
      · refine ⟨fun b u hb => ?_, s.ef.trans hex, s.e0, fun b u q1 q2 => ?_, by rw [frz1_len]; exact s.len, fun j dj hj => ?_, fun j dj hj => ?_, fun j k d1 d2 c hjk hj hk g1 g2 => ?_⟩
        · by_cases eb : b = a
          · subst eb; rw [upd_same] at hb; cases hb; exact h5
          · rw [upd_ne eb] at hb; exact s.e1 b u hb
        · rw [upd_ne (ne_of_none q1 h3)]; exact s.sep b u q1 q2
        · rw [frz1_get] at hj
          by_cases ij : i = j
          · subst ij
            rw [if_pos rfl, e] at hj
            cases hj
            refine ⟨.ref a, h1, ?_⟩
            cases d <;> first
              | exact h4.elim
              | (obtain ⟨xs, g1, g2⟩ := h4
                 rw [h5] at g1; cases g1
                 exact ⟨a, xs, rfl, upd_same, g2.mono hex⟩)
          · rw [if_neg ij] at hj
            obtain ⟨v, g1, g2⟩ := s.fr j dj hj
            exact ⟨v, g1, g2.mono hex⟩
        · rw [frz1_get] at hj
          by_cases ij : i = j
          · subst ij
            rw [if_pos rfl, e] at hj
            cases hj
          · rw [if_neg ij] at hj
            obtain ⟨c, g1, g2, g3, g4⟩ := s.ow j dj hj
            have hc : c ≠ a := fun z => s.dj i j d dj a ij e hj h1 (by rw [← z]; exact g1)
            exact ⟨c, g1, by rw [upd_ne hc]; exact g2, g3, g4.mono hex (Ex.refl _)⟩
        · rw [frz1_get] at hj hk
          by_cases ij : i = j
          · subst ij; rw [if_pos rfl, e] at hj; cases hj
          · by_cases ik : i = k
            · subst ik; rw [if_pos rfl, e] at hk; cases hk
            · rw [if_neg ij] at hj; rw [if_neg ik] at hk
              exact s.dj j k d1 d2 c hjk hj hk g1 g2
      · cases d <;> first
          | exact h4.elim
          | (obtain ⟨xs, g1, g2⟩ := h4
             rw [h5] at g1; cases g1
             exact ⟨a, xs, rfl, upd_same, g2.mono hex⟩)
  · cases h
/-- a name is bound to frozen data -/
theorem Sim.set (s : Sim T F0 H0 Hf H σ ρ) {i : Nat} {v : V} {d : D} (hi : i < σ.length) (h : Rp T Hf v d) : Sim T F0 H0 Hf H (σ.set i (some v)) (ρ.set i (some (false, d))) := by
  have hr : i < ρ.length := by rw [← s.len]; exact hi
  refine ⟨s.e1, s.ef, s.e0, s.sep, by simp [s.len], fun j dj hj => ?_, fun j dj hj => ?_, fun j k d1 d2 c hjk hj hk g1 g2 => ?_⟩
  · by_cases ij : i = j
    · subst ij
      rw [List.getElem?_set_self hr] at hj; cases hj
      exact ⟨v, List.getElem?_set_self hi, h⟩
    · rw [List.getElem?_set_ne ij] at hj; rw [List.getElem?_set_ne ij]; exact s.fr j dj hj
  · by_cases ij : i = j
    · subst ij
      rw [List.getElem?_set_self hr] at hj; cases hj
    · rw [List.getElem?_set_ne ij] at hj; rw [List.getElem?_set_ne ij]; exact s.ow j dj hj
  · by_cases ij : i = j
    · subst ij; rw [List.getElem?_set_self hr] at hj; cases hj
    · by_cases ik : i = k
      · subst ik; rw [List.getElem?_set_self hr] at hk; cases hk
      · rw [List.getElem?_set_ne ij] at hj g1; rw [List.getElem?_set_ne ik] at hk g2
        exact s.dj j k d1 d2 c hjk hj hk g1 g2
/-- a name is bound to a new container that it owns -/
theorem Sim.setO (s : Sim T F0 H0 Hf H σ ρ) {i : Nat} {a : Addr} {d : D} (hi : i < σ.length) (h1 : Hf a = none) (h2 : H0 a = none) (h3 : Ow T Hf H a d) (h4 : ∀ (j : Nat) (d' : D), ρ[j]? = some (some (true, d')) → σ[j]? ≠ some (some (V.ref a))) :
    Sim T F0 H0 Hf H (σ.set i (some (.ref a))) (ρ.set i (some (true, d))) := by
  have hr : i < ρ.length := by rw [← s.len]; exact hi
  refine ⟨s.e1, s.ef, s.e0, s.sep, by simp [s.len], fun j dj hj => ?_, fun j dj hj => ?_, fun j k d1 d2 c hjk hj hk g1 g2 => ?_⟩
  · by_cases ij : i = j
    · subst ij
      rw [List.getElem?_set_self hr] at hj; cases hj
    · rw [List.getElem?_set_ne ij] at hj; rw [List.getElem?_set_ne ij]; exact s.fr j dj hj
  · by_cases ij : i = j
    · subst ij
      rw [List.getElem?_set_self hr] at hj; cases hj
      exact ⟨a, List.getElem?_set_self hi, h1, h2, h3⟩
    · rw [List.getElem?_set_ne ij] at hj; rw [List.getElem?_set_ne ij]; exact s.ow j dj hj
  · by_cases ij : i = j
    · subst ij
      rw [List.getElem?_set_self hi] at g1; cases g1
      rw [List.getElem?_set_ne hjk] at hk g2
      exact h4 k d2 hk g2
    · by_cases ik : i = k
      · subst ik
        rw [List.getElem?_set_self hi] at g2; cases g2
        rw [List.getElem?_set_ne ij] at hj g1
        exact h4 j d1 hj g1
      · rw [List.getElem?_set_ne ij] at hj g1; rw [List.getElem?_set_ne ik] at hk g2
        exact s.dj j k d1 d2 c hjk hj hk g1 g2
/-- an owned container changes -/
theorem Sim.chg (s : Sim T F0 H0 Hf H σ ρ) {i : Nat} {a : Addr} {d d' : D} {o : HO} (hi : ρ[i]? = some (some (true, d))) (ha : σ[i]? = some (some (.ref a))) (h : Ow T Hf (upd H a o) a d') :
    Sim T F0 H0 Hf (upd H a o) σ (ρ.set i (some (true, d'))) := by
  have hr : i < ρ.length := (List.getElem?_eq_some_iff.mp hi).1
  obtain ⟨a', h1, h2, h3, h4⟩ := s.ow i d hi
  rw [ha] at h1; cases h1
  have exH : ∀ b u, H b = some u → b ≠ a → upd H a o b = some u := fun b u q ne => by rw [upd_ne ne]; exact q
  refine ⟨fun b u q => exH b u (s.e1 b u q) (ne_of_none q h2), s.ef, fun b u q => exH b u (s.e0 b u q) (ne_of_none q h3), s.sep, by simp [s.len], fun j dj hj => ?_, fun j dj hj => ?_, fun j k d1 d2 c hjk hj hk g1 g2 => ?_⟩
  · by_cases ij : i = j
    · subst ij; rw [List.getElem?_set_self hr] at hj; cases hj
    · rw [List.getElem?_set_ne ij] at hj; exact s.fr j dj hj
  · by_cases ij : i = j
    · subst ij
      rw [List.getElem?_set_self hr] at hj; cases hj
      exact ⟨a, ha, h2, h3, h⟩
    · rw [List.getElem?_set_ne ij] at hj
      obtain ⟨c, g1, g2, g3, g4⟩ := s.ow j dj hj
      have hc : c ≠ a := fun z => s.dj i j d dj a ij hi hj ha (by rw [← z]; exact g1)
      refine ⟨c, g1, g2, g3, ?_⟩
      cases dj <;> first
        | exact g4.elim
        | (obtain ⟨xs, q1, q2⟩ := g4; exact ⟨xs, by rw [upd_ne hc]; exact q1, q2⟩)
  · by_cases ij : i = j
    · subst ij
      by_cases ik : i = k
      · exact absurd ik hjk
      · rw [List.getElem?_set_ne ik] at hk
        exact s.dj i k d d2 c ik hi hk g1 g2
    · rw [List.getElem?_set_ne ij] at hj
      by_cases ik : i = k
      · subst ik; exact s.dj j i d1 d c (fun z => ij z.symm) hj hi g1 g2
      · rw [List.getElem?_set_ne ik] at hk
        exact s.dj j k d1 d2 c hjk hj hk g1 g2
end
end PD
end
section
set_option Elab.async false
set_option linter.all false
set_option maxRecDepth 100000
set_option maxHeartbeats 4000000
/-! PDB: the small language, what it yields. -/
namespace PD
open PySem L2 Evl

inductive BOp | add | sub | mul | fdiv | mod
  deriving DecidableEq
inductive COp | eq | ne | lt | le | gt | ge | isIn | notIn
  deriving DecidableEq
inductive Ty | int | bool | str | tuple | dict | list
  deriving DecidableEq
/-- what is walked: a tuple, a list, a dict's keys, a text, range(n), range(a, b), enumerate of a tuple -/
inductive IK | t | l | d | s | r1 | r2 | en
  deriving DecidableEq
inductive Tg
  | nm (i : Nat)
  | tp (is : List Nat)
  deriving DecidableEq
def Tg.own : Tg → List Nat
  | .nm i => [i]
  | .tp is => is

inductive E where
  | var (i : Nat)
  | peek (i : Nat)
  | int (n : Int)
  | str (s : List Nat)
  | non
  | bl (b : Bool)
  | glob (x : List Nat) (d : D)
  | tup (l : List E)
  | lst (l : List E)
  | bop (o : BOp) (a b : E)
  | cat (a b : E)
  | catT (a b : E)
  | cmp (o : COp) (a b : E)
  | chain (a : E) (o : COp) (b : E) (p : COp) (c : E)
  | isN (a : E)
  | notN (a : E)
  | and (a b : E)
  | or (a b : E)
  | not (a : E)
  | neg (a : E)
  | ife (c a b : E)
  | call (f : Nat) (args : List E) (more : List D)
  | meth (f : Nat) (o : E) (m : List Nat)
  | mk (c : Nat) (args : List E)
  | fld (a : E) (f : List Nat)
  | len (a : E)
  | all (a : E)
  | any (a : E)
  | sum (a : E)
  | toL (a : E)
  | toT (a : E)
  | isi (a : E) (t : Ty)
  | idx (a i : E)
  | slcT (a : E) (lo hi : Option E)
  | slcL (a : E) (lo hi : Option E)
  | rev (a : E)
  | lc (elt : E) (tg : Tg) (ik : IK) (its : List E) (ifs : List E)
  | lcd (elt : E) (tg : Tg) (i : Nat) (ifs : List E)
  | lc2 (elt : E) (tg : Tg) (ik : IK) (its : List E) (ifs : List E) (tg2 : Tg) (ik2 : IK) (its2 : List E) (ifs2 : List E)
  | lenSet (elt : E) (tg : Tg) (ik : IK) (its : List E)
  | sortSet (elt : E) (tg : Tg) (ik : IK) (its : List E)
  | sortSetL (a : E)
  | dct (ks : List (List Nat)) (vs : List E)
  | dget (d k x : E)
  | didx (d k : E)
  | dc (k v : E) (tg : Tg) (ik : IK) (its : List E)

/-- small enough -/
def lim : Nat := 100000
def mkT (l : List D) : Option D := if l.length ≤ lim then some (.tup l) else none
def mkL (l : List D) : Option D := if l.length ≤ lim then some (.lst l) else none

/-! ### equality -/
mutual
def eqd : D → D → Bool
  | .non, .non => true
  | .bl a, .bl b => a == b
  | .bl a, .int j => (if a then 1 else 0) == j
  | .int i, .bl b => i == (if b then 1 else 0)
  | .int i, .int j => i == j
  | .str x, .str y => x == y
  | .lst xs, .lst ys => eqds xs ys
  | .tup xs, .tup ys => eqds xs ys
  | _, _ => false
def eqds : List D → List D → Bool
  | [], [] => true
  | x :: xs, y :: ys => eqd x y && eqds xs ys
  | _, _ => false
end
mutual
/-- plain data: nothing but None, bools, ints, texts, tuples, lists, not too deep -/
def pln : Nat → D → Bool
  | _, .non => true
  | _, .bl _ => true
  | _, .int _ => true
  | _, .str s => s.all (· < 1114112)
  | n + 1, .tup l => plns n l
  | n + 1, .lst l => plns n l
  | _, _ => false
def plns : Nat → List D → Bool
  | _, [] => true
  | n, d :: ds => pln n d && plns n ds
end
def flat : D → Bool
  | .non => true
  | .bl _ => true
  | .int _ => true
  | .str _ => true
  | _ => false
def eqf : D → D → Bool
  | .non, .non => true
  | .bl a, .bl b => a == b
  | .bl a, .int b => (if a then 1 else 0) == b
  | .int a, .bl b => a == (if b then 1 else 0)
  | .int a, .int b => a == b
  | .str a, .str b => a == b
  | _, _ => false
def inf (x : D) (l : List D) : Bool := l.any fun y => eqf y x
def seqOf : D → Option (List D)
  | .tup l => some l
  | .lst l => some l
  | _ => none
/-- c is a sign of the text s (one sign alone) -/
def cmpd : COp → D → D → Option D
  | .eq, a, b => match a, b with
    | .scr l, .lst [] => some (.bl l.isEmpty)
    | a, b => if pln 60 a && pln 60 b then some (.bl (eqd a b)) else none
  | .ne, a, b => match a, b with
    | .scr l, .lst [] => some (.bl (!l.isEmpty))
    | a, b => if pln 60 a && pln 60 b then some (.bl (!eqd a b)) else none
  | .lt, .int a, .int b => some (.bl (decide (a < b)))
  | .le, .int a, .int b => some (.bl (decide (a ≤ b)))
  | .gt, .int a, .int b => some (.bl (decide (b < a)))
  | .ge, .int a, .int b => some (.bl (decide (b ≤ a)))
  | .isIn, a, b => match a, b with
    | .str [c], .str s => some (.bl (decide (c ∈ s)))
    | .str x, .dic l => some (.bl (l.any fun p => p.1 == x))
    | a, b => (seqOf b).bind fun l => if flat a && l.all flat then some (.bl (inf a l)) else none
  | .notIn, a, b => match a, b with
    | .str [c], .str s => some (.bl (!decide (c ∈ s)))
    | .str x, .dic l => some (.bl (!l.any fun p => p.1 == x))
    | a, b => (seqOf b).bind fun l => if flat a && l.all flat then some (.bl (!inf a l)) else none
  | _, _, _ => none
def bopd : BOp → D → D → Option D
  | .add, .int a, .int b => some (.int (a + b))
  | .sub, .int a, .int b => some (.int (a - b))
  | .mul, .int a, .int b => if (-18446744073709551616 < a && a < 18446744073709551616) || (-18446744073709551616 < b && b < 18446744073709551616) then some (.int (a * b)) else none
  | .fdiv, .int a, .int b => if 0 < b && b < 1073741824 then some (.int (a / b)) else none
  | .mod, .int a, .int b => if 0 < b then some (.int (a % b)) else none
  | _, _, _ => none
def truD : D → Option Bool
  | .bl b => some b
  | _ => none
def intD : D → Option Int
  | .int i => some i
  | _ => none
def strD : D → Option (List Nat)
  | .str i => some i
  | _ => none
def lstD : D → Option (List D)
  | .lst i => some i
  | _ => none
def tupD : D → Option (List D)
  | .tup i => some i
  | _ => none
def dicD : D → Option (List (List Nat × D))
  | .dic i => some i
  | _ => none
def isNo : D → Bool
  | .non => true
  | _ => false
def tyD : D → Ty → Option Bool
  | .non, _ => some false
  | .bl _, .bool => some true
  | .bl _, .int => some true
  | .bl _, _ => some false
  | .int _, .int => some true
  | .int _, _ => some false
  | .str _, .str => some true
  | .str _, _ => some false
  | .tup _, .tuple => some true
  | .tup _, _ => some false
  | .lst _, .list => some true
  | .lst _, _ => some false
  | .dic _, .dict => some true
  | .dic _, _ => some false
  | _, _ => none
def lenD : D → Option Int
  | .tup l => some l.length
  | .lst l => some l.length
  | .scr l => if l.length ≤ lim then some l.length else none
  | .str l => if l.length ≤ lim then some l.length else none
  | .dic l => some l.length
  | _ => none
def cutD (xs : List D) (lo hi : Option Int) : List D := (xs.drop (HT.sIx xs.length 0 lo)).take (HT.sIx xs.length xs.length hi - HT.sIx xs.length 0 lo)
def allM {α : Type} (f : D → Option α) : List D → Option (List α)
  | [] => some []
  | d :: r => (f d).bind fun x => (allM f r).bind fun l => some (x :: l)
/-- distinct texts, the first place of each -/
def uniq : List (List Nat) → List (List Nat)
  | [] => []
  | x :: r => x :: uniq (r.filter fun y => y != x)
  termination_by l => l.length
  decreasing_by
    simp_wf
    have := List.length_filter_le (fun y => y != x) r
    omega
def ltS : List Nat → List Nat → Bool
  | [], [] => false
  | [], _ :: _ => true
  | _ :: _, [] => false
  | a :: r, b :: t => a < b || (a == b && ltS r t)
def insS (x : List Nat) : List (List Nat) → List (List Nat)
  | [] => [x]
  | y :: r => if x == y then y :: r else if ltS x y then x :: y :: r else y :: insS x r
/-- the distinct texts of a list, in order -/
def srtU (l : List (List Nat)) : List (List Nat) := l.foldr insS []
def dputD (l : List (List Nat × D)) (k : List Nat) (v : D) : List (List Nat × D) := if l.any fun p => p.1 == k then l.map fun p => if p.1 == k then (p.1, v) else p else l ++ [(k, v)]
def dgetD : List (List Nat × D) → List Nat → Option D
  | [], _ => none
  | (j, w) :: r, k => if j == k then some w else dgetD r k
def fldD (fs : List (List Nat)) (l : List D) (f : List Nat) : Option D := match fs, l with
  | g :: gs, d :: ds => if g == f then some d else fldD gs ds f
  | _, _ => none

def wipeE (ρ : Env) : List Nat → Env
  | [] => ρ
  | v :: vs => (wipeE ρ vs).set v none
def bindL : List Nat → List D → Env → Option Env
  | [], [], ρ => some ρ
  | i :: is, d :: ds, ρ => if i < ρ.length then bindL is ds (ρ.set i (some (false, d))) else none
  | _, _, _ => none
def bindT : Tg → D → Env → Option Env
  | .nm i, d, ρ => if i < ρ.length then some (ρ.set i (some (false, d))) else none
  | .tp is, .tup l, ρ => bindL is l ρ
  | _, _, _ => none
def numb (k : Int) : List D → List D
  | [] => []
  | d :: r => .tup [.int k, d] :: numb (k + 1) r
def items : IK → List D → Option (List D)
  | .t, [.tup l] => some l
  | .l, [.lst l] => some l
  | .s, [.str s] => if s.length ≤ lim then some (s.map fun c => .str [c]) else none
  | .r1, [.int n] => if -100000 ≤ n && n ≤ 100000 then some ((List.range n.toNat).map fun k => .int (k : Nat)) else none
  | .r2, [.int a, .int b] => if (-100000 ≤ a && a ≤ 100000) && (-100000 ≤ b && b ≤ 100000) then some ((List.range (b - a).toNat).map fun k => .int (a + (k : Nat))) else none
  | .en, [.tup l] => some (numb 0 l)
  | _, _ => none
/-- a comprehension over its items -/
def goLc (f : D → Option (Option D)) : List D → Option (List D)
  | [] => some []
  | d :: r => (f d).bind fun o => (goLc f r).bind fun l => some (match o with | none => l | some x => x :: l)
def goDc (f : D → Option (List Nat × D)) : List D → List (List Nat × D) → Option (List (List Nat × D))
  | [], acc => some acc
  | d :: r, acc => (f d).bind fun kv => goDc f r (dputD acc kv.1 kv.2)

/-- the classes: the fields by number -/
structure Sg where
  fl : Nat → List (List Nat)
  fresh : Nat → Bool

mutual
def ev (G : Sg) (C : Nat → List D → Option D) : E → Env → Option D
  | .var i, ρ => gt ρ i
  | .peek i, ρ => gt ρ i
  | .int n, _ => some (.int n)
  | .str s, _ => some (.str s)
  | .non, _ => some .non
  | .bl b, _ => some (.bl b)
  | .glob _ d, _ => some d
  | .tup l, ρ => (evs G C l ρ).bind mkT
  | .lst l, ρ => (evs G C l ρ).bind mkL
  | .bop o a b, ρ => (ev G C a ρ).bind fun x => (ev G C b ρ).bind fun y => bopd o x y
  | .cat a b, ρ => (ev G C a ρ).bind fun x => (ev G C b ρ).bind fun y => (lstD x).bind fun l => (lstD y).bind fun m => mkL (l ++ m)
  | .catT a b, ρ => (ev G C a ρ).bind fun x => (ev G C b ρ).bind fun y => (tupD x).bind fun l => (tupD y).bind fun m => mkT (l ++ m)
  | .cmp o a b, ρ => (ev G C a ρ).bind fun x => (ev G C b ρ).bind fun y => cmpd o x y
  | .chain a o b p c, ρ => (ev G C a ρ).bind fun x => (ev G C b ρ).bind fun y => (cmpd o x y).bind fun z => (truD z).bind fun k => if k then (ev G C c ρ).bind fun u => (cmpd p y u).bind fun z => (truD z).bind fun k => some (.bl k) else some (.bl false)
  | .isN a, ρ => (ev G C a ρ).bind fun x => some (.bl (isNo x))
  | .notN a, ρ => (ev G C a ρ).bind fun x => some (.bl (!isNo x))
  | .and a b, ρ => (ev G C a ρ).bind fun x => (truD x).bind fun k => if k then ev G C b ρ else some (.bl false)
  | .or a b, ρ => (ev G C a ρ).bind fun x => (truD x).bind fun k => if k then some (.bl true) else ev G C b ρ
  | .not a, ρ => (ev G C a ρ).bind fun x => (truD x).bind fun k => some (.bl (!k))
  | .neg a, ρ => (ev G C a ρ).bind fun x => (intD x).bind fun k => some (.int (-k))
  | .ife c a b, ρ => (ev G C c ρ).bind fun x => (truD x).bind fun k => if k then ev G C a ρ else ev G C b ρ
  | .call f args more, ρ => (evs G C args ρ).bind fun ds => C f (ds ++ more)
  | .meth f o _, ρ => (ev G C o ρ).bind fun d => C f [d]
  | .mk c args, ρ => (evs G C args ρ).bind fun ds => C (1000000 + c) ds
  | .fld a f, ρ => (ev G C a ρ).bind fun x => match x with | .ins c l => fldD (G.fl c) l f | _ => none
  | .len a, ρ => (ev G C a ρ).bind fun x => (lenD x).bind fun n => some (.int n)
  | .all a, ρ => (ev G C a ρ).bind fun x => (lstD x).bind fun l => (allM truD l).bind fun bs => some (.bl (bs.all id))
  | .any a, ρ => (ev G C a ρ).bind fun x => (lstD x).bind fun l => (allM truD l).bind fun bs => some (.bl (bs.any id))
  | .sum a, ρ => (ev G C a ρ).bind fun x => (lstD x).bind fun l => (allM intD l).bind fun ns => some (.int ns.sum)
  | .toL a, ρ => (ev G C a ρ).bind fun x => (seqOf x).bind mkL
  | .toT a, ρ => (ev G C a ρ).bind fun x => (seqOf x).bind mkT
  | .isi a t, ρ => (ev G C a ρ).bind fun x => (tyD x t).bind fun b => some (.bl b)
  | .idx a i, ρ => (ev G C a ρ).bind fun x => (ev G C i ρ).bind fun y => (intD y).bind fun k => (seqOf x).bind fun l => atI l k
  | .slcT a lo hi, ρ => (ev G C a ρ).bind fun x => (evo G C lo ρ).bind fun l => (evo G C hi ρ).bind fun h => (tupD x).bind fun xs => mkT (cutD xs l h)
  | .slcL a lo hi, ρ => (ev G C a ρ).bind fun x => (evo G C lo ρ).bind fun l => (evo G C hi ρ).bind fun h => match x with
    | .scr ns => mkL (cutD (ns.map D.int) l h)
    | .lst xs => mkL (cutD xs l h)
    | _ => none
  | .rev a, ρ => (ev G C a ρ).bind fun x => (lstD x).bind fun l => mkL l.reverse
  | .lc elt tg ik its ifs, ρ => (evs G C its ρ).bind fun ds => (items ik ds).bind fun l =>
      (goLc (fun d => (bindT tg d (wipeE ρ tg.own)).bind fun r => (evi G C ifs r).bind fun b => if b then (ev G C elt r).bind fun x => some (some x) else some none) l).bind mkL
  | .lcd elt tg i ifs, ρ => match ρ[i]? with
    | some (some (true, .dic m)) => (goLc (fun d => (bindT tg d (wipeE (ρ.set i none) tg.own)).bind fun r => (evi G C ifs r).bind fun b => if b then (ev G C elt r).bind fun x => some (some x) else some none) (m.map fun p => .str p.1)).bind mkL
    | _ => none
  | .lc2 elt tg ik its ifs tg2 ik2 its2 ifs2, ρ => (evs G C its ρ).bind fun ds => (items ik ds).bind fun l =>
      (allM (fun d => (bindT tg d (wipeE ρ (tg.own ++ tg2.own))).bind fun r => (evi G C ifs r).bind fun b => if b then
        (evs G C its2 r).bind fun ds2 => (items ik2 ds2).bind fun l2 =>
          goLc (fun d2 => (bindT tg2 d2 (wipeE r tg2.own)).bind fun r2 => (evi G C ifs2 r2).bind fun b2 => if b2 then (ev G C elt r2).bind fun x => some (some x) else some none) l2 else some []) l).bind fun ls => mkL ls.flatten
  | .lenSet elt tg ik its, ρ => (evs G C its ρ).bind fun ds => (items ik ds).bind fun l =>
      (goLc (fun d => (bindT tg d (wipeE ρ tg.own)).bind fun r => (ev G C elt r).bind fun x => some (some x)) l).bind fun xs => (allM strD xs).bind fun ss => if ss.length ≤ lim then some (.int (srtU ss).length) else none
  | .sortSet elt tg ik its, ρ => (evs G C its ρ).bind fun ds => (items ik ds).bind fun l =>
      (goLc (fun d => (bindT tg d (wipeE ρ tg.own)).bind fun r => (ev G C elt r).bind fun x => some (some x)) l).bind fun xs => (allM strD xs).bind fun ss => if (srtU ss).length < 64 && ss.length ≤ lim then some (.lst ((srtU ss).map D.str)) else none
  | .sortSetL a, ρ => (ev G C a ρ).bind fun x => (lstD x).bind fun l => (allM strD l).bind fun ss => if (srtU ss).length < 64 && ss.length ≤ lim then some (.lst ((srtU ss).map D.str)) else none
  | .dct ks vs, ρ => (evs G C vs ρ).bind fun ds => if ks.length = ds.length && ks.length ≤ 15 then some (.dic ((ks.zip ds).foldl (fun a p => dputD a p.1 p.2) [])) else none
  | .dget d k x, ρ => (ev G C d ρ).bind fun a => (ev G C k ρ).bind fun b => (ev G C x ρ).bind fun c => (dicD a).bind fun l => (strD b).bind fun s => some ((dgetD l s).getD c)
  | .didx d k, ρ => (ev G C d ρ).bind fun a => (ev G C k ρ).bind fun b => (dicD a).bind fun l => (strD b).bind fun s => dgetD l s
  | .dc k v tg ik its, ρ => (evs G C its ρ).bind fun ds => (items ik ds).bind fun l =>
      (goDc (fun d => (bindT tg d (wipeE ρ tg.own)).bind fun r => (ev G C k r).bind fun x => (strD x).bind fun s => (ev G C v r).bind fun y => some (s, y)) l []).bind fun m => if l.length ≤ lim then some (.dic m) else none
def evs (G : Sg) (C : Nat → List D → Option D) : List E → Env → Option (List D)
  | [], _ => some []
  | e :: es, ρ => (ev G C e ρ).bind fun x => (evs G C es ρ).bind fun r => some (x :: r)
def evo (G : Sg) (C : Nat → List D → Option D) : Option E → Env → Option (Option Int)
  | none, _ => some none
  | some e, ρ => (ev G C e ρ).bind fun x => (intD x).bind fun i => some (some i)
/-- all tests hold -/
def evi (G : Sg) (C : Nat → List D → Option D) : List E → Env → Option Bool
  | [], _ => some true
  | e :: es, ρ => (ev G C e ρ).bind fun x => (truD x).bind fun b => if b then evi G C es ρ else some false
end

/-! ### kinds, and what a value may be kept by -/
inductive Kd | pk | vl | fr
  deriving DecidableEq
def knd (G : Sg) : E → Kd
  | .peek _ => .pk
  | .lst _ => .fr
  | .cat _ _ => .fr
  | .toL _ => .fr
  | .slcL _ _ _ => .fr
  | .rev _ => .fr
  | .lc .. => .fr
  | .lcd .. => .fr
  | .lc2 .. => .fr
  | .sortSet .. => .fr
  | .sortSetL _ => .fr
  | .dct .. => .fr
  | .dc .. => .fr
  | .call f _ _ => if G.fresh f then .fr else .vl
  | _ => .vl
mutual
def esc : E → List Nat
  | .var i => [i]
  | .tup l => escs l
  | .lst l => escs l
  | .bop _ a b => esc a ++ esc b
  | .cat a b => esc a ++ esc b
  | .catT a b => esc a ++ esc b
  | .cmp _ a b => esc a ++ esc b
  | .chain a _ b _ c => esc a ++ (esc b ++ esc c)
  | .isN a => esc a
  | .notN a => esc a
  | .and a b => esc a ++ esc b
  | .or a b => esc a ++ esc b
  | .not a => esc a
  | .neg a => esc a
  | .ife c a b => esc c ++ (esc a ++ esc b)
  | .call _ l _ => escs l
  | .meth _ o _ => esc o
  | .mk _ l => escs l
  | .fld a _ => esc a
  | .len a => esc a
  | .all a => esc a
  | .any a => esc a
  | .sum a => esc a
  | .toL a => esc a
  | .toT a => esc a
  | .isi a _ => esc a
  | .idx a i => esc a ++ esc i
  | .slcT a lo hi => esc a ++ (esco lo ++ esco hi)
  | .slcL a lo hi => esc a ++ (esco lo ++ esco hi)
  | .rev a => esc a
  | .lc e _ _ its ifs => escs its ++ (escs ifs ++ esc e)
  | .lcd e _ _ ifs => escs ifs ++ esc e
  | .lc2 e _ _ its ifs _ _ its2 ifs2 => escs its ++ (escs ifs ++ (escs its2 ++ (escs ifs2 ++ esc e)))
  | .lenSet e _ _ its => escs its ++ esc e
  | .sortSet e _ _ its => escs its ++ esc e
  | .sortSetL a => esc a
  | .dct _ vs => escs vs
  | .dget d k x => esc d ++ (esc k ++ esc x)
  | .didx d k => esc d ++ esc k
  | .dc k v _ _ its => escs its ++ (esc k ++ esc v)
  | _ => []
def escs : List E → List Nat
  | [] => []
  | e :: es => esc e ++ escs es
def esco : Option E → List Nat
  | none => []
  | some e => esc e
end

/-! ### statements -/
inductive Sm where
  | asg (i : Nat) (e : E)
  | asgT (is : List Nat) (e : E)
  | par (is : List Nat) (es : List E)
  | star (i j : Nat) (e : E)
  | app (i : Nat) (e : E)
  | ext (i : Nat) (e : E)
  | rvs (i : Nat)
  | dput (i : Nat) (k v : E)
  | ret (e : E)
  | retO (i : Nat)
  | drop (e : E)
  | ifs (c : E) (a b : List Sm)
  | for_ (tg : Tg) (ik : IK) (its : List E) (body : List Sm)
  | never
inductive Out where
  | nx (ρ : Env)
  | rt (d : D)
def setE (ρ : Env) (i : Nat) (own : Bool) (d : D) : Option Env := if i < ρ.length then some (ρ.set i (some (own, d))) else none
def goFor (f : D → Env → Option Out) : List D → Env → Option Out
  | [], ρ => some (.nx ρ)
  | d :: r, ρ => (f d ρ).bind fun o => match o with
    | .nx ρ' => goFor f r ρ'
    | .rt x => some (.rt x)
/-- names are bound one by one, each owning what is new -/
def bindK : List Nat → List Kd → List D → Env → Option Env
  | [], [], [], ρ => some ρ
  | i :: is, k :: ks, d :: ds, ρ => if i < ρ.length && k != .pk then bindK is ks ds (ρ.set i (some (k == .fr, d))) else none
  | _, _, _, _ => none
mutual
def evS (G : Sg) (C : Nat → List D → Option D) (fz : Bool) : Sm → Env → Option Out
  | .asg i e, ρ0 => let ρ := frz (esc e) ρ0; (ev G C e ρ).bind fun d => if knd G e == .pk then none else (setE ρ i (knd G e == .fr) d).bind fun r => some (.nx r)
  | .asgT is e, ρ0 => let ρ := frz (esc e) ρ0; (ev G C e ρ).bind fun d => if knd G e == .pk then none else (tupD d).bind fun l => (bindL is l ρ).bind fun r => some (.nx r)
  | .par is es, ρ0 => let ρ := frz (escs es) ρ0; (evs G C es ρ).bind fun l => (bindK is (es.map (knd G)) l ρ).bind fun r => some (.nx r)
  | .star i j e, ρ0 => let ρ := frz (esc e) ρ0; (ev G C e ρ).bind fun d => if knd G e == .pk then none else (tupD d).bind fun l => match l with
    | x :: r => if l.length ≤ 16000 then (setE ρ i false x).bind fun ρ1 => (setE ρ1 j true (.lst r)).bind fun ρ2 => some (.nx ρ2) else none
    | [] => none
  | .app i e, ρ0 => let ρ := frz (esc e) ρ0; (ev G C e ρ).bind fun d => if knd G e == .pk then none else match ρ[i]? with
    | some (some (true, .lst l)) => if l.length < lim then some (.nx (ρ.set i (some (true, .lst (l ++ [d]))))) else none
    | _ => none
  | .ext i e, ρ0 => let ρ := frz (esc e) ρ0; (ev G C e ρ).bind fun d => if knd G e == .pk then none else (lstD d).bind fun m => match ρ[i]? with
    | some (some (true, .lst l)) => if l.length + m.length ≤ lim then some (.nx (ρ.set i (some (true, .lst (l ++ m))))) else none
    | _ => none
  | .rvs i, ρ => match ρ[i]? with
    | some (some (true, .lst l)) => some (.nx (ρ.set i (some (true, .lst l.reverse))))
    | _ => none
  | .dput i k v, ρ0 => let ρ := frz (esc v ++ esc k) ρ0; (ev G C v ρ).bind fun d => (ev G C k ρ).bind fun x => if knd G v == .pk || knd G k == .pk then none else (strD x).bind fun s => match ρ[i]? with
    | some (some (true, .dic l)) => if l.length < lim then some (.nx (ρ.set i (some (true, .dic (dputD l s d))))) else none
    | _ => none
  | .ret e, ρ0 => let ρ := frz (esc e) ρ0; (ev G C e ρ).bind fun d => if fz then (if knd G e == .fr then some (.rt d) else none) else if knd G e == .pk then none else some (.rt d)
  | .retO i, ρ => if fz then (match ρ[i]? with | some (some (true, d)) => some (.rt d) | _ => none) else none
  | .drop e, ρ0 => let ρ := frz (esc e) ρ0; (ev G C e ρ).bind fun _ => some (.nx ρ)
  | .ifs c a b, ρ0 => let ρ := frz (esc c) ρ0; (ev G C c ρ).bind fun x => (truD x).bind fun k => if k then evSs G C fz a ρ else evSs G C fz b ρ
  | .for_ tg ik its body, ρ0 => let ρ := frz (escs its) ρ0; (evs G C its ρ).bind fun ds => (items ik ds).bind fun l => goFor (fun d r => (bindT tg d r).bind fun r1 => evSs G C fz body r1) l ρ
  | .never, _ => none
def evSs (G : Sg) (C : Nat → List D → Option D) (fz : Bool) : List Sm → Env → Option Out
  | [], ρ => some (.nx ρ)
  | s :: r, ρ => (evS G C fz s ρ).bind fun o => match o with
    | .nx ρ' => evSs G C fz r ρ'
    | .rt d => some (.rt d)
end
/-- a def: how many names, its rows -/
structure Fn where
  n : Nat
  k : Nat
  body : List Sm
def startE (n : Nat) (ds : List D) : Env := (ds.map fun d => some (false, d)) ++ List.replicate (n - ds.length) none
def runF (G : Sg) (C : Nat → List D → Option D) (fz : Bool) (f : Fn) (ds : List D) : Option D :=
  if ds.length = f.k ∧ f.k ≤ f.n then (evSs G C fz f.body (startE f.n ds)).bind fun o => match o with
    | .nx _ => if fz then none else some .non
    | .rt d => some d
  else none
end PD
end
section
set_option Elab.async false
set_option linter.all false
set_option maxRecDepth 100000
set_option maxHeartbeats 4000000
/-! PDC: judgements over the hand layer, operators. -/
namespace PD
open PySem L2 Evl

theorem ob {α β : Type} {x : Option α} {f : α → Option β} {b : β} (h : x.bind f = some b) : ∃ a, x = some a ∧ f a = some b := Option.bind_eq_some_iff.mp h
def Fz (is : List Nat) (ρ : Env) : Prop := ∀ i ∈ is, ∀ d, ρ[i]? ≠ some (some (true, d))
theorem Fz.left {a b : List Nat} {ρ : Env} (h : Fz (a ++ b) ρ) : Fz a ρ := fun i hi => h i (List.mem_append_left _ hi)
theorem Fz.right {a b : List Nat} {ρ : Env} (h : Fz (a ++ b) ρ) : Fz b ρ := fun i hi => h i (List.mem_append_right _ hi)

/-- the heaps grow: what stood stands, what was not frozen is not frozen -/
structure Gr (Hf H Hf' H' : Hp) : Prop where
  y : Ex Hf Hf'
  x : Ex H H'
  z : Ex Hf' H'
  p : ∀ b o, H b = some o → Hf b = none → Hf' b = none
theorem Gr.refl {Hf H : Hp} (e : Ex Hf H) : Gr Hf H Hf H := ⟨Ex.refl _, Ex.refl _, e, fun _ _ _ h => h⟩
theorem Gr.trans {Hf H Hf1 H1 Hf2 H2 : Hp} (a : Gr Hf H Hf1 H1) (b : Gr Hf1 H1 Hf2 H2) : Gr Hf H Hf2 H2 := ⟨a.y.trans b.y, a.x.trans b.x, b.z, fun c o h1 h2 => b.p c o (a.x c o h1) (a.p c o h1 h2)⟩
theorem Gr.new {Hf H : Hp} {p : Addr} {o : HO} (e : Ex Hf H) (hp : H p = none) : Gr Hf H Hf (upd H p o) := ⟨Ex.refl _, Ex.new hp, e.trans (Ex.new hp), fun _ _ _ h => h⟩
theorem Gr.newF {Hf H : Hp} {p : Addr} {o : HO} (e : Ex Hf H) (hp : H p = none) : Gr Hf H (upd Hf p o) (upd H p o) := by
  have hf : Hf p = none := fresh_back e hp
  refine ⟨Ex.new hf, Ex.new hp, fun b u h => ?_, fun b u h1 h2 => ?_⟩
  · by_cases eb : b = p
    · subst eb; rw [upd_same] at h; cases h; exact upd_same
    · rw [upd_ne eb] at h; rw [upd_ne eb]; exact e b u h
  · rw [upd_ne (ne_of_none h1 hp)]; exact h2
/-- a new container is frozen -/
theorem Gr.frz {Hf H Hf1 H1 : Hp} {a : Addr} {o : HO} (g : Gr Hf H Hf1 H1) (h0 : H a = none) (ha : Hf1 a = none) (ho : H1 a = some o) : Gr Hf H (upd Hf1 a o) H1 := by
  refine ⟨g.y.trans (Ex.new ha), g.x, fun b u h => ?_, fun b u h1 h2 => ?_⟩
  · by_cases eb : b = a
    · subst eb; rw [upd_same] at h; cases h; exact ho
    · rw [upd_ne eb] at h; exact g.z b u h
  · rw [upd_ne (ne_of_none h1 h0)]; exact g.p b u h1 h2
theorem Sim.gr {T : Tb} {F0 H0 Hf H Hf' H' : Hp} {σ : L2.St} {ρ : Env} (s : Sim T F0 H0 Hf H σ ρ) (g : Gr Hf H Hf' H') : Sim T F0 H0 Hf' H' σ ρ := s.grow g.z g.y g.x g.p

def Res (T : Tb) (k : Kd) (H Hf' H' : Hp) (v : V) (d : D) : Prop := match k with
  | .pk => Rr T Hf' H' v d
  | .vl => Rp T Hf' v d
  | .fr => ∃ a, v = .ref a ∧ H a = none ∧ Hf' a = none ∧ Ow T Hf' H' a d
theorem Res.back {T : Tb} {k : Kd} {H H1 Hf' H' : Hp} {v : V} {d : D} (e : Ex H H1) (h : Res T k H1 Hf' H' v d) : Res T k H Hf' H' v d := by
  cases k with
  | pk => exact h
  | vl => exact h
  | fr =>
    obtain ⟨a, h1, h2, h3⟩ := h
    exact ⟨a, h1, fresh_back e h2, h3⟩

def tX (T : Tb) (k : Kd) (f : Env → Option D) (es : List Nat) : TE := fun σ H Q => ∃ F0 H0 Hf ρ d, Sim T F0 H0 Hf H σ ρ ∧ Fz es ρ ∧ f ρ = some d ∧
  ∀ Hf' H' v, Gr Hf H Hf' H' → Res T k H Hf' H' v d → Q v H'
def tXs (T : Tb) (f : Env → Option (List D)) (es : List Nat) : TA := fun σ H Q => ∃ F0 H0 Hf ρ ds, Sim T F0 H0 Hf H σ ρ ∧ Fz es ρ ∧ f ρ = some ds ∧
  ∀ Hf' H' vs, Gr Hf H Hf' H' → Rps T Hf' vs ds → Q vs H'
def tXt (T : Tb) (f : Env → Option D) (es : List Nat) : TT := fun σ H Q => ∃ F0 H0 Hf ρ b, Sim T F0 H0 Hf H σ ρ ∧ Fz es ρ ∧ f ρ = some (.bl b) ∧
  ∀ Hf' H', Gr Hf H Hf' H' → Q b H'

theorem PEm {X : Cx} {e : Expr} {t t' : TE} (h : PE X e t) (m : ∀ σ H Q, t' σ H Q → t σ H Q) : PE X e t' := ⟨fun pins s σ H Q I q => h.run pins s σ H Q I (m σ H Q q)⟩
theorem PTm {X : Cx} {e : Expr} {t t' : TT} (h : PT X e t) (m : ∀ σ H Q, t' σ H Q → t σ H Q) : PT X e t' := ⟨fun pins s σ H Q I q => h.run pins s σ H Q I (m σ H Q q)⟩
theorem PWm {X : Cx} {e : Expr} {t t' : TT} (h : PW X e t) (m : ∀ σ H Q, t' σ H Q → t σ H Q) : PW X e t' := ⟨fun wh pins s σ H Q I q => h.run wh pins s σ H Q I (m σ H Q q)⟩
theorem PAm {X : Cx} {e : List Expr} {t t' : TA} (h : PA X e t) (m : ∀ σ H Q, t' σ H Q → t σ H Q) : PA X e t' := ⟨fun pos pins s σ H Q I q => h.run pos pins s σ H Q I (m σ H Q q)⟩
theorem PSm {X : Cx} {e : Stmt} {t t' : TS} (h : PS X e t) (m : ∀ D σ H, t' D σ H → t D σ H) : PS X e t' := ⟨fun pins s σ H D I q => h.run pins s σ H D I (m D σ H q)⟩
theorem PSsm {X : Cx} {e : List Stmt} {t t' : TS} (h : PSs X e t) (m : ∀ D σ H, t' D σ H → t D σ H) : PSs X e t' := ⟨fun pins s σ H D I q => h.run pins s σ H D I (m D σ H q)⟩
theorem PIm {X : Cx} {tg e : Expr} {t t' : TI} (h : PI X tg e t) (m : ∀ σ H R, t' σ H R → t σ H R) : PI X tg e t' := ⟨fun pins s σ H Q I q => h.run pins s σ H Q I (m σ H Q q)⟩

section
variable {T : Tb} {F0 H0 Hf H Hf' H' : Hp} {σ : L2.St} {ρ : Env}
/-- a new container is frozen -/
theorem Sim.frzNew {a : Addr} {o : HO} (s : Sim T F0 H0 Hf H σ ρ) (h0 : H0 a = none) (hn : ∀ (j : Nat) (d : D), ρ[j]? = some (some (true, d)) → σ[j]? ≠ some (some (V.ref a))) (ha : Hf a = none) (ho : H a = some o) : Sim T F0 H0 (upd Hf a o) H σ ρ where
  e1 := fun b u h => by
    by_cases e : b = a
    · subst e; rw [upd_same] at h; cases h; exact ho
    · rw [upd_ne e] at h; exact s.e1 b u h
  ef := s.ef.trans (Ex.new ha)
  e0 := s.e0
  sep := fun b u h1 h2 => by rw [upd_ne (ne_of_none h1 h0)]; exact s.sep b u h1 h2
  len := s.len
  fr := fun i d h => by
    obtain ⟨v, h1, h2⟩ := s.fr i d h
    exact ⟨v, h1, h2.mono (Ex.new ha)⟩
  ow := fun i d h => by
    obtain ⟨c, h1, h2, h3, h4⟩ := s.ow i d h
    have hc : c ≠ a := fun z => hn i d h (by rw [← z]; exact h1)
    exact ⟨c, h1, by rw [upd_ne hc]; exact h2, h3, h4.mono (Ex.new ha) (Ex.refl _)⟩
  dj := s.dj
theorem Sim.notOwned {a : Addr} (s : Sim T F0 H0 Hf H σ ρ) (h : H a = none) : ∀ (j : Nat) (d : D), ρ[j]? = some (some (true, d)) → σ[j]? ≠ some (some (V.ref a)) := fun j d hj e => by
  obtain ⟨c, h1, h2, h3, h4⟩ := s.ow j d hj
  rw [h1] at e; cases e
  obtain ⟨o, h5⟩ := h4.exi
  rw [h] at h5; cases h5
theorem Ow.rp {a : Addr} {d : D} {o : HO} (h : Ow T Hf H a d) (ho : H a = some o) (e : Hf a = none) : Rp T (upd Hf a o) (.ref a) d := by
  cases d <;> first
    | exact h.elim
    | (obtain ⟨xs, g1, g2⟩ := h
       rw [ho] at g1; cases g1
       exact ⟨a, xs, rfl, upd_same, g2.mono (Ex.new e)⟩)
/-- fresh is a value -/
theorem t_frvl {f : Env → Option D} {es : List Nat} {Q : VK} (h : tX T .vl f es σ H Q) : tX T .fr f es σ H Q := by
  obtain ⟨F0, H0, Hf, ρ, d, s, fz, e, q⟩ := h
  refine ⟨F0, H0, Hf, ρ, d, s, fz, e, fun Hf' H' v g r => ?_⟩
  obtain ⟨a, rfl, h1, h2, h3⟩ := r
  obtain ⟨o, ho⟩ := h3.exi
  exact q (upd Hf' a o) H' (.ref a) (g.frz h1 h2 ho) (h3.rp ho h2)
theorem t_vlpk {f : Env → Option D} {es : List Nat} {Q : VK} (h : tX T .pk f es σ H Q) : tX T .vl f es σ H Q := by
  obtain ⟨F0, H0, Hf, ρ, d, s, fz, e, q⟩ := h
  exact ⟨F0, H0, Hf, ρ, d, s, fz, e, fun Hf' H' v g r => q Hf' H' v g (.inl r)⟩
end
theorem toV {X : Cx} {x : Expr} {T : Tb} {k : Kd} {f : Env → Option D} {es : List Nat} (h : PE X x (tX T k f es)) (hk : k ≠ .pk) : PE X x (tX T .vl f es) := by
  cases k with
  | pk => exact absurd rfl hk
  | vl => exact h
  | fr => exact PEm h fun _ _ _ => t_frvl
theorem toP {X : Cx} {x : Expr} {T : Tb} {k : Kd} {f : Env → Option D} {es : List Nat} (h : PE X x (tX T k f es)) : PE X x (tX T .pk f es) := by
  cases k with
  | pk => exact h
  | vl => exact PEm h fun _ _ _ => t_vlpk
  | fr => exact PEm (PEm h fun _ _ _ => t_frvl) fun _ _ _ => t_vlpk

/-! ### leaves -/
section
variable {X : Cx} {T : Tb} {pos : Pos}
theorem x_peek {i : Nat} {x : Str} (hN : X.N[i]? = some x) (hv : Vis X.env.scope x) (hd : (x == ("__debug__" : Str)) = false) (hcd : (x == ("__classdict__" : Str)) = false) : PE X (.Name x pos) (tX T .pk (fun ρ => gt ρ i) []) :=
  PEm (pe_var hN hv hd hcd) fun σ H Q ⟨F0, H0, Hf, ρ, d, s, fz, e, q⟩ => by
    obtain ⟨v, h1, h2⟩ := s.get e
    exact ⟨v, h1, q Hf H v (Gr.refl s.e1) h2⟩
theorem x_var {i : Nat} {x : Str} (hN : X.N[i]? = some x) (hv : Vis X.env.scope x) (hd : (x == ("__debug__" : Str)) = false) (hcd : (x == ("__classdict__" : Str)) = false) : PE X (.Name x pos) (tX T .vl (fun ρ => gt ρ i) [i]) :=
  PEm (pe_var hN hv hd hcd) fun σ H Q ⟨F0, H0, Hf, ρ, d, s, fz, e, q⟩ => by
    replace e : gt ρ i = some d := e
    unfold gt at e
    split at e
    · rename_i b d' e1
      cases e
      cases b with
      | false =>
        obtain ⟨v, h1, h2⟩ := s.fr i d e1
        exact ⟨v, h1, q Hf H v (Gr.refl s.e1) h2⟩
      | true => exact absurd e1 (fz i (by simp) d)
    · cases e
theorem x_const {x : Expr} {v : V} {d : D} (h : PE X x (tC v)) (r : ∀ H, Rp T H v d) : PE X x (tX T .vl (fun _ => some d) []) :=
  PEm h fun σ H Q ⟨F0, H0, Hf, ρ, d', s, fz, e, q⟩ => by
    cases e
    exact q Hf H v (Gr.refl s.e1) (r Hf)

/-! ### lists of values -/
theorem xs_nil : PA X [] (tXs T (fun _ => some []) []) := PAm pa_nil fun σ H Q ⟨F0, H0, Hf, ρ, d, s, fz, e, q⟩ => by
  cases e
  exact q Hf H [] (Gr.refl s.e1) rfl
theorem xs_cons {e : Expr} {es : List Expr} {f : Env → Option D} {g : Env → Option (List D)} {a b : List Nat} (h1 : PE X e (tX T .vl f a)) (h2 : PA X es (tXs T g b)) (hs : starEach (e :: es) X.env = (false, eval e X.env) :: starEach es X.env) :
    PA X (e :: es) (tXs T (fun ρ => (f ρ).bind fun x => (g ρ).bind fun r => some (x :: r)) (a ++ b)) :=
  PAm (pa_cons h1 h2 hs) fun σ H Q ⟨F0, H0, Hf, ρ, ds, s, fz, e, q⟩ => by
    obtain ⟨d, e1, e⟩ := ob e
    obtain ⟨r, e2, e⟩ := ob e
    cases e
    refine ⟨F0, H0, Hf, ρ, d, s, fz.left, e1, fun Hf1 H1 v g1 r1 => ?_⟩
    refine ⟨F0, H0, Hf1, ρ, r, (s.gr g1), fz.right, e2, fun Hf2 H2 vs g2 r2 => ?_⟩
    exact q Hf2 H2 (v :: vs) (g1.trans g2) ⟨v, vs, rfl, Rp.mono g2.y r1, r2⟩
theorem lim_ok {n : Nat} (h : n ≤ lim) : n ≤ sizeLine := sz_of h
theorem x_tup {es : List Expr} {g : Env → Option (List D)} {b : List Nat} {k1} (h : PA X es (tXs T g b)) : PE X (.Tuple es k1 pos) (tX T .vl (fun ρ => (g ρ).bind mkT) b) :=
  PEm (pe_tup h) fun σ H Q ⟨F0, H0, Hf, ρ, d, s, fz, e, q⟩ => by
    obtain ⟨ds, e1, e⟩ := ob e
    unfold mkT at e
    split at e
    rotate_left
    · cases e
    · rename_i hl
      cases e
      refine ⟨F0, H0, Hf, ρ, ds, s, fz, e1, fun Hf1 H1 vs g1 r1 => ⟨by rw [r1.length]; exact lim_ok hl, fun p hp => ?_⟩⟩
      have hf : Hf1 p = none := fresh_back (s.gr g1).e1 hp
      exact q (upd Hf1 p (.tup vs)) (upd H1 p (.tup vs)) (.ref p) (g1.trans (Gr.newF g1.z hp)) ⟨p, vs, rfl, st_of upd_same, r1.mono (Ex.new hf)⟩
theorem x_lst {es : List Expr} {g : Env → Option (List D)} {b : List Nat} (h : PA X es (tXs T g b)) : PE X (.List es pos) (tX T .fr (fun ρ => (g ρ).bind mkL) b) :=
  PEm (pe_lst h) fun σ H Q ⟨F0, H0, Hf, ρ, d, s, fz, e, q⟩ => by
    obtain ⟨ds, e1, e⟩ := ob e
    unfold mkL at e
    split at e
    rotate_left
    · cases e
    · rename_i hl
      cases e
      refine ⟨F0, H0, Hf, ρ, ds, s, fz, e1, fun Hf1 H1 vs g1 r1 => ⟨by rw [r1.length]; exact lim_ok hl, fun p hp => ?_⟩⟩
      have hf : Hf1 p = none := fresh_back (s.gr g1).e1 hp
      exact q Hf1 (upd H1 p (.lst vs)) (.ref p) (g1.trans (Gr.new g1.z hp)) ⟨p, rfl, fresh_back g1.x hp, hf, vs, upd_same, r1⟩
end

/-! ### a two-place operation on values -/
def VR (T : Tb) (k : Kd) (r : R2) (g : D → D → Option D) : Prop := ∀ F0 H0 Hf H σ ρ x y dx dy d (Q : VK), Sim T F0 H0 Hf H σ ρ → Rr T Hf H x dx → Rr T Hf H y dy → g dx dy = some d →
  (∀ Hf' H' v, Gr Hf H Hf' H' → Res T k H Hf' H' v d → Q v H') → r x y H Q
def VU (T : Tb) (k : Kd) (r : V → Hp → VK → Prop) (g : D → Option D) : Prop := ∀ F0 H0 Hf H σ ρ x dx d (Q : VK), Sim T F0 H0 Hf H σ ρ → Rr T Hf H x dx → g dx = some d →
  (∀ Hf' H' v, Gr Hf H Hf' H' → Res T k H Hf' H' v d → Q v H') → r x H Q
section
variable {X : Cx} {T : Tb} {pos : Pos} {σ : L2.St} {H : Hp} {Q : VK} {k : Kd}
theorem t_op {r : R2} {g : D → D → Option D} {fa fb : Env → Option D} {ea eb : List Nat} (hr : VR T k r g) (h : tX T k (fun ρ => (fa ρ).bind fun x => (fb ρ).bind fun y => g x y) (ea ++ eb) σ H Q) : tOp r (tX T .pk fa ea) (tX T .pk fb eb) σ H Q := by
  obtain ⟨F0, H0, Hf, ρ, d, s, fz, e, q⟩ := h
  obtain ⟨dx, e1, e⟩ := ob e
  obtain ⟨dy, e2, e⟩ := ob e
  refine ⟨F0, H0, Hf, ρ, dx, s, fz.left, e1, fun Hf1 H1 v g1 r1 => ?_⟩
  refine ⟨F0, H0, Hf1, ρ, dy, (s.gr g1), fz.right, e2, fun Hf2 H2 u g2 r2 => ?_⟩
  exact hr F0 H0 Hf2 H2 σ ρ v u dx dy d Q (s.gr (g1.trans g2)) (Rr.mono g2.y g2.x r1) r2 e fun Hf3 H3 w g3 r3 => q Hf3 H3 w ((g1.trans g2).trans g3) (r3.back (g1.trans g2).x)
theorem t_un {r : V → Hp → VK → Prop} {g : D → Option D} {fa : Env → Option D} {ea : List Nat} (hr : VU T k r g) (h : tX T k (fun ρ => (fa ρ).bind fun x => g x) ea σ H Q) : tUn r (tX T .pk fa ea) σ H Q := by
  obtain ⟨F0, H0, Hf, ρ, d, s, fz, e, q⟩ := h
  obtain ⟨dx, e1, e⟩ := ob e
  refine ⟨F0, H0, Hf, ρ, dx, s, fz, e1, fun Hf1 H1 v g1 r1 => ?_⟩
  exact hr F0 H0 Hf1 H1 σ ρ v dx d Q (s.gr g1) r1 e fun Hf3 H3 w g3 r3 => q Hf3 H3 w (g1.trans g3) (r3.back g1.x)
theorem x_bop {op : Operator} {r : R2} {g : D → D → Option D} {a b : Expr} {fa fb : Env → Option D} {ea eb : List Nat} (ho : OpR X (binaryOp op) r) (hr : VR T k r g) (ha : PE X a (tX T .pk fa ea)) (hb : PE X b (tX T .pk fb eb)) :
    PE X (.BinOp a op b pos) (tX T k (fun ρ => (fa ρ).bind fun x => (fb ρ).bind fun y => g x y) (ea ++ eb)) := PEm (pe_op ho ha hb) fun _ _ _ => t_op hr
theorem x_cmp {op : CmpOp} {r : R2} {g : D → D → Option D} {a b : Expr} {fa fb : Env → Option D} {ea eb : List Nat} (ho : OpR X (compareOp op) r) (hr : VR T k r g) (ha : PE X a (tX T .pk fa ea)) (hb : PE X b (tX T .pk fb eb)) (hm : behindInMarks op b = false) :
    PE X (.Compare a [op] [b] pos) (tX T k (fun ρ => (fa ρ).bind fun x => (fb ρ).bind fun y => g x y) (ea ++ eb)) := PEm (pe_cmpR ho ha hb hm) fun _ _ _ => t_op hr
theorem x_ix {r : R2} {g : D → D → Option D} {a b : Expr} {fa fb : Env → Option D} {ea eb : List Nat} (ho : IxR X r) (hr : VR T k r g) (ha : PE X a (tX T .pk fa ea)) (hb : PE X b (tX T .pk fb eb)) (hm : PlainIx b) :
    PE X (.Subscript a b pos) (tX T k (fun ρ => (fa ρ).bind fun x => (fb ρ).bind fun y => g x y) (ea ++ eb)) := PEm (pe_ix ho ha hb hm) fun _ _ _ => t_op hr
theorem x_un {op : UnaryOp} {r : V → Hp → VK → Prop} {g : D → Option D} {a : Expr} {fa : Env → Option D} {ea : List Nat} (ho : UnR X (unaryOp op) r) (hr : VU T k r g) (ha : PE X a (tX T .pk fa ea)) :
    PE X (.UnaryOp op a pos) (tX T k (fun ρ => (fa ρ).bind fun x => g x) ea) := PEm (pe_un ho ha) fun _ _ _ => t_un hr
end

/-! ### the values' own laws -/
section
variable {T : Tb} {Hf H : Hp} {v : V}
theorem Rr.int {i : Int} (h : Rr T Hf H v (.int i)) : v = .int i := by
  rcases h with h | ⟨a, _, h⟩
  · exact h
  · exact h.elim
theorem Rr.bl {i : Bool} (h : Rr T Hf H v (.bl i)) : v = .bl i := by
  rcases h with h | ⟨a, _, h⟩
  · exact h
  · exact h.elim
theorem Rr.str {i : List Nat} (h : Rr T Hf H v (.str i)) : v = .str (sS i) := by
  rcases h with h | ⟨a, _, h⟩
  · exact h
  · exact h.elim
theorem Rr.tup {l : List D} (h : Rr T Hf H v (.tup l)) : ∃ a xs, v = .ref a ∧ SqT T.K Hf a xs ∧ Rps T Hf xs l := by
  rcases h with h | ⟨a, _, h⟩
  · exact h
  · exact h.elim
theorem Rr.lst {l : List D} (e : Ex Hf H) (h : Rr T Hf H v (.lst l)) : ∃ a xs, v = .ref a ∧ H a = some (.lst xs) ∧ Rps T Hf xs l := by
  rcases h with h | ⟨a, h1, h⟩
  · obtain ⟨a, xs, h1, h2, h3⟩ := h
    exact ⟨a, xs, h1, e a _ h2, h3⟩
  · obtain ⟨xs, h2, h3⟩ := h
    exact ⟨a, xs, h1, h2, h3⟩
theorem Rr.dic {l : List (List Nat × D)} (e : Ex Hf H) (h : Rr T Hf H v (.dic l)) : ∃ a xs, v = .ref a ∧ H a = some (.dK xs) ∧ Rpd T Hf xs l := by
  rcases h with h | ⟨a, h1, h⟩
  · obtain ⟨a, xs, h1, h2, h3⟩ := h
    exact ⟨a, xs, h1, e a _ h2, h3⟩
  · obtain ⟨xs, h2, h3⟩ := h
    exact ⟨a, xs, h1, h2, h3⟩
theorem Rr.scr {l : List Int} (h : Rr T Hf H v (.scr l)) : ∃ a, v = .ref a ∧ SqL T.K Hf a (l.map V.int) := by
  rcases h with h | ⟨a, _, h⟩
  · exact h
  · exact h.elim
theorem Rr.ins {c : Nat} {l : List D} (h : Rr T Hf H v (.ins c l)) : ∃ a k dx fs, v = .ref a ∧ T.cl c = some k ∧ Hf a = some (.ins k.C dx fs) ∧ fs.map (·.1) = k.fs ∧ Rps T Hf (fs.map (·.2)) l := by
  rcases h with h | ⟨a, _, h⟩
  · exact h
  · exact h.elim
end

/-! ### arithmetic -/
theorem vr_int {T : Tb} {r : R2} {g : D → D → Option D} (h : ∀ dx dy d, g dx dy = some d → ∃ i j, dx = .int i ∧ dy = .int j ∧ ∃ v, (∀ H, Rp T H v d) ∧ ∀ H (Q : VK), Q v H → r (.int i) (.int j) H Q) : VR T .vl r g := by
  intro F0 H0 Hf H σ ρ x y dx dy d Q s rx ry e q
  obtain ⟨i, j, rfl, rfl, v, h1, h2⟩ := h dx dy d e
  cases rx.int; cases ry.int
  exact h2 H Q (q Hf H v (Gr.refl s.e1) (h1 Hf))
theorem vr_add {T : Tb} : VR T .vl (rI0 fun i j => .int (i + j)) (bopd .add) := vr_int fun dx dy d e => by
  cases dx <;> cases dy <;> simp only [bopd, reduceCtorEq] at e
  cases e
  exact ⟨_, _, rfl, rfl, _, fun _ => rfl, fun H Q q => ⟨_, _, rfl, rfl, q⟩⟩
theorem vr_sub {T : Tb} : VR T .vl (rI0 fun i j => .int (i - j)) (bopd .sub) := vr_int fun dx dy d e => by
  cases dx <;> cases dy <;> simp only [bopd, reduceCtorEq] at e
  cases e
  exact ⟨_, _, rfl, rfl, _, fun _ => rfl, fun H Q q => ⟨_, _, rfl, rfl, q⟩⟩
theorem vr_mul {T : Tb} : VR T .vl (rI CMul fun i j => .int (i * j)) (bopd .mul) := vr_int fun dx dy d e => by
  cases dx <;> cases dy <;> simp only [bopd, reduceCtorEq] at e
  rename_i i j
  split at e
  · rename_i h
    cases e
    refine ⟨_, _, rfl, rfl, _, fun _ => rfl, fun H Q q => ⟨_, _, rfl, rfl, ?_, q⟩⟩
    simp only [Bool.or_eq_true, Bool.and_eq_true, decide_eq_true_eq] at h
    rcases h with h | h
    · exact .inl ⟨by omega, by omega⟩
    · exact .inr ⟨by omega, by omega⟩
  · cases e
theorem vr_fdiv {T : Tb} : VR T .vl (rI CDiv fun i j => .int (i / j)) (bopd .fdiv) := vr_int fun dx dy d e => by
  cases dx <;> cases dy <;> simp only [bopd, reduceCtorEq] at e
  rename_i i j
  split at e
  · rename_i h
    cases e
    simp only [Bool.and_eq_true, decide_eq_true_eq] at h
    exact ⟨_, _, rfl, rfl, _, fun _ => rfl, fun H Q q => ⟨_, _, rfl, rfl, ⟨h.1, h.2⟩, q⟩⟩
  · cases e
theorem vr_mod {T : Tb} : VR T .vl (rI (fun _ j => 0 < j) fun i j => .int (i % j)) (bopd .mod) := vr_int fun dx dy d e => by
  cases dx <;> cases dy <;> simp only [bopd, reduceCtorEq] at e
  rename_i i j
  split at e
  · rename_i h
    cases e
    exact ⟨_, _, rfl, rfl, _, fun _ => rfl, fun H Q q => ⟨_, _, rfl, rfl, h, q⟩⟩
  · cases e
theorem vr_lt {T : Tb} : VR T .vl (rI0 fun i j => .bl (decide (i < j))) (cmpd .lt) := vr_int fun dx dy d e => by
  cases dx <;> cases dy <;> simp only [cmpd, reduceCtorEq] at e
  cases e
  exact ⟨_, _, rfl, rfl, _, fun _ => rfl, fun H Q q => ⟨_, _, rfl, rfl, q⟩⟩
theorem vr_le {T : Tb} : VR T .vl (rI0 fun i j => .bl (decide (i ≤ j))) (cmpd .le) := vr_int fun dx dy d e => by
  cases dx <;> cases dy <;> simp only [cmpd, reduceCtorEq] at e
  cases e
  exact ⟨_, _, rfl, rfl, _, fun _ => rfl, fun H Q q => ⟨_, _, rfl, rfl, q⟩⟩
theorem vr_gt {T : Tb} : VR T .vl (rI0 fun i j => .bl (decide (j < i))) (cmpd .gt) := vr_int fun dx dy d e => by
  cases dx <;> cases dy <;> simp only [cmpd, reduceCtorEq] at e
  cases e
  exact ⟨_, _, rfl, rfl, _, fun _ => rfl, fun H Q q => ⟨_, _, rfl, rfl, q⟩⟩
theorem vr_ge {T : Tb} : VR T .vl (rI0 fun i j => .bl (decide (j ≤ i))) (cmpd .ge) := vr_int fun dx dy d e => by
  cases dx <;> cases dy <;> simp only [cmpd, reduceCtorEq] at e
  cases e
  exact ⟨_, _, rfl, rfl, _, fun _ => rfl, fun H Q q => ⟨_, _, rfl, rfl, q⟩⟩
theorem vu_neg {T : Tb} : VU T .vl (rU fun i => .int (-i)) (fun x => (intD x).bind fun k => some (.int (-k))) := by
  intro F0 H0 Hf H σ ρ x dx d Q s rx e q
  cases dx <;> simp only [intD, Option.bind_none, reduceCtorEq] at e
  cases e
  cases rx.int
  exact ⟨_, rfl, q Hf H _ (Gr.refl s.e1) rfl⟩
end PD
end
section
set_option Elab.async false
set_option linter.all false
set_option maxRecDepth 100000
set_option maxHeartbeats 4000000
/-! PDD: the values' own laws: equality, membership, places, slices, lengths, kinds. -/
namespace PD
open PySem L2 Evl

/-! ### data as the library's data -/
mutual
def asP : D → PyData
  | .non => .none
  | .bl b => .bool b
  | .int i => .int i
  | .str s => .str (sS s)
  | .tup l => .tuple (asPs l)
  | .lst l => .list (asPs l)
  | _ => .none
def asPs : List D → List PyData
  | [] => []
  | d :: r => asP d :: asPs r
end
mutual
theorem asP_dp {T : Tb} {H : Hp} : ∀ {n : Nat} {d : D} {v : V}, pln n d = true → Rp T H v d → Dp T.K H v (asP d)
  | _, .non, _, _, r => by cases (show _ = _ from r); exact .non
  | _, .bl b, _, _, r => by cases (show _ = _ from r); exact .bl b
  | _, .int i, _, _, r => by cases (show _ = _ from r); exact .int i
  | _, .str s, _, _, r => by cases (show _ = _ from r); exact .str _
  | 0, .tup l, _, h, _ => by simp [pln] at h
  | n + 1, .tup l, _, h, r => by
    obtain ⟨a, xs, rfl, h1, h2⟩ := r
    exact .tup h1 (asP_dps (n := n) (by simpa [pln] using h) h2)
  | 0, .lst l, _, h, _ => by simp [pln] at h
  | n + 1, .lst l, _, h, r => by
    obtain ⟨a, xs, rfl, h1, h2⟩ := r
    exact .lst (sq_of h1) (asP_dps (n := n) (by simpa [pln] using h) h2)
  | 0, .dic _, _, h, _ => by simp [pln] at h
  | n + 1, .dic _, _, h, _ => by simp [pln] at h
  | 0, .ins _ _, _, h, _ => by simp [pln] at h
  | n + 1, .ins _ _, _, h, _ => by simp [pln] at h
  | 0, .scr _, _, h, _ => by simp [pln] at h
  | n + 1, .scr _, _, h, _ => by simp [pln] at h
theorem asP_dps {T : Tb} {H : Hp} : ∀ {n : Nat} {ds : List D} {vs : List V}, plns n ds = true → Rps T H vs ds → DpAll T.K H vs (asPs ds)
  | _, [], _, _, r => by cases (show _ = [] from r); exact .nil
  | n, d :: ds, _, h, r => by
    obtain ⟨v, rr, rfl, h1, h2⟩ := r
    have h : pln n d = true ∧ plns n ds = true := by simpa [plns] using h
    exact .cons (asP_dp h.1 h1) (asP_dps h.2 h2)
end
mutual
theorem asP_ok : ∀ {n : Nat} {d : D}, pln n d = true → (asP d).canLay0 = true ∧ (asP d).depth ≤ n
  | n, .non, _ => ⟨rfl, Nat.zero_le _⟩
  | n, .bl b, _ => ⟨rfl, Nat.zero_le _⟩
  | n, .int i, _ => ⟨rfl, Nat.zero_le _⟩
  | n, .str s, h => by
    refine ⟨?_, Nat.zero_le _⟩
    have h : ∀ c ∈ s, c < 1114112 := by cases n <;> simpa [pln] using h
    show PyData.strOk (sS s) = true
    unfold PyData.strOk sS
    simp only [List.all_toArray, List.all_eq_true, decide_eq_true_eq]
    exact h
  | 0, .tup l, h => by simp [pln] at h
  | n + 1, .tup l, h => by
    obtain ⟨h1, h2⟩ := asP_oks (n := n) (ds := l) (by simpa [pln] using h)
    exact ⟨h1, Nat.succ_le_succ h2⟩
  | 0, .lst l, h => by simp [pln] at h
  | n + 1, .lst l, h => by
    obtain ⟨h1, h2⟩ := asP_oks (n := n) (ds := l) (by simpa [pln] using h)
    exact ⟨h1, Nat.succ_le_succ h2⟩
  | 0, .dic _, h => by simp [pln] at h
  | n + 1, .dic _, h => by simp [pln] at h
  | 0, .ins _ _, h => by simp [pln] at h
  | n + 1, .ins _ _, h => by simp [pln] at h
  | 0, .scr _, h => by simp [pln] at h
  | n + 1, .scr _, h => by simp [pln] at h
theorem asP_oks : ∀ {n : Nat} {ds : List D}, plns n ds = true → PyData.canLayAll0 (asPs ds) = true ∧ PyData.depthAll (asPs ds) ≤ n
  | n, [], _ => ⟨rfl, Nat.zero_le _⟩
  | n, d :: ds, h => by
    have h : pln n d = true ∧ plns n ds = true := by simpa [plns] using h
    obtain ⟨h1, h2⟩ := asP_ok h.1
    obtain ⟨h3, h4⟩ := asP_oks h.2
    refine ⟨?_, ?_⟩
    · show (PyData.canLay0 (asP d) && PyData.canLayAll0 (asPs ds)) = true
      rw [h1, h3]; rfl
    · show max (PyData.depth (asP d)) (PyData.depthAll (asPs ds)) ≤ n
      omega
end
theorem asP_shaped {d : D} (h : pln 60 d = true) : SeqAt.shaped (asP d) = true := by
  obtain ⟨h1, h2⟩ := asP_ok h
  unfold SeqAt.shaped
  rw [h1]
  simp only [Bool.true_and, decide_eq_true_eq]
  omega
mutual
theorem asP_eqv : ∀ {n m : Nat} {d e : D}, pln n d = true → pln m e = true → PyData.eqv (asP d) (asP e) = eqd d e
  | n, m, d, e, hd, he => by
    cases d <;> cases e <;> first
      | rfl
      | (exfalso; cases n <;> simp [pln] at hd; done)
      | (exfalso; cases m <;> simp [pln] at he; done)
      | (simp only [asP, PyData.eqv, eqd]; done)
      | (simp only [asP, PyData.eqv, eqd]; exact sS_beq _ _)
      | (cases n with
         | zero => simp [pln] at hd
         | succ n =>
           cases m with
           | zero => simp [pln] at he
           | succ m =>
             simp only [asP, PyData.eqv, eqd]
             exact asP_eqvs (n := n) (m := m) (by simpa [pln] using hd) (by simpa [pln] using he))
theorem asP_eqvs : ∀ {n m : Nat} {ds es : List D}, plns n ds = true → plns m es = true → PyData.eqvAll (asPs ds) (asPs es) = eqds ds es
  | n, m, [], [], _, _ => rfl
  | n, m, [], _ :: _, _, _ => rfl
  | n, m, _ :: _, [], _, _ => rfl
  | n, m, d :: ds, e :: es, hd, he => by
    have hd : pln n d = true ∧ plns n ds = true := by simpa [plns] using hd
    have he : pln m e = true ∧ plns m es = true := by simpa [plns] using he
    simp only [asPs, PyData.eqvAll, eqds]
    rw [asP_eqv hd.1 he.1, asP_eqvs hd.2 he.2]
end
theorem dpInts {K : PySem.W.Frag} {H : Hp} : ∀ (l : List Int), DpAll K H (l.map V.int) (l.map PyData.int)
  | [] => .nil
  | i :: r => .cons (.int i) (dpInts r)
theorem canLayInts : ∀ (l : List Int), PyData.canLayAll0 (l.map PyData.int) = true ∧ PyData.depthAll (l.map PyData.int) = 0
  | [] => ⟨rfl, rfl⟩
  | i :: r => by
    obtain ⟨h1, h2⟩ := canLayInts r
    refine ⟨?_, ?_⟩
    · show (PyData.canLay0 (.int i) && PyData.canLayAll0 (r.map PyData.int)) = true
      rw [h1]; rfl
    · show max (PyData.depth (.int i)) (PyData.depthAll (r.map PyData.int)) = 0
      rw [h2]; rfl
theorem scr_eqd {T : Tb} {Hf H : Hp} {l : List Int} {x y : V} (e : Ex Hf H) (rx : Rr T Hf H x (.scr l)) (ry : Rr T Hf H y (.lst [])) :
    ∃ d f, Dp T.K H x d ∧ Dp T.K H y f ∧ SeqAt.shaped d = true ∧ SeqAt.shaped f = true ∧ PyData.eqv d f = l.isEmpty := by
  obtain ⟨a, rfl, h1⟩ := rx.scr
  obtain ⟨b, xs, rfl, h2, h3⟩ := ry.lst e
  cases (show xs = [] from h3)
  refine ⟨.list (l.map .int), .list [], .lst (ex_l e h1) (dpInts l), .lst (sq_of h2) .nil, ?_, rfl, ?_⟩
  · obtain ⟨h4, h5⟩ := canLayInts l
    unfold SeqAt.shaped
    show (PyData.canLayAll0 (l.map PyData.int) && decide (PyData.depthAll (l.map PyData.int) + 1 ≤ 64)) = true
    rw [h4, h5]; rfl
  · cases l with
    | nil => rfl
    | cons i r => rfl
theorem vr_eq {T : Tb} : VR T .vl (rEqD T.K) (cmpd .eq) := by
  intro F0 H0 Hf H σ ρ x y dx dy d Q s rx ry e q
  simp only [cmpd] at e
  split at e
  · rename_i l
    cases e
    obtain ⟨d, f, h1, h2, h3, h4, h5⟩ := scr_eqd s.e1 rx ry
    refine ⟨d, f, h1, h2, h3, h4, ?_⟩
    rw [h5]
    exact q Hf H _ (Gr.refl s.e1) rfl
  · split at e
    · rename_i h
      cases e
      simp only [Bool.and_eq_true] at h
      refine ⟨asP dx, asP dy, asP_dp h.1 (rx.full s.e1), asP_dp h.2 (ry.full s.e1), asP_shaped h.1, asP_shaped h.2, ?_⟩
      rw [asP_eqv h.1 h.2]
      exact q Hf H _ (Gr.refl s.e1) rfl
    · cases e
theorem vr_ne {T : Tb} : VR T .vl (rNeD T.K) (cmpd .ne) := by
  intro F0 H0 Hf H σ ρ x y dx dy d Q s rx ry e q
  simp only [cmpd] at e
  split at e
  · rename_i l
    cases e
    obtain ⟨d, f, h1, h2, h3, h4, h5⟩ := scr_eqd s.e1 rx ry
    refine ⟨d, f, h1, h2, h3, h4, ?_⟩
    rw [h5]
    exact q Hf H _ (Gr.refl s.e1) rfl
  · split at e
    · rename_i h
      cases e
      simp only [Bool.and_eq_true] at h
      refine ⟨asP dx, asP dy, asP_dp h.1 (rx.full s.e1), asP_dp h.2 (ry.full s.e1), asP_shaped h.1, asP_shaped h.2, ?_⟩
      rw [asP_eqv h.1 h.2]
      exact q Hf H _ (Gr.refl s.e1) rfl
    · cases e

/-! ### membership -/
theorem flat_v {T : Tb} {H : Hp} {v : V} {d : D} (h : flat d = true) (r : Rp T H v d) : flatV v = true := by
  cases d <;> simp [flat] at h <;> (cases (show _ = _ from r); rfl)
theorem flat_vs {T : Tb} {H : Hp} : ∀ {ds : List D} {vs : List V}, ds.all flat = true → Rps T H vs ds → vs.all flatV = true
  | [], _, _, r => by cases (show _ = [] from r); rfl
  | d :: ds, _, h, r => by
    obtain ⟨v, rr, rfl, h1, h2⟩ := r
    simp only [List.all_cons, Bool.and_eq_true] at h ⊢
    exact ⟨flat_v h.1 h1, flat_vs h.2 h2⟩
theorem eqf_v {T : Tb} {H : Hp} {v u : V} {d e : D} (hd : flat d = true) (he : flat e = true) (r : Rp T H v d) (r' : Rp T H u e) : eqV v u = eqf d e := by
  cases d <;> simp [flat] at hd <;> cases e <;> simp [flat] at he <;> (cases (show _ = _ from r); cases (show _ = _ from r'); first | rfl | exact sS_beq _ _)
theorem inf_v {T : Tb} {H : Hp} {u : V} {e : D} (he : flat e = true) (r' : Rp T H u e) : ∀ {ds : List D} {vs : List V}, ds.all flat = true → Rps T H vs ds → inV u vs = inf e ds
  | [], _, _, r => by cases (show _ = [] from r); rfl
  | d :: ds, _, h, r => by
    obtain ⟨v, rr, rfl, h1, h2⟩ := r
    simp only [List.all_cons, Bool.and_eq_true] at h
    have ih := inf_v he r' h.2 h2
    unfold inV inf at ih ⊢
    rw [List.any_cons, List.any_cons, eqf_v h.1 he h1 r', ih]
theorem seq_of {T : Tb} {Hf H : Hp} {v : V} {d : D} {l : List D} (e : Ex Hf H) (h : Rr T Hf H v d) (hl : seqOf d = some l) : ∃ p xs, v = .ref p ∧ (SqL T.K H p xs ∨ SqT T.K H p xs) ∧ Rps T H xs l := by
  cases d <;> simp only [seqOf, reduceCtorEq] at hl <;> cases hl
  · obtain ⟨a, xs, rfl, h1, h2⟩ := h.tup
    exact ⟨a, xs, rfl, .inr (ex_t e h1), h2.mono e⟩
  · obtain ⟨a, xs, rfl, h1, h2⟩ := h.lst e
    exact ⟨a, xs, rfl, .inl (sq_of h1), h2.mono e⟩
/-- d.get by a text -/
theorem dget_v {T : Tb} {H : Hp} (k : List Nat) : ∀ {l : List (List Nat × D)} {kvs : List (Key × V)}, Rpd T H kvs l → match dgetD l k with
    | some d => ∃ v, valV kvs (.inr (sS k)) = some v ∧ Rp T H v d
    | none => valV kvs (.inr (sS k)) = none
  | [], _, r => by cases (show _ = [] from r); rfl
  | (j, d) :: ds, _, r => by
    obtain ⟨v, rr, rfl, h1, h2⟩ := r
    have ih := dget_v k h2
    unfold dgetD
    unfold valV at ih ⊢
    by_cases h : j = k
    · subst h
      simp only [beq_self_eq_true, if_true]
      rw [List.find?_cons_of_pos (by simp)]
      exact ⟨v, rfl, h1⟩
    · have h3 : ¬ ((Sum.inr (sS j) : Key) = Sum.inr (sS k)) := fun z => h (sS_inj (Sum.inr.inj z))
      rw [if_neg (by simpa using h), List.find?_cons_of_neg (by simpa using h3)]
      exact ih
theorem din_v {T : Tb} {H : Hp} (k : List Nat) {l : List (List Nat × D)} {kvs : List (Key × V)} (r : Rpd T H kvs l) : (valV kvs (.inr (sS k))).isSome = l.any fun p => p.1 == k := by
  have h1 : (dgetD l k).isSome = l.any fun p => p.1 == k := by
    clear r
    induction l with
    | nil => rfl
    | cons p l ih =>
      obtain ⟨j, d⟩ := p
      unfold dgetD
      rw [List.any_cons]
      by_cases h : j = k
      · subst h; simp
      · rw [if_neg (by simpa using h), ih]
        have : (j == k) = false := by simpa using h
        simp [this]
  have h2 := dget_v k r
  rw [← h1]
  cases e : dgetD l k with
  | none => rw [e] at h2; rw [h2]; rfl
  | some d => rw [e] at h2; obtain ⟨v, h3, _⟩ := h2; rw [h3]; rfl
def rDin (neg : Bool) : R2 := fun x y H Q => ∃ a o, y = .ref a ∧ DGet H a x o ∧ Q (.bl (if neg then !o.isSome else o.isSome)) H
theorem op_din {X : Cx} (hu : X.A.units + 1 < cLine) : OpR X (compareOp .In) (rDin false) := by
  intro pins s σ H x y v u Q I rx ry h
  obtain ⟨a, o, rfl, g, q⟩ := h
  obtain rfl : u = Value.ref a := ry
  exact d_in hu I g rx fun s3 I3 => ⟨.bl o.isSome, H, I3, rfl, q⟩
theorem op_dnin {X : Cx} (hu : X.A.units + 1 < cLine) : OpR X (compareOp .NotIn) (rDin true) := by
  intro pins s σ H x y v u Q I rx ry h
  obtain ⟨a, o, rfl, g, q⟩ := h
  obtain rfl : u = Value.ref a := ry
  exact d_notIn hu I g rx fun s3 I3 => ⟨.bl (!o.isSome), H, I3, rfl, q⟩
abbrev rSgn (neg : Bool) : R2 := fun x y H Q => ∃ c z, x = V.str { cps := #[c] } ∧ y = V.str z ∧ Q (V.bl (if neg then !decide (c ∈ z.cps.toList) else decide (c ∈ z.cps.toList))) H
abbrev rInA (K : PySem.W.Frag) (neg : Bool) : R2 := fun x y H Q => (rIn K neg x y H Q ∨ rSgn neg x y H Q) ∨ rDin neg x y H Q
theorem op_inA {X : Cx} (hu : X.A.units + 1 < cLine) : OpR X (compareOp .In) (rInA X.K false) := OpR.or (OpR.or op_in_seq op_in_sign) (op_din hu)
theorem op_ninA {X : Cx} (hu : X.A.units + 1 < cLine) : OpR X (compareOp .NotIn) (rInA X.K true) := OpR.or (OpR.or op_notIn_seq op_notIn_sign) (op_dnin hu)
theorem vr_inA {T : Tb} (neg : Bool) : VR T .vl (rInA T.K neg) (cmpd (if neg then .notIn else .isIn)) := by
  intro F0 H0 Hf H σ ρ x y dx dy d Q s rx ry e q
  cases neg with
  | false =>
    simp only [cmpd, Bool.false_eq_true, if_false] at e
    split at e
    · rename_i c z
      cases e
      exact .inl (.inr ⟨c, sS z, rx.str, ry.str, q Hf H _ (Gr.refl s.e1) rfl⟩)
    · rename_i k l
      cases e
      obtain ⟨a, kvs, rfl, h1, h2⟩ := ry.dic s.e1
      refine .inr ⟨a, valV kvs (.inr (sS k)), rfl, ?_, ?_⟩
      · rw [rx.str]; exact DGet.k (k := .inr (sS k)) h1
      · show Q (.bl (valV kvs (.inr (sS k))).isSome) H
        rw [din_v k h2]
        exact q Hf H _ (Gr.refl s.e1) rfl
    · obtain ⟨l, e1, e2⟩ := ob e
      split at e2
      · rename_i h
        cases e2
        simp only [Bool.and_eq_true] at h
        obtain ⟨p, xs, rfl, h1, h2⟩ := seq_of s.e1 ry e1
        refine .inl (.inl ⟨p, xs, rfl, h1, flat_v h.1 (rx.full s.e1), flat_vs h.2 h2, ?_⟩)
        show Q (.bl (inV x xs)) H
        rw [inf_v h.1 (rx.full s.e1) h.2 h2]
        exact q Hf H _ (Gr.refl s.e1) rfl
      · cases e2
  | true =>
    simp only [cmpd, if_true] at e
    split at e
    · rename_i c z
      cases e
      exact .inl (.inr ⟨c, sS z, rx.str, ry.str, q Hf H _ (Gr.refl s.e1) rfl⟩)
    · rename_i k l
      cases e
      obtain ⟨a, kvs, rfl, h1, h2⟩ := ry.dic s.e1
      refine .inr ⟨a, valV kvs (.inr (sS k)), rfl, ?_, ?_⟩
      · rw [rx.str]; exact DGet.k (k := .inr (sS k)) h1
      · show Q (.bl (!(valV kvs (.inr (sS k))).isSome)) H
        rw [din_v k h2]
        exact q Hf H _ (Gr.refl s.e1) rfl
    · obtain ⟨l, e1, e2⟩ := ob e
      split at e2
      · rename_i h
        cases e2
        simp only [Bool.and_eq_true] at h
        obtain ⟨p, xs, rfl, h1, h2⟩ := seq_of s.e1 ry e1
        refine .inl (.inl ⟨p, xs, rfl, h1, flat_v h.1 (rx.full s.e1), flat_vs h.2 h2, ?_⟩)
        show Q (.bl (!inV x xs)) H
        rw [inf_v h.1 (rx.full s.e1) h.2 h2]
        exact q Hf H _ (Gr.refl s.e1) rfl
      · cases e2

/-! ### places -/
theorem atI_rp {T : Tb} {H : Hp} {xs : List V} {ds : List D} {i : Int} {d : D} (r : Rps T H xs ds) (h : atI ds i = some d) : ∃ v, atI xs i = some v ∧ Rp T H v d := by
  unfold atI at h ⊢
  obtain ⟨j, h1, h2⟩ := ob h
  obtain ⟨v, h3, h4⟩ := r.get h2
  rw [r.length, h1]
  exact ⟨v, h3, h4⟩
theorem Rr.items {T : Tb} {Hf H : Hp} {v : V} {d : D} {l : List D} (e : Ex Hf H) (h : Rr T Hf H v d) (hl : seqOf d = some l) : ∃ p xs, v = .ref p ∧ (SqL T.K H p xs ∨ SqT T.K H p xs) ∧ Rps T Hf xs l := by
  cases d <;> simp only [seqOf, reduceCtorEq] at hl <;> cases hl
  · obtain ⟨a, xs, rfl, h1, h2⟩ := h.tup
    exact ⟨a, xs, rfl, .inr (ex_t e h1), h2⟩
  · obtain ⟨a, xs, rfl, h1, h2⟩ := h.lst e
    exact ⟨a, xs, rfl, .inl (sq_of h1), h2⟩
theorem vr_idx {T : Tb} : VR T .vl (rIx T.K) (fun x y => (intD y).bind fun k => (seqOf x).bind fun l => atI l k) := by
  intro F0 H0 Hf H σ ρ x y dx dy d Q s rx ry e q
  obtain ⟨k, e1, e3⟩ := ob e
  obtain ⟨l, e2, e4⟩ := ob e3
  clear e e3
  cases dy <;> simp only [intD, reduceCtorEq] at e1
  cases e1
  cases ry.int
  obtain ⟨p, xs, rfl, h1, h2⟩ := rx.items s.e1 e2
  obtain ⟨v, h3, h4⟩ := atI_rp h2 e4
  rcases h1 with h1 | h1
  · exact .inl ⟨p, xs, k, v, rfl, rfl, h1, h3, q Hf H v (Gr.refl s.e1) h4⟩
  · exact .inr (.inl ⟨p, xs, k, v, rfl, rfl, h1, h3, q Hf H v (Gr.refl s.e1) h4⟩)

/-! ### gluing -/
theorem vr_cat {T : Tb} : VR T .fr rCat (fun x y => (lstD x).bind fun l => (lstD y).bind fun m => mkL (l ++ m)) := by
  intro F0 H0 Hf H σ ρ x y dx dy d Q s rx ry e q
  obtain ⟨l, e1, e3⟩ := ob e
  obtain ⟨m, e2, e4⟩ := ob e3
  clear e e3
  cases dx <;> simp only [lstD, reduceCtorEq] at e1
  cases dy <;> simp only [lstD, reduceCtorEq] at e2
  cases e1; cases e2
  obtain ⟨a, xs, rfl, h1, h2⟩ := rx.lst s.e1
  obtain ⟨b, ys, rfl, h3, h4⟩ := ry.lst s.e1
  unfold mkL at e4
  split at e4
  · rename_i hl
    cases e4
    refine ⟨a, b, xs, ys, rfl, rfl, h1, h3, ?_, fun p hp => ?_⟩
    · rw [h2.length, h4.length, ← List.length_append]; exact lim_ok hl
    · exact q Hf (upd H p (.lst (xs ++ ys))) (.ref p) (Gr.new s.e1 hp) ⟨p, rfl, hp, fresh_back s.e1 hp, _, upd_same, h2.append h4⟩
  · cases e4
theorem vr_catT {T : Tb} : VR T .vl (rCatA T.K) (fun x y => (tupD x).bind fun l => (tupD y).bind fun m => mkT (l ++ m)) := by
  intro F0 H0 Hf H σ ρ x y dx dy d Q s rx ry e q
  obtain ⟨l, e1, e3⟩ := ob e
  obtain ⟨m, e2, e4⟩ := ob e3
  clear e e3
  cases dx <;> simp only [tupD, reduceCtorEq] at e1
  cases dy <;> simp only [tupD, reduceCtorEq] at e2
  cases e1; cases e2
  obtain ⟨a, xs, rfl, h1, h2⟩ := rx.tup
  obtain ⟨b, ys, rfl, h3, h4⟩ := ry.tup
  unfold mkT at e4
  split at e4
  · rename_i hl
    cases e4
    have hz : xs.length + ys.length ≤ sizeLine := by rw [h2.length, h4.length, ← List.length_append]; exact lim_ok hl
    refine ⟨a, b, xs, ys, rfl, rfl, ex_t s.e1 h1, ex_t s.e1 h3, hz, fun z => ?_, fun z1 z2 => ?_, fun z1 z2 p hp => ?_⟩
    · refine q Hf H (.ref b) (Gr.refl s.e1) ⟨b, ys, rfl, h3, ?_⟩
      subst z
      have := h2.length
      simp only [List.length_nil] at this
      cases l with
      | nil => exact h4
      | cons _ _ => simp at this
    · refine q Hf H (.ref a) (Gr.refl s.e1) ⟨a, xs, rfl, h1, ?_⟩
      subst z2
      have := h4.length
      simp only [List.length_nil] at this
      cases m with
      | nil => rw [List.append_nil]; exact h2
      | cons _ _ => simp at this
    · have hf : Hf p = none := fresh_back s.e1 hp
      exact q (upd Hf p (.tup (xs ++ ys))) (upd H p (.tup (xs ++ ys))) (.ref p) (Gr.newF s.e1 hp) ⟨p, _, rfl, st_of upd_same, (h2.append h4).mono (Ex.new hf)⟩
  · cases e4
end PD
end
section
set_option Elab.async false
set_option linter.all false
set_option maxRecDepth 100000
set_option maxHeartbeats 4000000
/-! PDE: built-ins, tests, slices, calls. -/
namespace PD
open PySem L2 Evl

/-! ### built-ins of one argument -/
section
variable {X : Cx} {T : Tb} {pos p : Pos} {σ : L2.St} {H : Hp} {Q : VK} {k : Kd}
theorem t_b1 {r : List V → Hp → VK → Prop} {g : D → Option D} {fa : Env → Option D} {ea : List Nat} (hr : VU T k (fun x H Q => r [x] H Q) g) (h : tX T k (fun ρ => (fa ρ).bind fun x => g x) ea σ H Q) : tCB r (tCons (tX T .pk fa ea) tNil) σ H Q :=
  t_un (r := fun x H Q => r [x] H Q) hr h
theorem x_b1 {x : Str} {id : String} {r : List V → Hp → VK → Prop} {g : D → Option D} {a : Expr} {fa : Env → Option D} {ea : List Nat} (hc : CallR X (.builtin id) r) (hr : VU T k (fun x H Q => r [x] H Q) g) (hg : Gl X x) (hm : X.mg x = none) (hb : bootBuiltins x = some (.builtin id))
    (ha : PE X a (tX T .pk fa ea)) (hs : starEach [a] X.env = [(false, eval a X.env)]) (h1 : x ≠ "__name__") (h2 : (x == ("__debug__" : Str)) = false) : PE X (.Call (.Name x p) [a] [] pos) (tX T k (fun ρ => (fa ρ).bind fun x => g x) ea) :=
  PEm (pe_callB hc hg hm hb (pa_cons ha pa_nil hs) h1 h2 hs rfl) fun _ _ _ => t_b1 hr
theorem x_ty1 {x : Str} {id : String} {r : List V → Hp → VK → Prop} {g : D → Option D} {a : Expr} {fa : Env → Option D} {ea : List Nat} (hc : CallR X (.type id) r) (hr : VU T k (fun x H Q => r [x] H Q) g) (hg : Gl X x) (hm : X.mg x = none) (hb : bootBuiltins x = some (.type id))
    (ha : PE X a (tX T .pk fa ea)) (hs : starEach [a] X.env = [(false, eval a X.env)]) (h1 : x ≠ "__name__") (h2 : (x == ("__debug__" : Str)) = false) : PE X (.Call (.Name x p) [a] [] pos) (tX T k (fun ρ => (fa ρ).bind fun x => g x) ea) :=
  PEm (pe_callTy hc hg hm hb (pa_cons ha pa_nil hs) h1 h2 hs rfl) fun _ _ _ => t_b1 hr
end
abbrev rLenA (K : PySem.W.Frag) : List V → Hp → VK → Prop := fun xs H Q => (∃ x n, xs = [x] ∧ LenV K x H n ∧ Q (V.int ↑n) H) ∨ ∃ a kvs, xs = [V.ref a] ∧ H a = some (HO.dK kvs) ∧ Q (V.int ↑kvs.length) H
theorem CallR.or {X : Cx} {f : Value} {r r' : List V → Hp → VK → Prop} (h : CallR X f r) (h' : CallR X f r') : CallR X f (fun xs H Q => r xs H Q ∨ r' xs H Q) := by
  intro pins s σ H xs us Q I rx q
  rcases q with q | q
  · exact h pins s σ H xs us Q I rx q
  · exact h' pins s σ H xs us Q I rx q
theorem call_lenA {X : Cx} : CallR X (.builtin "len") (rLenA X.K) := CallR.or call_len call_lenD
theorem Rpd.length {T : Tb} {H : Hp} : ∀ {l : List (List Nat × D)} {kvs : List (Key × V)}, Rpd T H kvs l → kvs.length = l.length
  | [], _, r => by cases (show _ = [] from r); rfl
  | (j, d) :: ds, _, r => by
    obtain ⟨v, rr, rfl, h1, h2⟩ := r
    simp [Rpd.length h2]
theorem sS_len (s : List Nat) : (sS s).length = s.length := by
  show s.toArray.size = _
  simp
theorem vu_len {T : Tb} : VU T .vl (fun x H Q => rLenA T.K [x] H Q) (fun x => (lenD x).bind fun n => some (.int n)) := by
  intro F0 H0 Hf H σ ρ x dx d Q s rx e q
  obtain ⟨n, e1, e2⟩ := ob e
  cases e2
  clear e
  have fin : ∀ m : Nat, n = (m : Int) → Q (.int (m : Int)) H := fun m em => q Hf H _ (Gr.refl s.e1) (by subst em; rfl)
  cases dx <;> simp only [lenD, reduceCtorEq] at e1
  · split at e1
    · rename_i l hl
      cases e1
      cases rx.str
      refine .inl ⟨_, _, rfl, ⟨?_, rfl⟩, fin _ ?_⟩
      · rw [sS_len]; exact lim_ok hl
      · rw [sS_len]
    · cases e1
  · cases e1
    obtain ⟨a, xs, rfl, h1, h2⟩ := rx.tup
    exact .inl ⟨_, _, rfl, .inr ⟨xs, ex_t s.e1 h1, rfl⟩, fin _ (by rw [h2.length])⟩
  · cases e1
    obtain ⟨a, xs, rfl, h1, h2⟩ := rx.lst s.e1
    exact .inl ⟨_, _, rfl, .inl ⟨xs, sq_of h1, rfl⟩, fin _ (by rw [h2.length])⟩
  · cases e1
    obtain ⟨a, xs, rfl, h1, h2⟩ := rx.dic s.e1
    exact .inr ⟨_, _, rfl, h1, fin _ (by rw [h2.length])⟩
  · split at e1
    · cases e1
      obtain ⟨a, rfl, h1⟩ := rx.scr
      exact .inl ⟨_, _, rfl, .inl ⟨_, ex_l s.e1 h1, rfl⟩, fin _ (by rw [List.length_map])⟩
    · cases e1
theorem allM_map {α : Type} {f : D → Option α} {g : α → D} (h : ∀ d x, f d = some x → d = g x) : ∀ {l : List D} {m : List α}, allM f l = some m → l = m.map g
  | [], m, e => by cases e; rfl
  | d :: r, m, e => by
    obtain ⟨x, e1, e2⟩ := ob e
    obtain ⟨t, e3, e4⟩ := ob e2
    cases e4
    rw [h d x e1, allM_map h e3]; rfl
theorem tru_map : ∀ d x, truD d = some x → d = .bl x := fun d x e => by cases d <;> simp only [truD, reduceCtorEq] at e <;> cases e; rfl
theorem int_map : ∀ d x, intD d = some x → d = .int x := fun d x e => by cases d <;> simp only [intD, reduceCtorEq] at e <;> cases e; rfl
theorem str_map : ∀ d x, strD d = some x → d = .str x := fun d x e => by cases d <;> simp only [strD, reduceCtorEq] at e <;> cases e; rfl
theorem lst_map : ∀ d x, lstD d = some x → d = .lst x := fun d x e => by cases d <;> simp only [lstD, reduceCtorEq] at e <;> cases e; rfl
theorem tup_map : ∀ d x, tupD d = some x → d = .tup x := fun d x e => by cases d <;> simp only [tupD, reduceCtorEq] at e <;> cases e; rfl
theorem dic_map : ∀ d x, dicD d = some x → d = .dic x := fun d x e => by cases d <;> simp only [dicD, reduceCtorEq] at e <;> cases e; rfl
theorem vu_all {T : Tb} : VU T .vl (fun x H Q => rAll T.K [x] H Q) (fun x => (lstD x).bind fun l => (allM truD l).bind fun bs => some (.bl (bs.all id))) := by
  intro F0 H0 Hf H σ ρ x dx d Q s rx e q
  obtain ⟨l, e1, e2⟩ := ob e
  obtain ⟨bs, e3, e4⟩ := ob e2
  cases e4
  cases lst_map _ _ e1
  obtain ⟨a, xs, rfl, h1, h2⟩ := rx.lst s.e1
  cases allM_map tru_map e3
  cases h2.of_bls
  exact ⟨a, bs, rfl, sq_of h1, q Hf H _ (Gr.refl s.e1) rfl⟩
theorem vu_any {T : Tb} : VU T .vl (fun x H Q => rAny T.K [x] H Q) (fun x => (lstD x).bind fun l => (allM truD l).bind fun bs => some (.bl (bs.any id))) := by
  intro F0 H0 Hf H σ ρ x dx d Q s rx e q
  obtain ⟨l, e1, e2⟩ := ob e
  obtain ⟨bs, e3, e4⟩ := ob e2
  cases e4
  cases lst_map _ _ e1
  obtain ⟨a, xs, rfl, h1, h2⟩ := rx.lst s.e1
  cases allM_map tru_map e3
  cases h2.of_bls
  exact ⟨a, bs, rfl, sq_of h1, q Hf H _ (Gr.refl s.e1) rfl⟩
theorem vu_sum {T : Tb} : VU T .vl (fun x H Q => rSum T.K [x] H Q) (fun x => (lstD x).bind fun l => (allM intD l).bind fun ns => some (.int ns.sum)) := by
  intro F0 H0 Hf H σ ρ x dx d Q s rx e q
  obtain ⟨l, e1, e2⟩ := ob e
  obtain ⟨bs, e3, e4⟩ := ob e2
  cases e4
  cases lst_map _ _ e1
  obtain ⟨a, xs, rfl, h1, h2⟩ := rx.lst s.e1
  cases allM_map int_map e3
  cases h2.of_ints
  exact ⟨a, bs, rfl, sq_of h1, q Hf H _ (Gr.refl s.e1) rfl⟩
theorem vu_toL {T : Tb} : VU T .fr (fun x H Q => ∃ p ys, [x] = [V.ref p] ∧ (SqL T.K H p ys ∨ SqT T.K H p ys) ∧ ∀ l, H l = none → Q (.ref l) (upd H l (.lst ys))) (fun x => (seqOf x).bind mkL) := by
  intro F0 H0 Hf H σ ρ x dx d Q s rx e q
  obtain ⟨l, e1, e2⟩ := ob e
  unfold mkL at e2
  split at e2
  · rename_i hl
    cases e2
    obtain ⟨p, xs, rfl, h1, h2⟩ := rx.items s.e1 e1
    exact ⟨p, xs, rfl, h1, fun a ha => q Hf (upd H a (.lst xs)) (.ref a) (Gr.new s.e1 ha) ⟨a, rfl, ha, fresh_back s.e1 ha, xs, upd_same, h2⟩⟩
  · cases e2
theorem vu_toT {T : Tb} : VU T .vl (fun x H Q => ∃ p ys, [x] = [V.ref p] ∧ ((SqL T.K H p ys ∧ ∀ l, H l = none → Q (.ref l) (upd H l (.tup ys))) ∨ (SqT T.K H p ys ∧ Q (.ref p) H))) (fun x => (seqOf x).bind mkT) := by
  intro F0 H0 Hf H σ ρ x dx d Q s rx e q
  obtain ⟨l, e1, e2⟩ := ob e
  unfold mkT at e2
  split at e2
  · rename_i hl
    cases e2
    cases dx <;> simp only [seqOf, reduceCtorEq] at e1 <;> cases e1
    · obtain ⟨a, xs, rfl, h1, h2⟩ := rx.tup
      exact ⟨a, xs, rfl, .inr ⟨ex_t s.e1 h1, q Hf H _ (Gr.refl s.e1) ⟨a, xs, rfl, h1, h2⟩⟩⟩
    · obtain ⟨a, xs, rfl, h1, h2⟩ := rx.lst s.e1
      refine ⟨a, xs, rfl, .inl ⟨sq_of h1, fun p hp => ?_⟩⟩
      have hf : Hf p = none := fresh_back s.e1 hp
      exact q (upd Hf p (.tup xs)) (upd H p (.tup xs)) (.ref p) (Gr.newF s.e1 hp) ⟨p, xs, rfl, st_of upd_same, h2.mono (Ex.new hf)⟩
  · cases e2

/-! ### isinstance -/
def Ty.nm : Ty → String
  | .int => "int" | .bool => "bool" | .str => "str" | .tuple => "tuple" | .dict => "dict" | .list => "list"
def tyN : D → Option String
  | .non => some "NoneType"
  | .bl _ => some "bool"
  | .int _ => some "int"
  | .str _ => some "str"
  | .tup _ => some "tuple"
  | .lst _ => some "list"
  | .dic _ => some "dict"
  | _ => none
theorem ty_kit {d : D} {t : Ty} {b : Bool} (h : tyD d t = some b) : ∃ n, tyN d = some n ∧ kitB n t.nm = some b := by
  cases d <;> cases t <;> first
    | (simp only [tyD, reduceCtorEq] at h; done)
    | (simp only [tyD] at h; cases h; refine ⟨_, rfl, ?_⟩; decide +kernel)
theorem sqT_ty {K : PySem.W.Frag} {H : Hp} {a : Addr} {xs : List V} (h : SqT K H a xs) : TyX K H (.ref a) (.type "tuple") := by
  rcases h with (h | ⟨o, h⟩) | ⟨o, its, n, h1, h2, _⟩
  · exact .base (.tup h)
  · exact .fTuple h
  · exact .kTuple h1 h2
theorem rp_ty {T : Tb} {H : Hp} {v : V} {d : D} {n : String} (h : tyN d = some n) (r : Rp T H v d) : TyX T.K H v (.type n) := by
  cases d <;> simp only [tyN, reduceCtorEq] at h <;> cases h
  · cases (show _ = _ from r); exact .base .non
  · cases (show _ = _ from r); exact .base (.bl _)
  · cases (show _ = _ from r); exact .base (.int _)
  · cases (show _ = _ from r); exact .base (.str _)
  · obtain ⟨a, xs, rfl, h1, _⟩ := r; exact sqT_ty h1
  · obtain ⟨a, xs, rfl, h1, _⟩ := r; exact .base (.lst h1)
  · obtain ⟨a, xs, rfl, h1, _⟩ := r; exact .base (.dK h1)
theorem x_isi {X : Cx} {T : Tb} {pos p p2 : Pos} {a : Expr} {fa : Env → Option D} {ea : List Nat} {t : Ty} {x : Str} (hK : X.K = T.K) (hx : bootBuiltins x = some (.type t.nm)) (hg : Gl X "isinstance") (hm : X.mg "isinstance" = none) (hg2 : Gl X x) (hm2 : X.mg x = none) (h1 : x ≠ "__name__") (h2 : (x == ("__debug__" : Str)) = false)
    (ha : PE X a (tX T .pk fa ea)) (hs : starEach [a, .Name x p2] X.env = (false, eval a X.env) :: starEach [.Name x p2] X.env) :
    PE X (.Call (.Name "isinstance" p) [a, .Name x p2] [] pos) (tX T .vl (fun ρ => (fa ρ).bind fun x => (tyD x t).bind fun b => some (.bl b)) ea) :=
  PEm (pe_callB call_isi hg hm (by decide +kernel) (pa_cons ha (pa_cons (pe_bltn hg2 hm2 hx (v := .ty t.nm) rfl h1 h2) pa_nil rfl) hs) (by decide) (by decide) hs rfl) fun σ H Q ⟨F0, H0, Hf, ρ, d, s, fz, e, q⟩ => by
    obtain ⟨dx, e1, e2⟩ := ob e
    obtain ⟨b, e3, e4⟩ := ob e2
    cases e4
    refine ⟨F0, H0, Hf, ρ, dx, s, fz, e1, fun Hf1 H1 v g1 r1 => ?_⟩
    obtain ⟨n, h3, h4⟩ := ty_kit e3
    refine ⟨v, .ty t.nm, .type n, .type t.nm, b, rfl, .ty _, ?_, kit_ty h4, q Hf1 H1 _ g1 rfl⟩
    rw [hK]
    exact rp_ty h3 (Rr.full (s.gr g1).e1 r1)

/-! ### None -/
theorem rr_non {T : Tb} {Hf H : Hp} {v : V} {d : D} (r : Rr T Hf H v d) : decide (v = .non) = isNo d := by
  rcases r with r | ⟨a, rfl, r⟩
  · cases d <;> first
      | (cases (show _ = _ from r); rfl)
      | (obtain ⟨a, xs, rfl, _⟩ := r; rfl)
      | (obtain ⟨a, rfl, _⟩ := r; rfl)
      | (obtain ⟨a, k, dx, fs, rfl, _⟩ := r; rfl)
  · cases d <;> first
      | exact r.elim
      | rfl
theorem x_isN {X : Cx} {T : Tb} {pos p2 : Pos} {a : Expr} {fa : Env → Option D} {ea : List Nat} {j} (ha : PE X a (tX T .pk fa ea)) :
    PE X (.Compare a [.Is] [.Constant .none j p2] pos) (tX T .vl (fun ρ => (fa ρ).bind fun x => some (.bl (isNo x))) ea) :=
  PEm (pe_cmp (pc_isN ha) rfl) fun σ H Q ⟨F0, H0, Hf, ρ, d, s, fz, e, q⟩ => by
    obtain ⟨dx, e1, e2⟩ := ob e
    cases e2
    refine ⟨F0, H0, Hf, ρ, dx, s, fz, e1, fun Hf1 H1 v g1 r1 => ?_⟩
    show Q (.bl (decide (v = .non))) H1
    rw [rr_non r1]
    exact q Hf1 H1 _ g1 rfl
theorem x_notN {X : Cx} {T : Tb} {pos p2 : Pos} {a : Expr} {fa : Env → Option D} {ea : List Nat} {j} (ha : PE X a (tX T .pk fa ea)) :
    PE X (.Compare a [.IsNot] [.Constant .none j p2] pos) (tX T .vl (fun ρ => (fa ρ).bind fun x => some (.bl (!isNo x))) ea) :=
  PEm (pe_cmp (pc_notN ha) rfl) fun σ H Q ⟨F0, H0, Hf, ρ, d, s, fz, e, q⟩ => by
    obtain ⟨dx, e1, e2⟩ := ob e
    cases e2
    refine ⟨F0, H0, Hf, ρ, dx, s, fz, e1, fun Hf1 H1 v g1 r1 => ?_⟩
    show Q (.bl (!decide (v = .non))) H1
    rw [rr_non r1]
    exact q Hf1 H1 _ g1 rfl

/-! ### and, or, not, if -/
section
variable {X : Cx} {T : Tb} {pos : Pos} {a b c : Expr} {rest : List Expr} {fa fb fc : Env → Option D} {ea eb ec : List Nat}
def vAnd (fa fb : Env → Option D) : Env → Option D := fun ρ => (fa ρ).bind fun x => (truD x).bind fun k => if k then fb ρ else some (.bl false)
def vOr (fa fb : Env → Option D) : Env → Option D := fun ρ => (fa ρ).bind fun x => (truD x).bind fun k => if k then some (.bl true) else fb ρ
theorem x_and (ha : PE X a (tX T .vl fa ea)) (hb : PE X (.BoolOp .And (b :: rest) pos) (tX T .vl fb eb)) : PE X (.BoolOp .And (a :: b :: rest) pos) (tX T .vl (vAnd fa fb) (ea ++ eb)) :=
  PEm (pe_and ha hb) fun σ H Q ⟨F0, H0, Hf, ρ, d, s, fz, e, q⟩ => by
    obtain ⟨dx, e1, e2⟩ := ob e
    obtain ⟨k, e3, e4⟩ := ob e2
    cases tru_map _ _ e3
    refine ⟨F0, H0, Hf, ρ, _, s, fz.left, e1, fun Hf1 H1 v g1 r1 => ⟨k, r1, ?_⟩⟩
    cases k with
    | true => exact ⟨F0, H0, Hf1, ρ, d, (s.gr g1), fz.right, e4, fun Hf2 H2 v g2 r2 => q Hf2 H2 v (g1.trans g2) r2⟩
    | false => cases e4; exact q Hf1 H1 _ g1 rfl
theorem x_or (ha : PE X a (tX T .vl fa ea)) (hb : PE X (.BoolOp .Or (b :: rest) pos) (tX T .vl fb eb)) : PE X (.BoolOp .Or (a :: b :: rest) pos) (tX T .vl (vOr fa fb) (ea ++ eb)) :=
  PEm (pe_or ha hb) fun σ H Q ⟨F0, H0, Hf, ρ, d, s, fz, e, q⟩ => by
    obtain ⟨dx, e1, e2⟩ := ob e
    obtain ⟨k, e3, e4⟩ := ob e2
    cases tru_map _ _ e3
    refine ⟨F0, H0, Hf, ρ, _, s, fz.left, e1, fun Hf1 H1 v g1 r1 => ⟨k, r1, ?_⟩⟩
    cases k with
    | true => cases e4; exact q Hf1 H1 _ g1 rfl
    | false => exact ⟨F0, H0, Hf1, ρ, d, (s.gr g1), fz.right, e4, fun Hf2 H2 v g2 r2 => q Hf2 H2 v (g1.trans g2) r2⟩
theorem x_not (ha : PE X a (tX T .vl fa ea)) : PE X (.UnaryOp .Not a pos) (tX T .vl (fun ρ => (fa ρ).bind fun x => (truD x).bind fun k => some (.bl (!k))) ea) :=
  PEm (pe_not ha) fun σ H Q ⟨F0, H0, Hf, ρ, d, s, fz, e, q⟩ => by
    obtain ⟨dx, e1, e2⟩ := ob e
    obtain ⟨k, e3, e4⟩ := ob e2
    cases e4
    cases tru_map _ _ e3
    exact ⟨F0, H0, Hf, ρ, _, s, fz, e1, fun Hf1 H1 v g1 r1 => ⟨k, r1, q Hf1 H1 _ g1 rfl⟩⟩
def vIf (fc fa fb : Env → Option D) : Env → Option D := fun ρ => (fc ρ).bind fun x => (truD x).bind fun k => if k then fa ρ else fb ρ
theorem x_ife {k : Kd} (hc : PT X c (tXt T fc ec)) (ha : PE X a (tX T k fa ea)) (hb : PE X b (tX T k fb eb)) : PE X (.IfExp c a b pos) (tX T k (vIf fc fa fb) (ec ++ (ea ++ eb))) :=
  PEm (pe_ifExp hc ha hb) fun σ H Q ⟨F0, H0, Hf, ρ, d, s, fz, e, q⟩ => by
    obtain ⟨dx, e1, e2⟩ := ob e
    obtain ⟨b, e3, e4⟩ := ob e2
    cases tru_map _ _ e3
    refine ⟨F0, H0, Hf, ρ, b, s, fz.left, e1, fun Hf1 H1 g1 => ?_⟩
    cases b with
    | true => exact ⟨F0, H0, Hf1, ρ, d, (s.gr g1), fz.right.left, e4, fun Hf2 H2 v g2 r2 => q Hf2 H2 v (g1.trans g2) (r2.back g1.x)⟩
    | false => exact ⟨F0, H0, Hf1, ρ, d, (s.gr g1), fz.right.right, e4, fun Hf2 H2 v g2 r2 => q Hf2 H2 v (g1.trans g2) (r2.back g1.x)⟩

/-! ### tests -/
theorem t_tst {f : Env → Option D} {es : List Nat} {σ : L2.St} {H : Hp} {Q : Bool → Hp → Prop} (h : tXt T f es σ H Q) : tX T .vl f es σ H fun x H' => ∃ k, x = .bl k ∧ Q k H' := by
  obtain ⟨F0, H0, Hf, ρ, b, s, fz, e, q⟩ := h
  exact ⟨F0, H0, Hf, ρ, _, s, fz, e, fun Hf1 H1 v g1 r1 => ⟨b, r1, q Hf1 H1 g1⟩⟩
theorem y_val {f : Env → Option D} {es : List Nat} (h : PE X a (tX T .vl f es)) (he : ∀ whole, isTrue a X.env whole = (do let v ← whole; standAt a.pos; holding [v] (truthy v))) : PT X a (tXt T f es) :=
  PTm (pt_val h he) fun _ _ _ => t_tst
theorem y_cmp {op : CmpOp} {r : R2} {g : D → D → Option D} (ho : OpR X (compareOp op) r) (hr : VR T .vl r g) (ha : PE X a (tX T .pk fa ea)) (hb : PE X b (tX T .pk fb eb)) (hm : behindInMarks op b = false) :
    PT X (.Compare a [op] [b] pos) (tXt T (fun ρ => (fa ρ).bind fun x => (fb ρ).bind fun y => g x y) (ea ++ eb)) := PTm (pt_cmpR ho ha hb hm) fun _ _ _ h => t_op hr (t_tst h)
theorem y_isN {p2 : Pos} {j} (ha : PE X a (tX T .pk fa ea)) : PT X (.Compare a [.Is] [.Constant .none j p2] pos) (tXt T (fun ρ => (fa ρ).bind fun x => some (.bl (isNo x))) ea) :=
  PTm (pt_cmp (pc_isN ha) rfl) fun σ H Q ⟨F0, H0, Hf, ρ, b, s, fz, e, q⟩ => by
    obtain ⟨dx, e1, e2⟩ := ob e
    cases e2
    refine ⟨F0, H0, Hf, ρ, dx, s, fz, e1, fun Hf1 H1 v g1 r1 => ⟨_, rfl, ?_⟩⟩
    rw [rr_non r1]
    exact q Hf1 H1 g1
theorem y_notN {p2 : Pos} {j} (ha : PE X a (tX T .pk fa ea)) : PT X (.Compare a [.IsNot] [.Constant .none j p2] pos) (tXt T (fun ρ => (fa ρ).bind fun x => some (.bl (!isNo x))) ea) :=
  PTm (pt_cmp (pc_notN ha) rfl) fun σ H Q ⟨F0, H0, Hf, ρ, b, s, fz, e, q⟩ => by
    obtain ⟨dx, e1, e2⟩ := ob e
    cases e2
    refine ⟨F0, H0, Hf, ρ, dx, s, fz, e1, fun Hf1 H1 v g1 r1 => ⟨_, rfl, ?_⟩⟩
    rw [rr_non r1]
    exact q Hf1 H1 g1
theorem w_one {op : BoolOp} (ha : PT X a (tXt T fa ea)) : PW X (.BoolOp op [a] pos) (tXt T fa ea) := by
  cases op with
  | And => exact pw_and1 ha
  | Or => exact pw_or1 ha
theorem w_and (ha : PT X a (tXt T fa ea)) (hb : PW X (.BoolOp .And (b :: rest) pos) (tXt T fb eb)) : PW X (.BoolOp .And (a :: b :: rest) pos) (tXt T (vAnd fa fb) (ea ++ eb)) :=
  PWm (pw_and ha hb) fun σ H Q ⟨F0, H0, Hf, ρ, r, s, fz, e, q⟩ => by
    obtain ⟨dx, e1, e2⟩ := ob e
    obtain ⟨k, e3, e4⟩ := ob e2
    cases tru_map _ _ e3
    refine ⟨F0, H0, Hf, ρ, k, s, fz.left, e1, fun Hf1 H1 g1 => ?_⟩
    cases k with
    | true => exact ⟨F0, H0, Hf1, ρ, r, (s.gr g1), fz.right, e4, fun Hf2 H2 g2 => q Hf2 H2 (g1.trans g2)⟩
    | false => cases e4; exact q Hf1 H1 g1
theorem w_or (ha : PT X a (tXt T fa ea)) (hb : PW X (.BoolOp .Or (b :: rest) pos) (tXt T fb eb)) : PW X (.BoolOp .Or (a :: b :: rest) pos) (tXt T (vOr fa fb) (ea ++ eb)) :=
  PWm (pw_or ha hb) fun σ H Q ⟨F0, H0, Hf, ρ, r, s, fz, e, q⟩ => by
    obtain ⟨dx, e1, e2⟩ := ob e
    obtain ⟨k, e3, e4⟩ := ob e2
    cases tru_map _ _ e3
    refine ⟨F0, H0, Hf, ρ, k, s, fz.left, e1, fun Hf1 H1 g1 => ?_⟩
    cases k with
    | true => cases e4; exact q Hf1 H1 g1
    | false => exact ⟨F0, H0, Hf1, ρ, r, (s.gr g1), fz.right, e4, fun Hf2 H2 g2 => q Hf2 H2 (g1.trans g2)⟩
theorem y_not (ha : PT X a (tXt T fa ea)) : PT X (.UnaryOp .Not a pos) (tXt T (fun ρ => (fa ρ).bind fun x => (truD x).bind fun k => some (.bl (!k))) ea) :=
  PTm (pt_not ha) fun σ H Q ⟨F0, H0, Hf, ρ, r, s, fz, e, q⟩ => by
    obtain ⟨dx, e1, e2⟩ := ob e
    obtain ⟨k, e3, e4⟩ := ob e2
    cases e4
    cases tru_map _ _ e3
    exact ⟨F0, H0, Hf, ρ, k, s, fz, e1, fun Hf1 H1 g1 => q Hf1 H1 g1⟩
end
end PD
end
section
set_option Elab.async false
set_option linter.all false
set_option maxRecDepth 100000
set_option maxHeartbeats 4000000
/-! PDF: chains, slices, calls, fields. -/
namespace PD
open PySem L2 Evl

/-! ### a < b < c -/
section
variable {X : Cx} {T : Tb} {pos : Pos} {a b c : Expr} {fa fb fc : Env → Option D} {ea eb ec : List Nat}
def vChain (g g' : D → D → Option D) (fa fb fc : Env → Option D) : Env → Option D := fun ρ => (fa ρ).bind fun x => (fb ρ).bind fun y => (g x y).bind fun z => (truD z).bind fun k => if k then (fc ρ).bind fun u => (g' y u).bind fun z => (truD z).bind fun k => some (.bl k) else some (.bl false)
theorem t_chain {r r' : R2} {g g' : D → D → Option D} (hr : VR T .vl r g) (hr' : VR T .vl r' g') {σ : L2.St} {H : Hp} {Q : VK} (h : tX T .vl (vChain g g' fa fb fc) (ea ++ (eb ++ ec)) σ H Q) : tChain r r' (tX T .pk fa ea) (tX T .pk fb eb) (tX T .pk fc ec) σ H Q := by
  obtain ⟨F0, H0, Hf, ρ, d, s, fz, e, q⟩ := h
  obtain ⟨dx, e1, e⟩ := ob e
  obtain ⟨dy, e2, e⟩ := ob e
  obtain ⟨z, e3, e⟩ := ob e
  obtain ⟨k, e4, e⟩ := ob e
  cases tru_map _ _ e4
  refine ⟨F0, H0, Hf, ρ, dx, s, fz.left, e1, fun Hf1 H1 v g1 r1 => ?_⟩
  refine ⟨F0, H0, Hf1, ρ, dy, (s.gr g1), fz.right.left, e2, fun Hf2 H2 u g2 r2 => ?_⟩
  refine hr F0 H0 Hf2 H2 σ ρ v u dx dy _ _ (s.gr (g1.trans g2)) (Rr.mono g2.y g2.x r1) r2 e3 fun Hf3 H3 w g3 r3 => ⟨k, r3, ?_⟩
  cases k with
  | false =>
    cases e
    exact q Hf3 H3 _ ((g1.trans g2).trans g3) rfl
  | true =>
    have e : ((fc ρ).bind fun u => (g' dy u).bind fun z => (truD z).bind fun k => some (.bl k)) = some d := e
    obtain ⟨du, e5, e⟩ := ob e
    obtain ⟨z2, e6, e⟩ := ob e
    obtain ⟨k2, e7, e⟩ := ob e
    cases tru_map _ _ e7
    cases e
    refine ⟨F0, H0, Hf3, ρ, du, (s.gr ((g1.trans g2).trans g3)), fz.right.right, e5, fun Hf4 H4 t g4 r4 => ?_⟩
    exact hr' F0 H0 Hf4 H4 σ ρ u t dy du _ Q (s.gr (((g1.trans g2).trans g3).trans g4)) (Rr.mono (g3.trans g4).y (g3.trans g4).x r2) r4 e6 fun Hf5 H5 w5 g5 r5 => q Hf5 H5 w5 ((((g1.trans g2).trans g3).trans g4).trans g5) r5
theorem x_chain {op op' : CmpOp} {r r' : R2} {g g' : D → D → Option D} (ho : OpR X (compareOp op) r) (ho' : OpR X (compareOp op') r') (hr : VR T .vl r g) (hr' : VR T .vl r' g') (ha : PE X a (tX T .pk fa ea)) (hb : PE X b (tX T .pk fb eb)) (hc : PE X c (tX T .pk fc ec))
    (hm : lastMarks [op, op'] [b, c] = false) : PE X (.Compare a [op, op'] [b, c] pos) (tX T .vl (vChain g g' fa fb fc) (ea ++ (eb ++ ec))) := PEm (pe_chain ho ho' ha hb hc hm) fun _ _ _ => t_chain hr hr'
theorem y_chain {op op' : CmpOp} {r r' : R2} {g g' : D → D → Option D} (ho : OpR X (compareOp op) r) (ho' : OpR X (compareOp op') r') (hr : VR T .vl r g) (hr' : VR T .vl r' g') (ha : PE X a (tX T .pk fa ea)) (hb : PE X b (tX T .pk fb eb)) (hc : PE X c (tX T .pk fc ec))
    (hm : lastMarks [op, op'] [b, c] = false) : PT X (.Compare a [op, op'] [b, c] pos) (tXt T (vChain g g' fa fb fc) (ea ++ (eb ++ ec))) := PTm (pt_chain ho ho' ha hb hc hm) fun _ _ _ h => t_chain hr hr' (t_tst h)
end

/-! ### slices -/
def tXo (T : Tb) (f : Env → Option (Option Int)) (es : List Nat) : TO := fun σ H Q => ∃ F0 H0 Hf ρ o, Sim T F0 H0 Hf H σ ρ ∧ Fz es ρ ∧ f ρ = some o ∧ ∀ Hf' H', Gr Hf H Hf' H' → Q o H'
theorem POm {X : Cx} {e : Option Expr} {t t' : TO} (h : PO X e t) (m : ∀ σ H Q, t' σ H Q → t σ H Q) : PO X e t' := ⟨fun pins s σ H Q I q => h.run pins s σ H Q I (m σ H Q q)⟩
section
variable {X : Cx} {T : Tb} {pos p2 : Pos} {a : Expr} {fa : Env → Option D} {ea el eh : List Nat} {lo hi : Option Expr} {fl fh : Env → Option (Option Int)}
theorem o_none : PO X none (tXo T (fun _ => some none) []) := POm po_none fun σ H Q ⟨F0, H0, Hf, ρ, d, s, fz, e, q⟩ => by
  cases e
  exact q Hf H (Gr.refl s.e1)
theorem o_some (ha : PE X a (tX T .vl fa ea)) : PO X (some a) (tXo T (fun ρ => (fa ρ).bind fun x => (intD x).bind fun i => some (some i)) ea) := POm (po_some ha) fun σ H Q ⟨F0, H0, Hf, ρ, d, s, fz, e, q⟩ => by
  obtain ⟨dx, e1, e2⟩ := ob e
  obtain ⟨i, e3, e4⟩ := ob e2
  cases e4
  cases int_map _ _ e3
  exact ⟨F0, H0, Hf, ρ, _, s, fz, e1, fun Hf1 H1 v g1 r1 => ⟨i, r1, q Hf1 H1 g1⟩⟩
/-- a slice on values -/
def VS (T : Tb) (k : Kd) (r : V → Option Int → Option Int → Hp → VK → Prop) (g : D → Option Int → Option Int → Option D) : Prop := ∀ F0 H0 Hf H σ ρ x dx lo hi d (Q : VK), Sim T F0 H0 Hf H σ ρ → Rr T Hf H x dx → g dx lo hi = some d →
  (∀ Hf' H' v, Gr Hf H Hf' H' → Res T k H Hf' H' v d → Q v H') → r x lo hi H Q
def vSlc (g : D → Option Int → Option Int → Option D) (fa : Env → Option D) (fl fh : Env → Option (Option Int)) : Env → Option D := fun ρ => (fa ρ).bind fun x => (fl ρ).bind fun l => (fh ρ).bind fun h => g x l h
theorem x_slc {k : Kd} {r : V → Option Int → Option Int → Hp → VK → Prop} {g : D → Option Int → Option Int → Option D} (hr : SlR X r) (hv : VS T k r g) (ha : PE X a (tX T .pk fa ea)) (hl : PO X lo (tXo T fl el)) (hh : PO X hi (tXo T fh eh)) :
    PE X (.Subscript a (.Slice lo hi none p2) pos) (tX T k (vSlc g fa fl fh) (ea ++ (el ++ eh))) :=
  PEm (pe_slice hr ha hl hh) fun σ H Q ⟨F0, H0, Hf, ρ, d, s, fz, e, q⟩ => by
    obtain ⟨dx, e1, e⟩ := ob e
    obtain ⟨l, e2, e⟩ := ob e
    obtain ⟨h, e3, e⟩ := ob e
    refine ⟨F0, H0, Hf, ρ, dx, s, fz.left, e1, fun Hf1 H1 v g1 r1 => ?_⟩
    refine ⟨F0, H0, Hf1, ρ, l, (s.gr g1), fz.right.left, e2, fun Hf2 H2 g2 => ?_⟩
    refine ⟨F0, H0, Hf2, ρ, h, (s.gr (g1.trans g2)), fz.right.right, e3, fun Hf3 H3 g3 => ?_⟩
    exact hv F0 H0 Hf3 H3 σ ρ v dx l h d Q (s.gr ((g1.trans g2).trans g3)) (Rr.mono (g2.trans g3).y (g2.trans g3).x r1) e fun Hf4 H4 u g4 r4 => q Hf4 H4 u (((g1.trans g2).trans g3).trans g4) (r4.back ((g1.trans g2).trans g3).x)
end
theorem cut_rps {T : Tb} {H : Hp} {xs : List V} {ds : List D} (r : Rps T H xs ds) (lo hi : Option Int) : Rps T H (cutV xs lo hi) (cutD ds lo hi) := by
  unfold cutV cutD
  rw [r.length]
  exact (r.drop _).take _
theorem vs_tup {T : Tb} : VS T .vl (rSlA T.K) (fun x l h => (tupD x).bind fun xs => mkT (cutD xs l h)) := by
  intro F0 H0 Hf H σ ρ x dx lo hi d Q s rx e q
  obtain ⟨l, e1, e2⟩ := ob e
  cases tup_map _ _ e1
  unfold mkT at e2
  split at e2
  · cases e2
    obtain ⟨a, xs, rfl, h1, h2⟩ := rx.tup
    have h3 := cut_rps h2 lo hi
    refine ⟨a, xs, rfl, ex_t s.e1 h1, fun z => ?_, fun z p hp => ?_⟩
    · refine q Hf H _ (Gr.refl s.e1) ⟨a, xs, rfl, h1, ?_⟩
      have e : cutV xs lo hi = xs := by
        unfold cutV
        rw [z.1, z.2]
        simp
      rw [e] at h3
      exact h3
    · have hf : Hf p = none := fresh_back s.e1 hp
      exact q (upd Hf p (.tup (cutV xs lo hi))) (upd H p (.tup (cutV xs lo hi))) (.ref p) (Gr.newF s.e1 hp) ⟨p, _, rfl, st_of upd_same, h3.mono (Ex.new hf)⟩
  · cases e2
theorem vs_lst {T : Tb} : VS T .fr (rSlL T.K) (fun x l h => match x with | .scr ns => mkL (cutD (ns.map D.int) l h) | .lst xs => mkL (cutD xs l h) | _ => none) := by
  intro F0 H0 Hf H σ ρ x dx lo hi d Q s rx e q
  have go : ∀ (a : Addr) (xs : List V) (ds : List D), x = .ref a → SqL T.K H a xs → Rps T Hf xs ds → mkL (cutD ds lo hi) = some d → rSlL T.K x lo hi H Q := by
    intro a xs ds hx h1 h2 e2
    unfold mkL at e2
    split at e2
    · cases e2
      refine ⟨a, xs, hx, h1, fun p hp => ?_⟩
      exact q Hf (upd H p (.lst (cutV xs lo hi))) (.ref p) (Gr.new s.e1 hp) ⟨p, rfl, hp, fresh_back s.e1 hp, _, upd_same, cut_rps h2 lo hi⟩
    · cases e2
  cases dx with
  | scr ns =>
    obtain ⟨a, hx, h1⟩ := rx.scr
    exact go a _ _ hx (ex_l s.e1 h1) (Rps.ints ns) e
  | lst xs =>
    obtain ⟨a, xs, hx, h1, h2⟩ := rx.lst s.e1
    exact go a _ _ hx (sq_of h1) h2 e
  | _ => cases e

/-! ### calls -/
/-- what a def promises: on data that is borne by a part of the heap it returns the data that M tells -/
def spF (T : Tb) (M : List D → Option D) (fz : Bool) : Sp := fun vs H Q _ => ∃ Hf ds r, Ex Hf H ∧ Rps T Hf vs ds ∧ M ds = some r ∧
  ∀ Hf' H' v, Ex Hf Hf' → Ex H H' → Ex Hf' H' → (∀ b o, H b = some o → Hf b = none → Hf' b = none) → Res T (if fz then .fr else .vl) H Hf' H' v r → Q v H'
section
variable {X : Cx} {T : Tb} {pos p : Pos} {M : List D → Option D} {fz : Bool} {dvs : List V} {more : List D} {g : Env → Option (List D)} {b : List Nat} {E : XK}
theorem t_call (hd : ∀ H, Rps T H dvs more) {σ : L2.St} {H : Hp} {Q : VK} (h : tX T (if fz then .fr else .vl) (fun ρ => (g ρ).bind fun ds => M (ds ++ more)) b σ H Q) : tCall (spF T M fz) dvs E (tXs T g b) σ H Q := by
  obtain ⟨F0, H0, Hf, ρ, d, s, fzz, e, q⟩ := h
  obtain ⟨ds, e1, e2⟩ := ob e
  refine ⟨F0, H0, Hf, ρ, ds, s, fzz, e1, fun Hf1 H1 vs g1 r1 => ?_⟩
  refine ⟨Hf1, ds ++ more, d, (s.gr g1).e1, r1.append (hd _), e2, fun Hf2 H2 v x2 y2 z2 sp r2 => ?_⟩
  exact q Hf2 H2 v (g1.trans ⟨x2, y2, z2, sp⟩) (r2.back g1.x)
theorem x_call {lv : Nat} {f : Addr} {fd : FuncData} {ps : List Str} {ds : List Value} {x : Str} {e : Expr} {es : List Expr} (F : FnOk X.prog X.w X.K X.mg X.base L2.CX0 lv f fd ps (spF T M fz)) (hr : Room lv X.A) (hg : Gl X x) (hm : X.mg x = some (.ref f)) (hk : PySem.W.keepIn X.K (.ref f) = true) (hb : Binds X.K fd ps ds) (hv : Vals dvs ds)
    (hd : ∀ H, Rps T H dvs more) (ha : PA X (e :: es) (tXs T g b)) (h2 : (x == ("__debug__" : Str)) = false) (hs : starEach (e :: es) X.env = (false, eval e X.env) :: starEach es X.env) (hs2 : ((backTo pos (starEach es X.env)).any fun x => x.fst) = false) :
    PE X (.Call (.Name x p) (e :: es) [] pos) (tX T (if fz then .fr else .vl) (fun ρ => (g ρ).bind fun ds => M (ds ++ more)) b) :=
  PEm (pe_call F hr hg hm hk hb hv (E := L2.E0) pass0 ha h2 hs hs2) fun _ _ _ => t_call hd
theorem x_call0 {lv : Nat} {f : Addr} {fd : FuncData} {ps : List Str} {ds : List Value} {x : Str} (F : FnOk X.prog X.w X.K X.mg X.base L2.CX0 lv f fd ps (spF T M fz)) (hr : Room lv X.A) (hg : Gl X x) (hm : X.mg x = some (.ref f)) (hk : PySem.W.keepIn X.K (.ref f) = true) (hb : Binds X.K fd ps ds) (hv : Vals dvs ds)
    (hd : ∀ H, Rps T H dvs more) (h2 : (x == ("__debug__" : Str)) = false) :
    PE X (.Call (.Name x p) [] [] pos) (tX T (if fz then .fr else .vl) (fun ρ => ((fun _ => some []) ρ : Option (List D)).bind fun ds => M (ds ++ more)) []) :=
  PEm (pe_call0 F hr hg hm hk hb hv (E := L2.E0) pass0 h2) fun σ H Q h => by
    have := t_call (g := fun _ => some []) (b := []) (E := L2.E0) hd h
    obtain ⟨F0, H0, Hf, ρ, ds, s, fzz, e1, q⟩ := this
    cases e1
    exact q Hf H [] (Gr.refl s.e1) rfl
end
/-! ### fields -/
theorem fld_rp {T : Tb} {H : Hp} (f : List Nat) : ∀ {gs : List (List Nat)} {ls : List D} {fs : List (Str × V)} {d : D}, fs.map (·.1) = gs.map sS → Rps T H (fs.map (·.2)) ls → fldD gs ls f = some d → ∃ v, fs.lookup (sS f) = some v ∧ Rp T H v d
  | [], _, _, _, _, _, e => by simp [fldD] at e
  | g :: gs, [], _, _, _, _, e => by simp [fldD] at e
  | g :: gs, l :: ls, [], _, h, _, _ => by simp at h
  | g :: gs, l :: ls, (n, v) :: fs, d, h, r, e => by
    simp only [List.map_cons, List.cons.injEq] at h
    obtain ⟨u, rr, h1, h2, h3⟩ := r
    simp only [List.map_cons, List.cons.injEq] at h1
    obtain ⟨rfl, rfl⟩ := h1
    unfold fldD at e
    split at e
    · rename_i hg
      cases e
      have hg : g = f := by simpa using hg
      subst hg
      rw [h.1]
      exact ⟨v, by simp, h2⟩
    · rename_i hg
      have hg : ¬ g = f := by simpa using hg
      obtain ⟨w, h4, h5⟩ := fld_rp f h.2 h3 e
      refine ⟨w, ?_, h5⟩
      rw [List.lookup_cons]
      have : (sS f == n) = false := by
        rw [h.1, sS_beq]
        simpa using fun z => hg z.symm
      rw [this]
      exact h4
theorem x_fld {X : Cx} {T : Tb} {pos : Pos} {a : Expr} {fa : Env → Option D} {ea : List Nat} {G : Sg} {f : List Nat} (hK : X.K = T.K) (hcl : ∀ c k, T.cl c = some k → Cls T.K k.C ∧ k.fs = (G.fl c).map sS ∧ ∀ f ∈ k.fs, NoAttr T.K k.C f) (ha : PE X a (tX T .pk fa ea)) (hb : attributeBase a (sS f) X.env (eval a X.env) = eval a X.env) :
    PE X (.Attribute a (sS f) pos) (tX T .vl (fun ρ => (fa ρ).bind fun x => match x with | .ins c l => fldD (G.fl c) l f | _ => none) ea) :=
  PEm (pe_fld ha hb) fun σ H Q ⟨F0, H0, Hf, ρ, d, s, fz, e, q⟩ => by
    obtain ⟨dx, e1, e2⟩ := ob e
    refine ⟨F0, H0, Hf, ρ, dx, s, fz, e1, fun Hf1 H1 v g1 r1 => ?_⟩
    cases dx with
    | ins c l =>
      have e2 : fldD (G.fl c) l f = some d := e2
      obtain ⟨p, k, dx, fs, rfl, h1, h2, h3, h4⟩ := Rr.ins r1
      obtain ⟨c1, c2, c3⟩ := hcl c k h1
      obtain ⟨v, h5, h6⟩ := fld_rp f (h3.trans c2) h4 e2
      refine ⟨p, k.C, dx, fs, v, rfl, (s.gr g1).e1 _ _ h2, ?_, ?_, h5, q Hf1 H1 v g1 h6⟩
      · rw [hK]; exact c1
      · rw [hK]
        refine c3 _ ?_
        rw [← h3]
        have hm : ∀ {fs : List (Str × V)}, fs.lookup (sS f) = some v → sS f ∈ fs.map (·.1) := by
          intro fs
          induction fs with
          | nil => intro h; simp at h
          | cons y ys ih =>
            intro h
            obtain ⟨n, w⟩ := y
            rw [List.lookup_cons] at h
            cases hb : sS f == n with
            | true => simp only [beq_iff_eq] at hb; simp [hb]
            | false => rw [hb] at h; exact List.mem_cons_of_mem _ (ih h)
        exact hm h5
    | _ => cases e2
end PD
end
section
set_option Elab.async false
set_option linter.all false
set_option maxRecDepth 100000
set_option maxHeartbeats 4000000
/-! PDG: targets, what is walked, list comprehensions. -/
namespace PD
open PySem L2 Evl

theorem Gr.mut {Hf H Hf1 H1 : Hp} {D : Addr} {o : HO} (g : Gr Hf H Hf1 H1) (h0 : H D = none) (h1 : Hf1 D = none) : Gr Hf H Hf1 (upd H1 D o) :=
  ⟨g.y, Ex.mut g.x h0, fun b u h => by rw [upd_ne (ne_of_none h h1)]; exact g.z b u h, g.p⟩

/-! ### wiping, binding -/
theorem wipe_get (σ : L2.St) (j : Nat) : ∀ vs : List Nat, (wipe σ vs)[j]? = if j ∈ vs then (if j < σ.length then some none else none) else σ[j]?
  | [] => by simp [wipe]
  | v :: vs => by
    unfold wipe
    by_cases h : v = j
    · subst h
      rw [if_pos (by simp)]
      by_cases hv : v < σ.length
      · rw [List.getElem?_set_self (by rw [wipe_length]; exact hv), if_pos hv]
      · rw [if_neg hv]
        exact List.getElem?_eq_none (by rw [List.length_set, wipe_length]; omega)
    · rw [List.getElem?_set_ne h, wipe_get σ j vs]
      have : (j ∈ v :: vs) = (j ∈ vs) := by simp [show ¬ j = v from fun z => h z.symm]
      simp only [this]
theorem wipeE_len (ρ : Env) : ∀ vs : List Nat, (wipeE ρ vs).length = ρ.length
  | [] => rfl
  | v :: vs => by unfold wipeE; rw [List.length_set, wipeE_len ρ vs]
theorem wipeE_get (ρ : Env) (j : Nat) : ∀ vs : List Nat, (wipeE ρ vs)[j]? = if j ∈ vs then (if j < ρ.length then some none else none) else ρ[j]?
  | [] => by simp [wipeE]
  | v :: vs => by
    unfold wipeE
    by_cases h : v = j
    · subst h
      rw [if_pos (by simp)]
      by_cases hv : v < ρ.length
      · rw [List.getElem?_set_self (by rw [wipeE_len]; exact hv), if_pos hv]
      · rw [if_neg hv]
        exact List.getElem?_eq_none (by rw [List.length_set, wipeE_len]; omega)
    · rw [List.getElem?_set_ne h, wipeE_get ρ j vs]
      have : (j ∈ v :: vs) = (j ∈ vs) := by simp [show ¬ j = v from fun z => h z.symm]
      simp only [this]
theorem wipeE_some {ρ : Env} {vs : List Nat} {j : Nat} {x : Bool × D} (h : (wipeE ρ vs)[j]? = some (some x)) : ρ[j]? = some (some x) ∧ j ∉ vs := by
  rw [wipeE_get] at h
  split at h
  · split at h <;> cases h
  · exact ⟨h, by assumption⟩
theorem Sim.wipe {T : Tb} {F0 H0 Hf H : Hp} {σ : L2.St} {ρ : Env} (s : Sim T F0 H0 Hf H σ ρ) (vs : List Nat) : Sim T F0 H0 Hf H (L2.wipe σ vs) (wipeE ρ vs) := by
  have get : ∀ j x, j ∉ vs → σ[j]? = some x → (L2.wipe σ vs)[j]? = some x := fun j x h e => by rw [wipe_get, if_neg h]; exact e
  refine ⟨s.e1, s.ef, s.e0, s.sep, by rw [wipe_length, wipeE_len]; exact s.len, fun i d h => ?_, fun i d h => ?_, fun i j d d' a hij h1 h2 g1 g2 => ?_⟩
  · obtain ⟨h, hn⟩ := wipeE_some h
    obtain ⟨v, h1, h2⟩ := s.fr i d h
    exact ⟨v, get i _ hn h1, h2⟩
  · obtain ⟨h, hn⟩ := wipeE_some h
    obtain ⟨v, h1, h2⟩ := s.ow i d h
    exact ⟨v, get i _ hn h1, h2⟩
  · obtain ⟨h1, n1⟩ := wipeE_some h1
    obtain ⟨h2, n2⟩ := wipeE_some h2
    rw [wipe_get, if_neg n1] at g1
    rw [wipe_get, if_neg n2] at g2
    exact s.dj i j d d' a hij h1 h2 g1 g2
theorem Fz.wipe {es : List Nat} {ρ : Env} (h : Fz es ρ) (vs : List Nat) : Fz es (wipeE ρ vs) := fun i hi d e => h i hi d (wipeE_some e).1
/-- the places that a block does not bind itself -/
def out (vs l : List Nat) : List Nat := l.filter fun i => !vs.contains i
theorem Fz.out {vs es : List Nat} {ρ : Env} (h : Fz (PD.out vs es) ρ) : Fz es (wipeE ρ vs) := fun i hi d e => by
  obtain ⟨h1, h2⟩ := wipeE_some e
  refine h i ?_ d h1
  unfold PD.out
  rw [List.mem_filter]
  exact ⟨hi, by simpa using h2⟩
theorem Fz.bindL {es : List Nat} : ∀ {is : List Nat} {ds : List D} {ρ ρ' : Env}, Fz es ρ → PD.bindL is ds ρ = some ρ' → Fz es ρ'
  | [], [], ρ, ρ', h, e => by cases e; exact h
  | [], _ :: _, ρ, ρ', h, e => by simp [PD.bindL] at e
  | _ :: _, [], ρ, ρ', h, e => by simp [PD.bindL] at e
  | i :: is, d :: ds, ρ, ρ', h, e => by
    unfold PD.bindL at e
    split at e
    · rename_i hi
      refine Fz.bindL (fun j hj d' z => ?_) e
      by_cases ij : i = j
      · subst ij; rw [List.getElem?_set_self hi] at z; cases z
      · rw [List.getElem?_set_ne ij] at z; exact h j hj d' z
    · cases e
theorem Fz.bindT {es : List Nat} {tg : Tg} {d : D} {ρ ρ' : Env} (h : Fz es ρ) (e : PD.bindT tg d ρ = some ρ') : Fz es ρ' := by
  cases tg with
  | nm i =>
    replace e : (if i < ρ.length then some (ρ.set i (some (false, d))) else none) = some ρ' := e
    split at e
    · rename_i hi
      cases e
      intro j hj d' z
      by_cases ij : i = j
      · subst ij; rw [List.getElem?_set_self hi] at z; cases z
      · rw [List.getElem?_set_ne ij] at z; exact h j hj d' z
    · cases e
  | tp is =>
    cases d with
    | tup l => exact h.bindL e
    | _ => cases e

/-! ### targets -/
def Keep (is : List Nat) (σ σ' : L2.St) : Prop := σ'.length = σ.length ∧ ∀ j, j ∉ is → σ'[j]? = σ[j]?
theorem Keep.refl (is : List Nat) (σ : L2.St) : Keep is σ σ := ⟨rfl, fun _ _ => rfl⟩
theorem Keep.wipe {is vs : List Nat} {σ σ' : L2.St} (k : Keep is σ σ') (h : ∀ i ∈ is, i ∈ vs) : L2.wipe σ' vs = L2.wipe σ vs := by
  apply List.ext_getElem?
  intro j
  rw [wipe_get, wipe_get, k.1]
  by_cases hj : j ∈ vs
  · rw [if_pos hj, if_pos hj]
  · rw [if_neg hj, if_neg hj]
    exact k.2 j fun z => hj (h j z)
theorem wipe_wipe (σ : L2.St) (vs : List Nat) : L2.wipe (L2.wipe σ vs) vs = L2.wipe σ vs := by
  apply List.ext_getElem?
  intro j
  rw [wipe_get, wipe_get, wipe_length]
  by_cases hj : j ∈ vs
  · rw [if_pos hj, if_pos hj]
  · rw [if_neg hj, if_neg hj]
def tG (T : Tb) (tg : Tg) : TG := fun v σ H Q => ∃ F0 H0 Hf ρ d ρ', Sim T F0 H0 Hf H σ ρ ∧ Rp T Hf v d ∧ bindT tg d ρ = some ρ' ∧ ∀ σ', Sim T F0 H0 Hf H σ' ρ' → Keep tg.own σ σ' → Q σ' H
theorem PGm {X : Cx} {e : Expr} {t t' : TG} (h : PG X e t) (m : ∀ v σ H Q, t' v σ H Q → t v σ H Q) : PG X e t' := ⟨fun pins s σ H v u Q I r q => h.run pins s σ H v u Q I r (m v σ H Q q)⟩
theorem g_nm {X : Cx} {T : Tb} {i : Nat} {x : Str} {pos : Pos} (hN : X.N.Nodup) (hi : X.N[i]? = some x) (hx : Loc X.env.scope x) (hf : X.fn x = true ∨ X.env.scope.names.lookup x = some .local) : PG X (.Name x pos) (tG T (.nm i)) :=
  PGm (pg_name hN hi hx hf) fun v σ H Q ⟨F0, H0, Hf, ρ, d, ρ', s, r, e, q⟩ => by
    replace e : (if i < ρ.length then some (ρ.set i (some (false, d))) else none) = some ρ' := e
    split at e
    · rename_i hl
      cases e
      refine q _ (s.set (by rw [s.len]; exact hl) r) ⟨by simp, fun j hj => ?_⟩
      exact List.getElem?_set_ne (fun z => hj (by simp [Tg.own, z]))
    · cases e
def tGs (T : Tb) (is : List Nat) : TGs := fun vs σ H Q => ∃ F0 H0 Hf ρ ds ρ', Sim T F0 H0 Hf H σ ρ ∧ Rps T Hf vs ds ∧ bindL is ds ρ = some ρ' ∧ ∀ σ', Sim T F0 H0 Hf H σ' ρ' → Keep is σ σ' → Q σ' H
theorem PGsm {X : Cx} {e : List Expr} {t t' : TGs} (h : PGs X e t) (m : ∀ v σ H Q, t' v σ H Q → t v σ H Q) : PGs X e t' := ⟨fun pins s σ H v u Q I r q => h.run pins s σ H v u Q I r (m v σ H Q q)⟩
theorem gs_nil {X : Cx} {T : Tb} : PGs X [] (tGs T []) := PGsm pgs_nil fun vs σ H Q ⟨F0, H0, Hf, ρ, ds, ρ', s, r, e, q⟩ => by
  cases ds with
  | nil => cases e; exact ⟨r, q σ s (Keep.refl _ _)⟩
  | cons _ _ => cases e
theorem gs_cons {X : Cx} {T : Tb} {i : Nat} {is : List Nat} {x : Str} {pos : Pos} {es : List Expr} (h1 : PG X (.Name x pos) (gName i)) (h2 : PGs X es (tGs T is)) (hs : (assignEach (.Name x pos :: es) X.env).map (·.2) = assign (.Name x pos) X.env :: (assignEach es X.env).map (·.2)) : PGs X (.Name x pos :: es) (tGs T (i :: is)) :=
  PGsm (pgs_cons h1 h2 hs) fun vs σ H Q ⟨F0, H0, Hf, ρ, ds, ρ', s, r, e, q⟩ => by
    cases ds with
    | nil => cases e
    | cons d ds =>
      obtain ⟨v, rr, rfl, h3, h4⟩ := r
      unfold bindL at e
      split at e
      · rename_i hl
        refine ⟨v, rr, rfl, F0, H0, Hf, _, ds, ρ', s.set (by rw [s.len]; exact hl) h3, h4, e, fun σ' s' k => q σ' s' ⟨by rw [k.1]; simp, fun j hj => ?_⟩⟩
        rw [k.2 j (fun z => hj (List.mem_cons_of_mem _ z))]
        exact List.getElem?_set_ne (fun z => hj (by simp [z]))
      · cases e
theorem bindL_len : ∀ {is : List Nat} {ds : List D} {ρ ρ' : Env}, bindL is ds ρ = some ρ' → ds.length = is.length
  | [], [], _, _, _ => rfl
  | [], _ :: _, _, _, e => by cases e
  | _ :: _, [], _, _, e => by cases e
  | i :: is, d :: ds, _, _, e => by
    unfold bindL at e
    split at e
    · simp [bindL_len e]
    · cases e
theorem g_tp {X : Cx} {T : Tb} {is : List Nat} {es : List Expr} {k : Nat} {pos : Pos} (hK : X.K = T.K) (hc : X.calm = true) (h : PGs X es (tGs T is)) (hn : (assignEach es X.env).length = is.length) (hst : (assignEach es X.env).findIdx? (·.1) = none) : PG X (.Tuple es k pos) (tG T (.tp is)) :=
  PGm (pg_tup hc h hn hst) fun v σ H Q ⟨F0, H0, Hf, ρ, d, ρ', s, r, e, q⟩ => by
    cases d with
    | tup l =>
      obtain ⟨a, xs, rfl, h1, h2⟩ := r
      refine ⟨a, xs, rfl, ?_, ?_, F0, H0, Hf, ρ, l, ρ', s, h2, e, q⟩
      · rw [hK]; exact ex_t s.e1 h1
      · rw [h2.length]; exact bindL_len e
    | _ => cases e

/-! ### what is walked -/
def ItOk (T : Tb) (Hf : Hp) (J : It) (l : List D) : Prop := ∀ Hf2 H2, Ex Hf Hf2 → Ex Hf2 H2 →
  (∀ (i : Nat) (d : D), l[i]? = some d → J.go i H2 ∧ ∀ x H3, J.yld i H2 x H3 → ∃ Hf3, Gr Hf2 H2 Hf3 H3 ∧ Rp T Hf3 x d) ∧ J.stop l.length H2
def tXi (T : Tb) (f : Env → Option (List D)) (es : List Nat) : TI := fun σ H R => ∃ F0 H0 Hf ρ l, Sim T F0 H0 Hf H σ ρ ∧ Fz es ρ ∧ f ρ = some l ∧ ∀ Hf' H' J, Gr Hf H Hf' H' → ItOk T Hf' J l → R J H'
section
variable {X : Cx} {T : Tb} {tg a : Expr} {fa : Env → Option D} {ea : List Nat}
theorem i_t (hK : X.K = T.K) (ha : PE X a (tX T .vl fa ea)) : PI X tg a (tXi T (fun ρ => (fa ρ).bind tupD) ea) :=
  PIm (pi_tup ha) fun σ H R ⟨F0, H0, Hf, ρ, l, s, fz, e, q⟩ => by
    obtain ⟨d, e1, e2⟩ := ob e
    cases tup_map _ _ e2
    refine ⟨F0, H0, Hf, ρ, _, s, fz, e1, fun Hf1 H1 v g1 r1 => ?_⟩
    obtain ⟨p, xs, rfl, h1, h2⟩ := r1
    refine ⟨p, rfl, ⟨xs, by rw [hK]; exact ex_t g1.z h1⟩, q Hf1 H1 _ g1 fun Hf2 H2 y z => ⟨fun i d hd => ?_, ?_⟩⟩
    · obtain ⟨v, h3, h4⟩ := h2.get hd
      have h5 : SqT X.K H2 p xs := by rw [hK]; exact ex_t z (ex_t y h1)
      refine ⟨⟨xs, v, h5, h3⟩, fun x H3 ⟨h6, h7⟩ => ?_⟩
      subst h6
      have h8 := h7 xs h5
      rw [h3] at h8; cases h8
      exact ⟨Hf2, Gr.refl z, h4.mono y⟩
    · exact ⟨xs, by rw [hK]; exact ex_t z (ex_t y h1), by rw [h2.length]; exact Nat.le_refl _⟩
theorem i_l (hK : X.K = T.K) (ha : PE X a (tX T .vl fa ea)) : PI X tg a (tXi T (fun ρ => (fa ρ).bind lstD) ea) :=
  PIm (pi_list ha) fun σ H R ⟨F0, H0, Hf, ρ, l, s, fz, e, q⟩ => by
    obtain ⟨d, e1, e2⟩ := ob e
    cases lst_map _ _ e2
    refine ⟨F0, H0, Hf, ρ, _, s, fz, e1, fun Hf1 H1 v g1 r1 => ?_⟩
    obtain ⟨p, xs, rfl, h1, h2⟩ := r1
    refine ⟨p, rfl, ⟨xs, sq_of (g1.z _ _ h1)⟩, q Hf1 H1 _ g1 fun Hf2 H2 y z => ⟨fun i d hd => ?_, ?_⟩⟩
    · obtain ⟨v, h3, h4⟩ := h2.get hd
      have h5 : SqL X.K H2 p xs := sq_of (z _ _ (y _ _ h1))
      refine ⟨⟨xs, v, h5, h3⟩, fun x H3 ⟨h6, h7⟩ => ?_⟩
      subst h6
      have h8 := h7 xs h5
      rw [h3] at h8; cases h8
      exact ⟨Hf2, Gr.refl z, h4.mono y⟩
    · exact ⟨xs, sq_of (z _ _ (y _ _ h1)), by rw [h2.length]; exact Nat.le_refl _⟩
theorem i_s (ha : PE X a (tX T .vl fa ea)) : PI X tg a (tXi T (fun ρ => (fa ρ).bind fun d => (strD d).bind fun s => if s.length ≤ lim then some (s.map fun c => .str [c]) else none) ea) :=
  PIm (pi_str ha) fun σ H R ⟨F0, H0, Hf, ρ, l, s, fz, e, q⟩ => by
    obtain ⟨d, e1, e2⟩ := ob e
    obtain ⟨cs, e3, e4⟩ := ob e2
    cases str_map _ _ e3
    split at e4
    · cases e4
      refine ⟨F0, H0, Hf, ρ, _, s, fz, e1, fun Hf1 H1 v g1 r1 => ⟨sS cs, r1, q Hf1 H1 _ g1 fun Hf2 H2 y z => ⟨fun i d hd => ?_, ?_⟩⟩⟩
      · rw [List.getElem?_map] at hd
        cases hc : cs[i]? with
        | none => rw [hc] at hd; cases hd
        | some c =>
          rw [hc] at hd
          cases hd
          have h1 : (sS cs).cps[i]? = some c := by simpa [sS] using hc
          refine ⟨?_, fun x H3 ⟨h6, c', h7, h8⟩ => ?_⟩
          · show i < cs.toArray.size
            have := (List.getElem?_eq_some_iff.mp hc).1
            simpa using this
          · subst h6
            rw [h1] at h7; cases h7
            exact ⟨Hf2, Gr.refl z, h8⟩
      · show (sS cs).cps.size ≤ _
        simp [sS]
    · cases e4
theorem i_r1 {p pos : Pos} (hg : Gl X "range") (hm : X.mg "range" = none) (ha : PE X a (tX T .vl fa ea)) (hs : starEach [a] X.env = [(false, eval a X.env)]) :
    PI X tg (.Call (.Name "range" p) [a] [] pos) (tXi T (fun ρ => (fa ρ).bind fun d => (intD d).bind fun n => if -100000 ≤ n && n ≤ 100000 then some ((List.range n.toNat).map fun k => .int (k : Nat)) else none) ea) :=
  PIm (pi_range1 hg hm (pa_cons ha pa_nil hs) hs) fun σ H R ⟨F0, H0, Hf, ρ, l, s, fz, e, q⟩ => by
    obtain ⟨d, e1, e2⟩ := ob e
    obtain ⟨n, e3, e4⟩ := ob e2
    cases int_map _ _ e3
    split at e4
    · rename_i hn
      cases e4
      simp only [Bool.and_eq_true, decide_eq_true_eq] at hn
      refine ⟨F0, H0, Hf, ρ, _, s, fz, e1, fun Hf1 H1 v g1 r1 => ?_⟩
      have hv : v = .int n := r1
      subst hv
      refine ⟨n, rfl, by omega, by omega, q Hf1 H1 _ g1 fun Hf2 H2 y z => ⟨fun i d hd => ?_, ?_⟩⟩
      · rw [List.getElem?_map] at hd
        cases hc : (List.range n.toNat)[i]? with
        | none => rw [hc] at hd; cases hd
        | some c =>
          rw [hc] at hd
          cases hd
          obtain ⟨h1, h2⟩ := List.getElem?_eq_some_iff.mp hc
          simp only [List.length_range] at h1
          simp only [List.getElem_range] at h2
          subst h2
          refine ⟨h1, fun x H3 ⟨h6, h7⟩ => ?_⟩
          subst h6 h7
          refine ⟨Hf2, Gr.refl z, ?_⟩
          show V.int (0 + (i : Nat)) = V.int (i : Nat)
          rw [Int.zero_add]
      · show n.toNat ≤ _
        simp
    · cases e4
theorem i_r2 {b : Expr} {fb : Env → Option D} {eb : List Nat} {p pos : Pos} (hg : Gl X "range") (hm : X.mg "range" = none) (ha : PE X a (tX T .vl fa ea)) (hb : PE X b (tX T .vl fb eb)) (hs : starEach [a, b] X.env = [(false, eval a X.env), (false, eval b X.env)]) (hs2 : starEach [b] X.env = [(false, eval b X.env)]) :
    PI X tg (.Call (.Name "range" p) [a, b] [] pos) (tXi T (fun ρ => (fa ρ).bind fun d => (fb ρ).bind fun d2 => (intD d).bind fun n => (intD d2).bind fun m => if (-100000 ≤ n && n ≤ 100000) && (-100000 ≤ m && m ≤ 100000) then some ((List.range (m - n).toNat).map fun k => .int (n + (k : Nat))) else none) (ea ++ eb)) :=
  PIm (pi_range2 hg hm (pa_cons ha (pa_cons hb pa_nil hs2) (by rw [hs, hs2])) hs hs2) fun σ H R ⟨F0, H0, Hf, ρ, l, s, fz, e, q⟩ => by
    obtain ⟨d, e1, e2⟩ := ob e
    obtain ⟨d2, f1, e2⟩ := ob e2
    obtain ⟨n, e3, e4⟩ := ob e2
    obtain ⟨m, f3, e5⟩ := ob e4
    clear e2 e4 e
    cases int_map _ _ e3
    cases int_map _ _ f3
    split at e5
    · rename_i hn
      cases e5
      simp only [Bool.and_eq_true, decide_eq_true_eq] at hn
      refine ⟨F0, H0, Hf, ρ, _, s, fz.left, e1, fun Hf1 H1 v g1 r1 => ?_⟩
      refine ⟨F0, H0, Hf1, ρ, _, s.gr g1, fz.right, f1, fun Hf1' H1' v' g1' r1' => ?_⟩
      have hv : v = .int n := r1
      subst hv
      have hv : v' = .int m := r1'
      subst hv
      refine ⟨n, m, rfl, ⟨by omega, by omega, by omega, by omega⟩, q Hf1' H1' _ (g1.trans g1') fun Hf2 H2 y z => ⟨fun i d hd => ?_, ?_⟩⟩
      · rw [List.getElem?_map] at hd
        cases hc : (List.range (m - n).toNat)[i]? with
        | none => rw [hc] at hd; cases hd
        | some c =>
          rw [hc] at hd
          cases hd
          obtain ⟨h1, h2⟩ := List.getElem?_eq_some_iff.mp hc
          simp only [List.length_range] at h1
          simp only [List.getElem_range] at h2
          subst h2
          refine ⟨h1, fun x H3 ⟨h6, h7⟩ => ?_⟩
          subst h6 h7
          exact ⟨Hf2, Gr.refl z, rfl⟩
      · show (m - n).toNat ≤ _
        simp
    · cases e5
end

/-! ### list comprehensions -/
def tXb (T : Tb) (f : Env → Option Bool) (es : List Nat) : TT := fun σ H Q => ∃ F0 H0 Hf ρ b, Sim T F0 H0 Hf H σ ρ ∧ Fz es ρ ∧ f ρ = some b ∧ ∀ Hf' H', Gr Hf H Hf' H' → Q b H'
theorem PTsm {X : Cx} {e : List Expr} {t t' : TT} (h : PTs X e t) (m : ∀ σ H Q, t' σ H Q → t σ H Q) : PTs X e t' := ⟨fun pins s σ H Q I q => h.run pins s σ H Q I (m σ H Q q)⟩
theorem b_nil {X : Cx} {T : Tb} : PTs X [] (tXb T (fun _ => some true) []) := PTsm pts_nil fun σ H Q ⟨F0, H0, Hf, ρ, b, s, fz, e, q⟩ => by
  cases e
  exact q Hf H (Gr.refl s.e1)
theorem b_one {X : Cx} {T : Tb} {a : Expr} {fa : Env → Option D} {ea : List Nat} (h : PT X a (tXt T fa ea)) : PTs X [a] (tXb T (fun ρ => (fa ρ).bind fun x => (truD x).bind fun b => if b then some true else some false) ea) := PTsm (pts_one h) fun σ H Q ⟨F0, H0, Hf, ρ, b, s, fz, e, q⟩ => by
  obtain ⟨d, e1, e2⟩ := ob e
  obtain ⟨k, e3, e4⟩ := ob e2
  cases tru_map _ _ e3
  have : k = b := by cases k <;> (cases e4; rfl)
  subst this
  exact ⟨F0, H0, Hf, ρ, k, s, fz, e1, q⟩
/-- one turn of a comprehension -/
def fLc (tg : Tg) (vs : List Nat) (ft : Env → Option Bool) (fe : Env → Option D) (ρ : Env) : D → Option (Option D) := fun d => (bindT tg d (wipeE ρ vs)).bind fun r => (ft r).bind fun b => if b then (fe r).bind fun x => some (some x) else some none
theorem goLc_len {f : D → Option (Option D)} : ∀ {l : List D} {r : List D}, goLc f l = some r → r.length ≤ l.length
  | [], r, e => by cases e; exact Nat.le_refl _
  | d :: l, r, e => by
    obtain ⟨o, e1, e2⟩ := ob e
    obtain ⟨t, e3, e4⟩ := ob e2
    cases e4
    have := goLc_len e3
    cases o <;> simp only [List.length_cons] <;> omega
/-- growth but for the object at D, which isn't frozen -/
structure GrD (D : Addr) (Hf H Hf' H' : Hp) : Prop where
  y : Ex Hf Hf'
  x : ∀ b o, b ≠ D → H b = some o → H' b = some o
  z : Ex Hf' H'
  p : ∀ b o, b ≠ D → H b = some o → Hf b = none → Hf' b = none
  d : Hf' D = none
theorem GrD.of {D : Addr} {Hf H Hf' H' : Hp} (g : Gr Hf H Hf' H') (h : Hf' D = none) : GrD D Hf H Hf' H' := ⟨g.y, fun b o _ e => g.x b o e, g.z, fun b o _ e => g.p b o e, h⟩
theorem GrD.gr {D : Addr} {Hf H Hf' H' : Hp} (g : GrD D Hf H Hf' H') (h : H D = none) : Gr Hf H Hf' H' := ⟨g.y, fun b o e => g.x b o (ne_of_none e h) e, g.z, fun b o e => g.p b o (ne_of_none e h) e⟩
theorem GrD.trans {D : Addr} {Hf H Hf1 H1 Hf2 H2 : Hp} (a : GrD D Hf H Hf1 H1) (b : GrD D Hf1 H1 Hf2 H2) : GrD D Hf H Hf2 H2 := ⟨a.y.trans b.y, fun c o n e => b.x c o n (a.x c o n e), b.z, fun c o n e f => b.p c o n (a.x c o n e) (a.p c o n e f), b.d⟩
theorem GrD.then {D : Addr} {Hf H Hf1 H1 Hf2 H2 : Hp} {o : HO} (a : GrD D Hf H Hf1 H1) (h : H1 D = some o) (b : Gr Hf1 H1 Hf2 H2) : GrD D Hf H Hf2 H2 := a.trans (.of b (b.p D o h a.d))
theorem GrD.mut {D : Addr} {Hf H Hf1 H1 : Hp} {o : HO} (g : GrD D Hf H Hf1 H1) : GrD D Hf H Hf1 (upd H1 D o) :=
  ⟨g.y, fun b u n e => by rw [upd_ne n]; exact g.x b u n e, fun b u e => by rw [upd_ne (ne_of_none e g.d)]; exact g.z b u e, g.p, g.d⟩
def NotOwn (D : Addr) (σ : L2.St) (ρ : Env) : Prop := ∀ (j : Nat) (d : PD.D), ρ[j]? = some (some (true, d)) → σ[j]? ≠ some (some (V.ref D))
theorem Sim.grD {T : Tb} {F0 H0 Hf H Hf' H' : Hp} {σ : L2.St} {ρ : Env} {D : Addr} (s : Sim T F0 H0 Hf H σ ρ) (g : GrD D Hf H Hf' H') (h0 : H0 D = none) (hn : NotOwn D σ ρ) : Sim T F0 H0 Hf' H' σ ρ where
  e1 := g.z
  ef := s.ef.trans g.y
  e0 := fun b o e => g.x b o (ne_of_none e h0) (s.e0 b o e)
  sep := fun b o e f => g.p b o (ne_of_none e h0) (s.e0 b o e) (s.sep b o e f)
  len := s.len
  fr := fun i d h => by
    obtain ⟨v, h1, h2⟩ := s.fr i d h
    exact ⟨v, h1, h2.mono g.y⟩
  ow := fun i d h => by
    obtain ⟨a, h1, h2, h3, h4⟩ := s.ow i d h
    have hne : a ≠ D := fun z => hn i d h (by rw [← z]; exact h1)
    obtain ⟨o, h5⟩ := h4.exi
    refine ⟨a, h1, g.p a o hne h5 h2, h3, ?_⟩
    cases d <;> first
      | exact h4.elim
      | (obtain ⟨xs, q1, q2⟩ := h4; exact ⟨xs, g.x _ _ hne q1, q2.mono g.y⟩)
  dj := s.dj
theorem bindL_own : ∀ {is : List Nat} {ds : List D} {ρ ρ' : Env} {j : Nat} {d : D}, bindL is ds ρ = some ρ' → ρ'[j]? = some (some (true, d)) → j ∉ is ∧ ρ[j]? = some (some (true, d))
  | [], [], _, _, _, _, e, h => by cases e; exact ⟨by simp, h⟩
  | [], _ :: _, _, _, _, _, e, _ => by cases e
  | _ :: _, [], _, _, _, _, e, _ => by cases e
  | i :: is, x :: xs, ρ, ρ', j, d, e, h => by
    unfold bindL at e
    split at e
    · rename_i hi
      obtain ⟨h1, h2⟩ := bindL_own e h
      by_cases ij : i = j
      · subst ij; rw [List.getElem?_set_self hi] at h2; cases h2
      · rw [List.getElem?_set_ne ij] at h2
        exact ⟨by simp only [List.mem_cons, not_or]; exact ⟨fun z => ij z.symm, h1⟩, h2⟩
    · cases e
theorem bindT_own {tg : Tg} {x : D} {ρ ρ' : Env} {j : Nat} {d : D} (e : bindT tg x ρ = some ρ') (h : ρ'[j]? = some (some (true, d))) : j ∉ tg.own ∧ ρ[j]? = some (some (true, d)) := by
  cases tg with
  | nm i =>
    replace e : (if i < ρ.length then some (ρ.set i (some (false, x))) else none) = some ρ' := e
    split at e
    · rename_i hi
      cases e
      by_cases ij : i = j
      · subst ij; rw [List.getElem?_set_self hi] at h; cases h
      · rw [List.getElem?_set_ne ij] at h
        exact ⟨by simpa [Tg.own] using fun z => ij z.symm, h⟩
    · cases e
  | tp is =>
    cases x with
    | tup l => exact bindL_own e h
    | _ => cases e
theorem NotOwn.bound {D : Addr} {σ σ2 : L2.St} {ρ ρ2 : Env} {tg : Tg} {vs : List Nat} {x : PD.D} (hn : NotOwn D σ ρ) (e : bindT tg x (wipeE ρ vs) = some ρ2) (k : Keep tg.own (L2.wipe σ vs) σ2) : NotOwn D σ2 ρ2 := fun j d h z => by
  obtain ⟨h1, h2⟩ := bindT_own e h
  obtain ⟨h3, h4⟩ := wipeE_some h2
  rw [k.2 j h1, wipe_get, if_neg h4] at z
  exact hn j d h3 z
/-- the turns of a comprehension that puts what it makes into the object at D: P tells D's object by the data put in so far -/
theorem lc_turns {T : Tb} {F0 H0 Hf1 H1 : Hp} {σ : L2.St} {ρ : Env} {tg : Tg} {vs : List Nat} {ft : Env → Option Bool} {fe : Env → Option D} {et ee : List Nat} {J : It} {l r pre : List D} {D : Addr} {Qd : Hp → Prop}
    {P : Hp → HO → List PD.D → Prop} {K : V → Hp → (Hp → Prop) → Prop} {okd : PD.D → Prop}
    (pm : ∀ Hf Hf' o ds, Ex Hf Hf' → P Hf o ds → P Hf' o ds)
    (hK : ∀ Hf4 H4 o dn dy y (Nx : Hp → Prop), Ex Hf4 H4 → H4 D = some o → P Hf4 o dn → dn.length < pre.length + r.length → Rp T Hf4 y dy → okd dy → (∀ o', P Hf4 o' (dn ++ [dy]) → Nx (upd H4 D o')) → K y H4 Nx)
    (s : Sim T F0 H0 Hf1 H1 σ ρ) (ok : ∀ Hf2 H2, GrD D Hf1 H1 Hf2 H2 → (∀ (i : Nat) (d : PD.D), l[i]? = some d → J.go i H2 ∧ ∀ x H3, J.yld i H2 x H3 → ∃ Hf3, Gr Hf2 H2 Hf3 H3 ∧ Rp T Hf3 x d) ∧ J.stop l.length H2) (fzt : Fz et (wipeE ρ vs)) (fze : Fz ee (wipeE ρ vs)) (hv : ∀ i ∈ tg.own, i ∈ vs) (hr : goLc (fLc tg vs ft fe ρ) l = some r) (hok : ∀ d ∈ r, okd d) (h0 : H0 D = none) (hn : NotOwn D σ ρ)
    {Hb Hc : Hp} (gb : GrD D Hf1 H1 Hb Hc) {ob0 : HO} (hcD : Hc D = some ob0) (hP : P Hb ob0 pre)
    (hq : ∀ Hf' H' o, GrD D Hf1 H1 Hf' H' → H' D = some o → P Hf' o (pre ++ r) → Qd H') :
    ∃ W : Nat → Nat → Hp → Prop, (∃ m, W 0 m Hc) ∧ ∀ i m H, W i m H → (J.stop i H ∧ Qd H) ∨ (J.go i H ∧ ∃ Nx : Hp → Prop, (∀ H', Nx H' → ∃ m', m' < m ∧ W (i + 1) m' H') ∧ ∀ x H', J.yld i H x H' → tG T tg x (L2.wipe σ vs) H' fun σ2 H2 => L2.wipe σ2 vs = L2.wipe σ vs ∧ tXb T ft et σ2 H2 fun b H3 =>
      if b = true then tX T .vl fe ee σ2 H3 fun y H4 => K y H4 Nx else Nx H3) := by
  refine ⟨fun i m H' => m = l.length - i ∧ i ≤ l.length ∧ ∃ Hf' o dn rs, GrD D Hf1 H1 Hf' H' ∧ H' D = some o ∧ P Hf' o dn ∧ goLc (fLc tg vs ft fe ρ) (l.drop i) = some rs ∧ (∀ d ∈ rs, okd d) ∧ dn ++ rs = pre ++ r,
    ⟨l.length, by simp, Nat.zero_le _, Hb, ob0, pre, r, gb, hcD, hP, by simpa using hr, hok, rfl⟩, ?_⟩
  rintro i m H' ⟨rfl, hi, Hf', o0, dn, rs, g, hD', ha, hgo, hoks, hsum⟩
  obtain ⟨ok1, ok2⟩ := ok Hf' H' g
  by_cases hlt : i < l.length
  · obtain ⟨dI, hdI⟩ : ∃ d, l[i]? = some d := ⟨l[i], by simp [hlt]⟩
    obtain ⟨go, yld⟩ := ok1 i dI hdI
    have hdrop : l.drop i = dI :: l.drop (i + 1) := by
      rw [List.drop_eq_getElem_cons hlt]
      have : l[i] = dI := by simpa [hlt] using hdI
      rw [this]
    rw [hdrop] at hgo
    obtain ⟨o, e1, e2⟩ := ob hgo
    obtain ⟨rs', e3, e4⟩ := ob e2
    refine .inr ⟨go, fun H'' => ∃ Hf' o dn rs, GrD D Hf1 H1 Hf' H'' ∧ H'' D = some o ∧ P Hf' o dn ∧ goLc (fLc tg vs ft fe ρ) (l.drop (i + 1)) = some rs ∧ (∀ d ∈ rs, okd d) ∧ dn ++ rs = pre ++ r,
      fun H'' h => ⟨l.length - (i + 1), by omega, rfl, hlt, h⟩, fun x H2 hy => ?_⟩
    obtain ⟨Hf2, g2, rx⟩ := yld x H2 hy
    obtain ⟨ρ2, f1, f2⟩ := ob e1
    obtain ⟨b, f3, f4⟩ := ob f2
    have gg2 := g.then hD' g2
    have hD2 : H2 D = some o0 := g2.x _ _ hD'
    refine ⟨F0, H0, Hf2, wipeE ρ vs, dI, ρ2, (s.grD gg2 h0 hn).wipe vs, rx, f1, fun σ2 s2 k => ⟨?_, ?_⟩⟩
    · rw [k.wipe hv, wipe_wipe]
    refine ⟨F0, H0, Hf2, ρ2, b, s2, fzt.bindT f1, f3, fun Hf3 H3 g3 => ?_⟩
    have gg3 := gg2.then hD2 g3
    have hD3 : H3 D = some o0 := g3.x _ _ hD2
    cases b with
    | false =>
      cases f4
      cases e4
      exact ⟨Hf3, o0, dn, rs', gg3, hD3, pm _ _ _ _ ((g2.trans g3).y) ha, e3, hoks, hsum⟩
    | true =>
      have f4 : ((fe ρ2).bind fun x => some (some x)) = some o := f4
      obtain ⟨dy, f5, f6⟩ := ob f4
      cases f6
      cases e4
      refine ⟨F0, H0, Hf3, ρ2, dy, s2.gr g3, fze.bindT f1, f5, fun Hf4 H4 y g4 ry => ?_⟩
      have gg4 := gg3.then hD3 g4
      have hD4 : H4 D = some o0 := g4.x _ _ hD3
      have hlen : dn.length < pre.length + r.length := by
        have h1 := congrArg List.length hsum
        simp only [List.length_append, List.length_cons] at h1
        omega
      exact hK Hf4 H4 o0 dn dy y _ g4.z hD4 (pm _ _ _ _ ((g2.trans g3).trans g4).y ha) hlen ry (hoks dy (by simp)) fun o' hp => ⟨Hf4, o', dn ++ [dy], rs', gg4.mut, upd_same, hp, e3, fun d hd => hoks d (by simp [hd]), by rw [← hsum]; simp⟩
  · have e : i = l.length := by omega
    subst e
    rw [List.drop_length] at hgo
    cases hgo
    refine .inl ⟨ok2, hq Hf' H' o0 g hD' ?_⟩
    rw [List.append_nil] at hsum
    rw [← hsum]; exact ha
/-- what is walked, while all but the new object stays -/
def ItOkH (T : Tb) (Hf H : Hp) (J : It) (l : List D) : Prop := ∀ D Hf2 H2, H D = none → GrD D Hf H Hf2 H2 → (∀ (i : Nat) (d : PD.D), l[i]? = some d → J.go i H2 ∧ ∀ x H3, J.yld i H2 x H3 → ∃ Hf3, Gr Hf2 H2 Hf3 H3 ∧ Rp T Hf3 x d) ∧ J.stop l.length H2
def tXj (T : Tb) (f : Env → Option (List D)) (es : List Nat) : TI := fun σ H R => ∃ F0 H0 Hf ρ l, Sim T F0 H0 Hf H σ ρ ∧ Fz es ρ ∧ f ρ = some l ∧ ∀ Hf' H' J, Gr Hf H Hf' H' → ItOkH T Hf' H' J l → R J H'
theorem ij {X : Cx} {T : Tb} {tg a : Expr} {f : Env → Option (List D)} {es : List Nat} (h : PI X tg a (tXi T f es)) : PI X tg a (tXj T f es) :=
  PIm h fun σ H R ⟨F0, H0, Hf, ρ, l, s, fz, e, q⟩ => ⟨F0, H0, Hf, ρ, l, s, fz, e, fun Hf' H' J g ok => q Hf' H' J g fun D Hf2 H2 _ gd => ok Hf2 H2 gd.y gd.z⟩
theorem i_lp {X : Cx} {T : Tb} {tg a : Expr} {fa : Env → Option D} {ea : List Nat} (ha : PE X a (tX T .pk fa ea)) : PI X tg a (tXj T (fun ρ => (fa ρ).bind lstD) ea) :=
  PIm (pi_list ha) fun σ H R ⟨F0, H0, Hf, ρ, l, s, fz, e, q⟩ => by
    obtain ⟨d, e1, e2⟩ := ob e
    cases lst_map _ _ e2
    refine ⟨F0, H0, Hf, ρ, _, s, fz, e1, fun Hf1 H1 v g1 r1 => ?_⟩
    obtain ⟨p, xs, rfl, h1, h2⟩ := Rr.lst g1.z r1
    refine ⟨p, rfl, ⟨xs, sq_of h1⟩, q Hf1 H1 _ g1 fun D Hf2 H2 hD gd => ?_⟩
    have hpD : p ≠ D := fun z => by rw [z, hD] at h1; cases h1
    have h5 : SqL X.K H2 p xs := sq_of (gd.x _ _ hpD h1)
    refine ⟨fun i d hd => ?_, xs, h5, by rw [h2.length]; exact Nat.le_refl _⟩
    obtain ⟨v, h3, h4⟩ := h2.get hd
    refine ⟨⟨xs, v, h5, h3⟩, fun x H3 ⟨h6, h7⟩ => ?_⟩
    subst h6
    have h8 := h7 xs h5
    rw [h3] at h8; cases h8
    exact ⟨Hf2, Gr.refl gd.z, h4.mono gd.y⟩
/-- the list at D -/
def PLst (T : Tb) : Hp → HO → List D → Prop := fun Hf o ds => ∃ acc, o = .lst acc ∧ Rps T Hf acc ds
theorem PLst.mono {T : Tb} : ∀ Hf Hf' o ds, Ex Hf Hf' → PLst T Hf o ds → PLst T Hf' o ds := fun _ _ _ _ e ⟨acc, h1, h2⟩ => ⟨acc, h1, h2.mono e⟩
def vLc (fi : Env → Option (List D)) (tg : Tg) (vs : List Nat) (ft : Env → Option Bool) (fe : Env → Option D) : Env → Option D := fun ρ => (fi ρ).bind fun l => (goLc (fLc tg vs ft fe ρ) l).bind mkL
theorem t_lc {T : Tb} {σ : L2.St} {H : Hp} {Q : VK} {tg : Tg} {vs : List Nat} {fi : Env → Option (List D)} {ft : Env → Option Bool} {fe : Env → Option D} {ei et ee : List Nat} (hv : ∀ i ∈ tg.own, i ∈ vs) (h : tX T .fr (vLc fi tg vs ft fe) (ei ++ out vs (et ++ ee)) σ H Q) :
    tLc (tXj T fi ei) (tG T tg) (tXb T ft et) (tX T .vl fe ee) vs σ H Q := by
  obtain ⟨F0, H0, Hf, ρ, d, s, fz, e, q⟩ := h
  obtain ⟨l, e1, e⟩ := ob e
  obtain ⟨r, e2, e⟩ := ob e
  unfold mkL at e
  split at e
  · rename_i hl
    cases e
    refine ⟨F0, H0, Hf, ρ, l, s, fz.left, e1, fun Hf1 H1 J g1 ok D hD => ?_⟩
    have hfD : Hf1 D = none := fresh_back g1.z hD
    refine lc_turns (P := PLst T) (okd := fun _ => True) (pre := []) (K := fun y H4 Nx => ∃ acc, H4 D = some (.lst acc) ∧ acc.length < sizeLine ∧ Nx (upd H4 D (.lst (acc ++ [y])))) PLst.mono (fun Hf4 H4 o dn dy y Nx _ h1 h2 h3 h4 _ h6 => ?_) (s.gr g1) (fun Hf2 H2 gd => ok D Hf2 H2 hD gd) fz.right.out.left fz.right.out.right hv e2 (fun _ _ => trivial) (fresh_back (s.gr g1).e0 hD) ((s.gr g1).notOwned hD) (.of (Gr.new g1.z hD) hfD) upd_same ⟨[], rfl, Rps.nil⟩ fun Hf' H' o g h1 h2 => ?_
    · obtain ⟨acc, rfl, h7⟩ := h2
      refine ⟨acc, h1, ?_, h6 _ ⟨_, rfl, h7.append (Rps.cons h4 Rps.nil)⟩⟩
      rw [h7.length]
      simp only [List.length_nil, Nat.zero_add] at h3
      exact Nat.lt_of_lt_of_le h3 (lim_ok hl)
    · obtain ⟨acc, rfl, h3⟩ := h2
      exact q Hf' H' (.ref D) (g1.trans (g.gr hD)) ⟨D, rfl, fresh_back g1.x hD, g.d, acc, h1, h3⟩
  · cases e
/-! ### two clauses -/
def fLc2 (tg : Tg) (vs : List Nat) (ft : Env → Option Bool) (fi2 : Env → Option (List D)) (tg2 : Tg) (vs2 : List Nat) (ft2 : Env → Option Bool) (fe : Env → Option D) (ρ : Env) : D → Option (List D) := fun d =>
  (bindT tg d (wipeE ρ vs)).bind fun r => (ft r).bind fun b => if b then (fi2 r).bind fun l2 => goLc (fLc tg2 vs2 ft2 fe r) l2 else some []
def vLc2 (fi : Env → Option (List D)) (tg : Tg) (vs : List Nat) (ft : Env → Option Bool) (fi2 : Env → Option (List D)) (tg2 : Tg) (vs2 : List Nat) (ft2 : Env → Option Bool) (fe : Env → Option D) : Env → Option D := fun ρ =>
  (fi ρ).bind fun l => (allM (fLc2 tg vs ft fi2 tg2 vs2 ft2 fe ρ) l).bind fun ls => mkL ls.flatten
theorem t_lc2 {T : Tb} {σ : L2.St} {H : Hp} {Q : VK} {tg tg2 : Tg} {vs vs2 : List Nat} {fi fi2 : Env → Option (List D)} {ft ft2 : Env → Option Bool} {fe : Env → Option D} {ei et ei2 et2 ee : List Nat} (hv : ∀ i ∈ tg.own, i ∈ vs) (hv2 : ∀ i ∈ tg2.own, i ∈ vs2)
    (h : tX T .fr (vLc2 fi tg vs ft fi2 tg2 vs2 ft2 fe) (ei ++ out vs (et ++ (ei2 ++ (et2 ++ ee)))) σ H Q) :
    tLc2 (tXj T fi ei) (tG T tg) (tXb T ft et) (tXi T fi2 ei2) (tG T tg2) (tXb T ft2 et2) (tX T .vl fe ee) vs vs2 σ H Q := by
  obtain ⟨F0, H0, Hf, ρ, d, s0, fz, e, q⟩ := h
  obtain ⟨l, e1, e⟩ := ob e
  obtain ⟨r, e2, e⟩ := ob e
  unfold mkL at e
  split at e
  rotate_left
  · cases e
  rename_i hl
  cases e
  refine ⟨F0, H0, Hf, ρ, l, s0, fz.left, e1, fun Hf1 H1 J g1 ok D hD => ?_⟩
  have hfD : Hf1 D = none := fresh_back g1.z hD
  have s := s0.gr g1
  have h0 : H0 D = none := fresh_back s.e0 hD
  have hn : NotOwn D σ ρ := s.notOwned hD
  refine ⟨fun i m H' => m = l.length - i ∧ i ≤ l.length ∧ ∃ Hf' acc dn rs, GrD D Hf1 H1 Hf' H' ∧ H' D = some (.lst acc) ∧ Rps T Hf' acc dn ∧ allM (fLc2 tg vs ft fi2 tg2 vs2 ft2 fe ρ) (l.drop i) = some rs ∧ dn ++ rs.flatten = r.flatten,
    ⟨l.length, by simp, Nat.zero_le _, Hf1, [], [], r, .of (Gr.new g1.z hD) hfD, upd_same, Rps.nil, by simpa using e2, by simp⟩, ?_⟩
  rintro i m H' ⟨rfl, hi, Hf', acc, dn, rs, g, hD', ha, hgo, hsum⟩
  obtain ⟨ok1, ok2⟩ := ok D Hf' H' hD g
  by_cases hlt : i < l.length
  · obtain ⟨dI, hdI⟩ : ∃ d, l[i]? = some d := ⟨l[i], by simp [hlt]⟩
    obtain ⟨go, yld⟩ := ok1 i dI hdI
    have hdrop : l.drop i = dI :: l.drop (i + 1) := by
      rw [List.drop_eq_getElem_cons hlt]
      have : l[i] = dI := by simpa [hlt] using hdI
      rw [this]
    rw [hdrop] at hgo
    obtain ⟨o, e1, e2⟩ := ob hgo
    obtain ⟨rs', e3, e4⟩ := ob e2
    cases e4
    refine .inr ⟨go, fun H'' => ∃ Hf' acc dn rs, GrD D Hf1 H1 Hf' H'' ∧ H'' D = some (.lst acc) ∧ Rps T Hf' acc dn ∧ allM (fLc2 tg vs ft fi2 tg2 vs2 ft2 fe ρ) (l.drop (i + 1)) = some rs ∧ dn ++ rs.flatten = r.flatten,
      fun H'' h => ⟨l.length - (i + 1), by omega, rfl, hlt, h⟩, fun x H2 hy => ?_⟩
    obtain ⟨Hf2, g2, rx⟩ := yld x H2 hy
    obtain ⟨ρ2, f1, f2⟩ := ob e1
    obtain ⟨b, f3, f4⟩ := ob f2
    have gg2 := g.then hD' g2
    have hD2 : H2 D = some (.lst acc) := g2.x _ _ hD'
    refine ⟨F0, H0, Hf2, wipeE ρ vs, dI, ρ2, (s.grD gg2 h0 hn).wipe vs, rx, f1, fun σ2 s2 k => ⟨?_, ?_⟩⟩
    · rw [k.wipe hv, wipe_wipe]
    refine ⟨F0, H0, Hf2, ρ2, b, s2, fz.right.out.left.bindT f1, f3, fun Hf3 H3 g3 => ?_⟩
    have gg3 := gg2.then hD2 g3
    have hD3 : H3 D = some (.lst acc) := g3.x _ _ hD2
    cases b with
    | false =>
      cases f4
      exact ⟨Hf3, acc, dn, rs', gg3, hD3, ha.mono (g2.trans g3).y, e3, by simpa using hsum⟩
    | true =>
      have f4 : ((fi2 ρ2).bind fun l2 => goLc (fLc tg2 vs2 ft2 fe ρ2) l2) = some o := f4
      obtain ⟨l2, f5, f6⟩ := ob f4
      refine ⟨F0, H0, Hf3, ρ2, l2, s2.gr g3, fz.right.out.right.left.bindT f1, f5, fun Hf4 H4 J1 g4 ok4 => ?_⟩
      have gg4 := gg3.then hD3 g4
      have hD4 : H4 D = some (.lst acc) := g4.x _ _ hD3
      have ha4 : Rps T Hf4 acc dn := ha.mono ((g2.trans g3).trans g4).y
      have hlen : dn.length + o.length ≤ lim := by
        have h1 := congrArg List.length hsum
        simp only [List.flatten_cons, List.length_append] at h1
        omega
      refine lc_turns (P := PLst T) (okd := fun _ => True) (pre := dn) (K := fun y H4 Nx => ∃ acc, H4 D = some (.lst acc) ∧ acc.length < sizeLine ∧ Nx (upd H4 D (.lst (acc ++ [y])))) PLst.mono (fun Hf5 H5 o5 dn5 dy y Nx _ h1 h2 h3 h4 _ h6 => ?_) ((s2.gr g3).gr g4) (fun Hf2 H2 gd => ok4 Hf2 H2 gd.y gd.z) ((fz.right.out.right.right.left.bindT f1).wipe vs2) ((fz.right.out.right.right.right.bindT f1).wipe vs2) hv2 f6 (fun _ _ => trivial) h0 (hn.bound f1 k) (.of (Gr.refl g4.z) gg4.d) hD4 ⟨acc, rfl, ha4⟩ fun Hf' H' o' g' h1 h2 => ?_
      · obtain ⟨acc, rfl, h7⟩ := h2
        refine ⟨acc, h1, ?_, h6 _ ⟨_, rfl, h7.append (Rps.cons h4 Rps.nil)⟩⟩
        rw [h7.length]
        exact Nat.lt_of_lt_of_le h3 (lim_ok hlen)
      · obtain ⟨acc', rfl, h3⟩ := h2
        exact ⟨Hf', acc', dn ++ o, rs', gg4.trans g', h1, h3, e3, by simpa using hsum⟩
  · have e : i = l.length := by omega
    subst e
    rw [List.drop_length] at hgo
    cases hgo
    refine .inl ⟨ok2, q Hf' H' (.ref D) (g1.trans (g.gr hD)) ⟨D, rfl, fresh_back g1.x hD, g.d, acc, hD', ?_⟩⟩
    simp only [List.flatten_nil, List.append_nil] at hsum
    rw [← hsum]; exact ha
end PD
end
section
set_option Elab.async false
set_option linter.all false
set_option maxRecDepth 100000
set_option maxHeartbeats 4000000
/-! PDH: statements. -/
namespace PD
open PySem L2 Evl

/-! ### a, *r = t -/
section
variable {prog : Program} {w : World} {A : Around} {E : Value → Shared → Prop} {s : Shared}
theorem unpack_starT {l : Addr} {v0 : Value} {vs : List Value} {Q : List Value → Shared → Prop} (hl : PyProof.Rows.IsTup s.heap l (v0 :: vs).toArray) (hh : A.handled = none) (hz : vs.length + 1 ≤ 16384)
    (h : ∀ (h' : Heap) (tk : Nat), (∀ b o, s.heap.get? b = some o → h'.get? b = some o) → Q [v0, .ref h'.objs.size] { s with heap := h'.push { cls := .type "list", data := .seq vs.toArray }, toks := tk }) : wpAny (model prog w) A (unpackItems (.ref l) 2 (some 1)) Q E s := by
  have hlt : l ≠ s.heap.objs.size := by obtain ⟨o, ho, _⟩ := hl; exact Nat.ne_of_lt (Heap.lt_size ho)
  unfold unpackItems
  refine wpAny_bind ?_
  unfold notIterableAtAll
  refine wpAny_bind (wpAny_specialOf hl.typeIs PyProof.Rows.slot_tuple_iter.lookup ?_)
  refine wpAny_pure ?_
  simp only [Bool.false_eq_true, if_false]
  refine wpAny_bind (wpAny_holding (PyProof.Rows.iter_tuple hl ?_))
  refine wpAny_bind (wpAny_holding (PyProof.Rows.draw_tuple hlt 1 0 _ _ ⟨_, Heap.get?_push_size _ rfl, rfl, rfl⟩ (hl.push _) (by simp) fun h₁ hit₁ hs₁ => ?_))
  have hl₁ : PyProof.Rows.IsTup h₁ l (v0 :: vs).toArray := (hl.push _).extBut hs₁.extBut hlt
  rw [Nat.zero_add] at hit₁
  have hit₁' := hit₁
  obtain ⟨oi, hoi, _⟩ := hit₁'
  have hl₁' := hl₁
  obtain ⟨ol, hol, _⟩ := hl₁'
  rw [List.drop_zero]
  have hfl : ((v0 :: vs).toArray.toList.take 1).length = 1 := by simp
  rw [if_neg (show ¬ (((v0 :: vs).toArray.toList.take 1).length < 1) by rw [hfl]; omega)]
  refine wpAny_bind (wpAny_holding (PySem.W.kun_collect (s := { s with heap := h₁ }) (T := "tuple_iterator") (.inr (.inr (.inr rfl))) (Walks.tuple (A := A.in1) hh s.heap.objs.size l hlt (v0 :: vs).toArray) (fun j u st => st.1.typeIs) (k := 1) (by simp) ⟨hit₁, hl₁⟩ (Heap.lt_size hoi) (Heap.lt_size hol) (fun h₂ tk hk => ?_) (by rw [sizeLine_eq]; simp; omega)))
  have hdr : (v0 :: vs).toArray.toList.drop 1 = vs := by simp
  rw [hdr]
  show wpAny _ _ (if vs.length < 2 - 1 - 1 then _ else _) _ _ _
  rw [if_neg (by omega)]
  show wpAny _ _ (newList (vs.take (vs.length - (2 - 1 - 1))) >>= fun d => pure ((v0 :: vs).toArray.toList.take 1 ++ [d] ++ vs.drop (vs.length - (2 - 1 - 1)))) _ _ _
  have e1 : vs.take (vs.length - (2 - 1 - 1)) = vs := by simp
  have e2 : vs.drop (vs.length - (2 - 1 - 1)) = [] := by simp
  rw [e1, e2]
  have he : ∀ b o, s.heap.get? b = some o → h₂.get? b = some o := fun b o e => hk b o (Nat.ne_of_lt (Heap.lt_size e)) (hs₁.extBut b o (Nat.ne_of_lt (Heap.lt_size e)) (Heap.get?_push_of_some _ e))
  refine wpAny_bind (wpAny_newList (s := { s with heap := h₂, toks := tk }) (wpAny_pure ?_) (by rw [sizeLine_eq]; omega))
  exact h h₂ tk he
end
def gStar (K : PySem.W.Frag) (i j : Nat) : TG := fun v σ H Q => ∃ a x xs, v = .ref a ∧ SqT K H a (x :: xs) ∧ xs.length + 1 ≤ 16384 ∧ ∀ D, H D = none → Q ((σ.set i (some x)).set j (some (.ref D))) (upd H D (.lst xs))
theorem pg_star {X : Cx} {i j : Nat} {x y : Str} {px py pz pos : Pos} {k : Nat} (hc : X.calm = true) (hN : X.N.Nodup) (hi : X.N[i]? = some x) (hx : Loc X.env.scope x) (hfx : X.fn x = true ∨ X.env.scope.names.lookup x = some .local) (hj : X.N[j]? = some y) (hy : Loc X.env.scope y) (hfy : X.fn y = true ∨ X.env.scope.names.lookup y = some .local) :
    PG X (.Tuple [.Name x px, .Starred (.Name y py) pz] k pos) (gStar X.K i j) := by
  refine ⟨fun pins s σ H v u Q I r hw => ?_⟩
  obtain ⟨a, x0, xs, e1, hq, hl, hw⟩ := hw
  subst e1
  cases r
  obtain ⟨its, rv, ht, hz⟩ := I.tuple hq
  cases rv with
  | cons r0 rr =>
    rename_i u0 us
    rw [PyProof.Rows.assign_Tuple]
    refine wpAny_bind (wpAny_standAt ?_)
    unfold unpack
    show wpAny _ _ (holding _ (unpackItems (.ref a) 2 (some 1)) >>= _) _ _ _
    refine wpAny_bind (wpAny_holding (unpack_starT ht (I.ok.hd hc) (by rw [← rr.length]; exact hl) fun h' tk hk => ?_))
    have I1 : L2.Inv X pins σ H { s with heap := h', toks := tk } := I.kept hk
    have hf : H h'.objs.size = none := I1.hok.fresh (Nat.le_refl _)
    have I2 : L2.Inv X pins σ (upd H h'.objs.size (.lst xs)) { s with heap := h'.push { cls := .type "list", data := .seq us.toArray }, toks := tk } :=
      I1.laid (t' := tk) (fun b o e => Heap.get?_push_of_some _ e) (Nat.le_refl _) ⟨by rw [sizeLine_eq]; omega, us, 0, rr, Heap.get?_push_size _ rfl⟩
    show wpAny _ _ (assignInOrder [assign (.Name x px) X.env, assign (.Name y py) X.env] [u0, .ref h'.objs.size]) _ _ _
    refine PyProof.Rows.assignInOrder_cons (wpAny_assign_Name (store_ok I2 hN hi hx r0 (fun s3 I3 => ?_) hfx))
    refine PyProof.Rows.assignInOrder_cons (wpAny_assign_Name (store_ok (v := .ref h'.objs.size) I3 hN hj hy rfl (fun s4 I4 => PyProof.Rows.assignInOrder_nil ?_) hfy))
    exact ⟨_, _, I4, hw _ hf⟩

/-! ### freezing ahead -/
theorem frz1_flag (i : Nat) (ρ : Env) {j : Nat} {d : D} (h : (frz1 i ρ)[j]? = some (some (true, d))) : i ≠ j ∧ ρ[j]? = some (some (true, d)) := by
  rw [frz1_get] at h
  by_cases e : i = j
  · subst e
    rw [if_pos rfl] at h
    split at h
    · cases h
    · rename_i x hx
      exact absurd h (hx true d)
  · rw [if_neg e] at h
    exact ⟨e, h⟩
theorem frz_flag : ∀ (is : List Nat) (ρ : Env) {j : Nat} {d : D}, (frz is ρ)[j]? = some (some (true, d)) → j ∉ is ∧ ρ[j]? = some (some (true, d))
  | [], _, _, _, h => ⟨by simp, h⟩
  | i :: is, ρ, j, d, h => by
    obtain ⟨h1, h2⟩ := frz_flag is (frz1 i ρ) h
    obtain ⟨h3, h4⟩ := frz1_flag i ρ h2
    exact ⟨by simp only [List.mem_cons, not_or]; exact ⟨fun z => h3 z.symm, h1⟩, h4⟩
theorem frz_Fz (is : List Nat) (ρ : Env) : Fz is (frz is ρ) := fun i hi d h => (frz_flag is ρ h).1 hi
theorem Sim.frz1s {T : Tb} {F0 H0 Hf H : Hp} {σ : L2.St} {ρ : Env} (s : Sim T F0 H0 Hf H σ ρ) (i : Nat) : ∃ Hf', Ex Hf Hf' ∧ Sim T F0 H0 Hf' H σ (frz1 i ρ) := by
  cases h : gt ρ i with
  | some d =>
    obtain ⟨v, Hf', _, h2, h3, _⟩ := s.freeze h
    exact ⟨Hf', h2, h3⟩
  | none =>
    have e : frz1 i ρ = ρ := by
      unfold gt at h
      unfold frz1
      split at h
      · cases h
      · rfl
    rw [e]; exact ⟨Hf, Ex.refl _, s⟩
theorem Sim.frzs {T : Tb} {F0 H0 H : Hp} {σ : L2.St} : ∀ (is : List Nat) {Hf : Hp} {ρ : Env}, Sim T F0 H0 Hf H σ ρ → ∃ Hf', Ex Hf Hf' ∧ Sim T F0 H0 Hf' H σ (frz is ρ)
  | [], Hf, ρ, s => ⟨Hf, Ex.refl _, s⟩
  | i :: is, Hf, ρ, s => by
    obtain ⟨Hf1, x1, s1⟩ := s.frz1s i
    obtain ⟨Hf2, x2, s2⟩ := Sim.frzs is s1
    exact ⟨Hf2, x1.trans x2, s2⟩

/-! ### judgements -/
def OutOk (T : Tb) (fz : Bool) (F0 H0 Hf : Hp) (Dn : Ends) : Out → Prop
  | .nx ρ' => ∀ Hf' H' σ', Sim T F0 H0 Hf' H' σ' ρ' → Ex Hf Hf' → Dn.nx σ' H'
  | .rt d => ∀ Hf' H' v, Gr F0 H0 Hf' H' → Res T (if fz then .fr else .vl) H0 Hf' H' v d → Dn.rt v H'
theorem OutOk.mono {T : Tb} {fz : Bool} {F0 H0 Hf Hf' : Hp} {Dn : Ends} {o : Out} (e : Ex Hf Hf') (h : OutOk T fz F0 H0 Hf Dn o) : OutOk T fz F0 H0 Hf' Dn o := by
  cases o with
  | nx ρ => exact fun Hf2 H2 σ2 s2 y2 => h Hf2 H2 σ2 s2 (e.trans y2)
  | rt d => exact h
def tS (T : Tb) (fz : Bool) (g : Env → Option Out) : TS := fun Dn σ H => ∃ F0 H0 Hf ρ o, Sim T F0 H0 Hf H σ ρ ∧ g ρ = some o ∧ OutOk T fz F0 H0 Hf Dn o
theorem Sim.g0 {T : Tb} {F0 H0 Hf H : Hp} {σ : L2.St} {ρ : Env} (s : Sim T F0 H0 Hf H σ ρ) : Gr F0 H0 Hf H := ⟨s.ef, s.e0, s.e1, s.sep⟩
section
variable {X : Cx} {T : Tb} {fz : Bool} {pos : Pos}
theorem s_nil : PSs X [] (tS T fz fun ρ => some (.nx ρ)) := PSsm pss_nil fun Dn σ H ⟨F0, H0, Hf, ρ, o, s, e, q⟩ => by
  cases e
  exact q Hf H σ s (Ex.refl _)
def vSeq (f g : Env → Option Out) : Env → Option Out := fun ρ => (f ρ).bind fun o => match o with
  | .nx ρ' => g ρ'
  | .rt d => some (.rt d)
theorem s_cons {st : Stmt} {rest : List Stmt} {f g : Env → Option Out} (h1 : PS X st (tS T fz f)) (h2 : PSs X rest (tS T fz g)) : PSs X (st :: rest) (tS T fz (vSeq f g)) := PSsm (pss_cons h1 h2) fun Dn σ H ⟨F0, H0, Hf, ρ, o, s, e, q⟩ => by
  obtain ⟨o1, e1, e2⟩ := ob e
  refine ⟨F0, H0, Hf, ρ, o1, s, e1, ?_⟩
  cases o1 with
  | nx ρ1 =>
    intro Hf' H' σ' s' y
    exact ⟨F0, H0, Hf', ρ1, o, s', e2, OutOk.mono y q⟩
  | rt d => cases e2; exact q
theorem s_never {st : Stmt} : PS X st (tS T fz fun _ => none) := ⟨fun _ _ _ _ _ _ ⟨_, _, _, _, _, _, e, _⟩ => nomatch e⟩
/-- name = e -/
theorem t_asg {k : Kd} {f : Env → Option D} {es : List Nat} {i : Nat} (hk : k ≠ .pk) {Dn : Ends} {σ : L2.St} {H : Hp} (h : tS T fz (fun ρ0 => let ρ := frz es ρ0; (f ρ).bind fun d => (setE ρ i (k == .fr) d).bind fun r => some (.nx r)) Dn σ H) : tAsg (tX T k f es) (gName i) Dn σ H := by
  obtain ⟨F0, H0, Hf, ρ0, o, s0, e, q⟩ := h
  obtain ⟨Hf1, x0, s⟩ := s0.frzs es
  obtain ⟨d, e1, e2⟩ := ob e
  obtain ⟨r, e3, e4⟩ := ob e2
  cases e4
  unfold setE at e3
  split at e3
  rotate_left
  · cases e3
  rename_i hi
  cases e3
  refine ⟨F0, H0, Hf1, _, d, s, frz_Fz es ρ0, e1, fun Hf' H' v g r => ?_⟩
  have hl : i < σ.length := by rw [s.len]; exact hi
  cases k with
  | pk => exact absurd rfl hk
  | vl => exact q Hf' H' _ ((s.gr g).set hl r) (x0.trans g.y)
  | fr =>
    obtain ⟨a, rfl, h1, h2, h3⟩ := r
    exact q Hf' H' _ ((s.gr g).setO hl h2 (fresh_back s.e0 h1) h3 (s.notOwned h1)) (x0.trans g.y)
theorem s_asg {k : Kd} {f : Env → Option D} {es : List Nat} {i : Nat} {x : Str} {e : Expr} {p' : Pos} (hk : k ≠ .pk) (hN : X.N.Nodup) (hi : X.N[i]? = some x) (hx : Loc X.env.scope x) (he : PE X e (tX T k f es)) (hs : swapsWith e (some (.Name x p')) pos.line X.env = pure false) (hf : X.fn x = true ∨ X.env.scope.names.lookup x = some .local) :
    PS X (.Assign [.Name x p'] e pos) (tS T fz (fun ρ0 => let ρ := frz es ρ0; (f ρ).bind fun d => (setE ρ i (k == .fr) d).bind fun r => some (.nx r))) := PSm (ps_set hN hi hx he hs hf) fun _ _ _ => t_asg hk
/-- a, b, .. = e -/
theorem s_asgT {f : Env → Option D} {es : List Nat} {is : List Nat} {tg e : Expr} (he : PE X e (tX T .vl f es)) (hg : PG X tg (tG T (.tp is))) (hs : swapsWithSole [tg] e pos.line X.env = pure false) (hw : swappedStores [tg] e X.env = pure none) (h1 : (assignEach [tg] X.env).map (·.2) = [assign tg X.env]) :
    PS X (.Assign [tg] e pos) (tS T fz (fun ρ0 => let ρ := frz es ρ0; (f ρ).bind fun d => (tupD d).bind fun l => (bindL is l ρ).bind fun r => some (.nx r))) := PSm (ps_asg he hg hs hw h1) fun Dn σ H ⟨F0, H0, Hf, ρ0, o, s0, e, q⟩ => by
  obtain ⟨Hf1, x0, s⟩ := s0.frzs es
  obtain ⟨d, e1, e2⟩ := ob e
  obtain ⟨l, e3, e4⟩ := ob e2
  obtain ⟨r, e5, e6⟩ := ob e4
  cases e6
  cases tup_map _ _ e3
  exact ⟨F0, H0, Hf1, _, _, s, frz_Fz es ρ0, e1, fun Hf' H' v g rr => ⟨F0, H0, Hf', _, _, _, s.gr g, rr, e5, fun σ' s' _ => q Hf' H' σ' s' (x0.trans g.y)⟩⟩
/-- a, *r = e -/
theorem s_star {f : Env → Option D} {es : List Nat} {i j : Nat} {tg e : Expr} (hK : X.K = T.K) (he : PE X e (tX T .vl f es)) (hg : PG X tg (gStar X.K i j)) (hs : swapsWithSole [tg] e pos.line X.env = pure false) (hw : swappedStores [tg] e X.env = pure none) (h1 : (assignEach [tg] X.env).map (·.2) = [assign tg X.env]) :
    PS X (.Assign [tg] e pos) (tS T fz (fun ρ0 => let ρ := frz es ρ0; (f ρ).bind fun d => (tupD d).bind fun l => match l with
      | x :: r => if l.length ≤ 16000 then (setE ρ i false x).bind fun ρ1 => (setE ρ1 j true (.lst r)).bind fun ρ2 => some (.nx ρ2) else none
      | [] => none)) := PSm (ps_asg he hg hs hw h1) fun Dn σ H ⟨F0, H0, Hf, ρ0, o, s0, e, q⟩ => by
  obtain ⟨Hf1, x0, s⟩ := s0.frzs es
  obtain ⟨d, e1, e2⟩ := ob e
  obtain ⟨l, e3, e4⟩ := ob e2
  cases tup_map _ _ e3
  cases l with
  | nil => cases e4
  | cons x r =>
    have e4 : (if (x :: r).length ≤ 16000 then (setE (frz es ρ0) i false x).bind fun ρ1 => (setE ρ1 j true (.lst r)).bind fun ρ2 => some (Out.nx ρ2) else none) = some o := e4
    split at e4
    rotate_left
    · cases e4
    rename_i hl
    obtain ⟨ρ1, e5, e6⟩ := ob e4
    obtain ⟨ρ2, e7, e8⟩ := ob e6
    cases e8
    unfold setE at e5 e7
    split at e5
    rotate_left
    · cases e5
    rename_i hi
    cases e5
    split at e7
    rotate_left
    · cases e7
    rename_i hj
    cases e7
    refine ⟨F0, H0, Hf1, _, _, s, frz_Fz es ρ0, e1, fun Hf' H' v g rr => ?_⟩
    obtain ⟨a, xs, rfl, h2, h3⟩ := rr
    obtain ⟨v0, vs, rfl, h4, h5⟩ := h3
    have s' := s.gr g
    refine ⟨a, v0, vs, rfl, by rw [hK]; exact ex_t g.z h2, ?_, fun D hD => ?_⟩
    · rw [h5.length]; simp only [List.length_cons] at hl; omega
    · have hi' : i < σ.length := by rw [s.len]; exact hi
      have s2 := ((s'.set hi' h4).new (o := .lst vs) hD)
      have hj' : j < (σ.set i (some v0)).length := by rw [List.length_set, s.len]; simpa using hj
      exact q Hf' _ _ (s2.setO hj' (fresh_back s'.e1 hD) (fresh_back s'.e0 hD) ⟨vs, upd_same, h5⟩ ((s'.set hi' h4).notOwned hD)) (x0.trans g.y)
/-- return e -/
theorem s_ret {k : Kd} {f : Env → Option D} {es : List Nat} {e : Expr} (hk : k = if fz then .fr else .vl) (he : PE X e (tX T k f es)) : PS X (.Return (some e) pos) (tS T fz (fun ρ0 => let ρ := frz es ρ0; (f ρ).bind fun d => some (.rt d))) :=
  PSm (ps_ret he) fun Dn σ H ⟨F0, H0, Hf, ρ0, o, s0, e, q⟩ => by
    obtain ⟨Hf1, x0, s⟩ := s0.frzs es
    obtain ⟨d, e1, e2⟩ := ob e
    cases e2
    subst hk
    exact ⟨F0, H0, Hf1, _, d, s, frz_Fz es ρ0, e1, fun Hf' H' v g r => q Hf' H' v (s.g0.trans g) (r.back s.e0)⟩
/-- return of an owned container -/
theorem s_retO {i : Nat} {x : Str} {p2 : Pos} (hN : X.N[i]? = some x) (hv : Vis X.env.scope x) (hd : (x == ("__debug__" : Str)) = false) (hcd : (x == ("__classdict__" : Str)) = false) : PS X (.Return (some (.Name x p2)) pos) (tS T true (fun ρ => match ρ[i]? with | some (some (true, d)) => some (.rt d) | _ => none)) :=
  PSm (ps_ret (pe_var hN hv hd hcd)) fun Dn σ H ⟨F0, H0, Hf, ρ, o, s, e, q⟩ => by
    replace e : (match ρ[i]? with | some (some (true, d)) => some (Out.rt d) | _ => none) = some o := e
    split at e
    · rename_i d hd
      cases e
      obtain ⟨a, h1, h2, h3, h4⟩ := s.ow i d hd
      exact ⟨_, h1, q Hf H _ s.g0 ⟨a, rfl, h3, h2, h4⟩⟩
    · cases e
/-- e; -/
theorem s_drop {k : Kd} {f : Env → Option D} {es : List Nat} {e : Expr} (he : PE X e (tX T k f es)) (hs : swapsWith e none pos.line X.env = pure false) : PS X (.Expr e pos) (tS T fz (fun ρ0 => let ρ := frz es ρ0; (f ρ).bind fun _ => some (.nx ρ))) :=
  PSm (ps_expr he hs) fun Dn σ H ⟨F0, H0, Hf, ρ0, o, s0, e, q⟩ => by
    obtain ⟨Hf1, x0, s⟩ := s0.frzs es
    obtain ⟨d, e1, e2⟩ := ob e
    cases e2
    exact ⟨F0, H0, Hf1, _, d, s, frz_Fz es ρ0, e1, fun Hf' H' v g r => q Hf' H' σ (s.gr g) (x0.trans g.y)⟩
/-- if -/
theorem s_if {fc : Env → Option D} {ec : List Nat} {fa fb : Env → Option Out} {c : Expr} {a b : List Stmt} (hc : PT X c (tXt T fc ec)) (ha : PSs X a (tS T fz fa)) (hb : PSs X b (tS T fz fb)) :
    PS X (.If c a b pos) (tS T fz (fun ρ0 => let ρ := frz ec ρ0; (fc ρ).bind fun x => (truD x).bind fun k => if k then fa ρ else fb ρ)) :=
  PSm (ps_if hc ha hb) fun Dn σ H ⟨F0, H0, Hf, ρ0, o, s0, e, q⟩ => by
    obtain ⟨Hf1, x0, s⟩ := s0.frzs ec
    obtain ⟨d, e1, e2⟩ := ob e
    obtain ⟨k, e3, e4⟩ := ob e2
    cases tru_map _ _ e3
    refine ⟨F0, H0, Hf1, _, k, s, frz_Fz ec ρ0, e1, fun Hf' H' g => ?_⟩
    have q' := OutOk.mono (x0.trans g.y) q
    cases k with
    | true => exact ⟨F0, H0, Hf', _, o, s.gr g, e4, q'⟩
    | false => exact ⟨F0, H0, Hf', _, o, s.gr g, e4, q'⟩
/-- for -/
theorem s_for {fi : Env → Option (List D)} {ei : List Nat} {fb : Env → Option Out} {tg : Tg} {tgx iter : Expr} {body : List Stmt} (hp : PassesOwn (model X.prog X.w) X.A X.env X.xe) (hc : X.calm = true) (hi : PI X tgx iter (tXi T fi ei)) (hg : PG X tgx (tG T tg)) (hb : PSs X body (tS T fz fb)) (hs : ∀ x, foldedSetIterable iter X.env x = pure x) :
    PS X (.For tgx iter body [] pos) (tS T fz (fun ρ0 => let ρ := frz ei ρ0; (fi ρ).bind fun l => goFor (fun d r => (bindT tg d r).bind fun r1 => fb r1) l ρ)) :=
  PSm (ps_for hp hc hi hg hb hs) fun Dn σ H ⟨F0, H0, Hf, ρ0, o, s0, e, q⟩ => by
    obtain ⟨Hf1, x0, s⟩ := s0.frzs ei
    obtain ⟨l, e1, e2⟩ := ob e
    refine ⟨F0, H0, Hf1, _, l, s, frz_Fz ei ρ0, e1, fun Hf2 H2 J g ok => ?_⟩
    refine ⟨fun i m σ' H' => m = l.length - i ∧ i ≤ l.length ∧ ∃ Hf' ρ', Sim T F0 H0 Hf' H' σ' ρ' ∧ Ex Hf2 Hf' ∧ goFor (fun d r => (bindT tg d r).bind fun r1 => fb r1) (l.drop i) ρ' = some o,
      ⟨l.length, by simp, Nat.zero_le _, Hf2, _, s.gr g, Ex.refl _, by simpa using e2⟩, ?_⟩
    rintro i m σ' H' ⟨rfl, hi', Hf', ρ', s', y, hgo⟩
    obtain ⟨ok1, ok2⟩ := ok Hf' H' y s'.e1
    by_cases hlt : i < l.length
    · obtain ⟨dI, hdI⟩ : ∃ d, l[i]? = some d := ⟨l[i], by simp [hlt]⟩
      obtain ⟨go, yld⟩ := ok1 i dI hdI
      have hdrop : l.drop i = dI :: l.drop (i + 1) := by
        rw [List.drop_eq_getElem_cons hlt]
        have : l[i] = dI := by simpa [hlt] using hdI
        rw [this]
      rw [hdrop] at hgo
      obtain ⟨o1, f1, f2⟩ := ob hgo
      obtain ⟨ρ1, f3, f4⟩ := ob f1
      refine .inr ⟨go, fun σ'' H'' => ∃ Hf' ρ', Sim T F0 H0 Hf' H'' σ'' ρ' ∧ Ex Hf2 Hf' ∧ goFor (fun d r => (bindT tg d r).bind fun r1 => fb r1) (l.drop (i + 1)) ρ' = some o,
        fun σ'' H'' h => ⟨l.length - (i + 1), by omega, rfl, hlt, h⟩, fun x H3 hy => ?_⟩
      obtain ⟨Hf3, g3, rx⟩ := yld x H3 hy
      refine ⟨F0, H0, Hf3, ρ', dI, ρ1, s'.gr g3, rx, f3, fun σ2 s2 _ => ?_⟩
      refine ⟨F0, H0, Hf3, ρ1, o1, s2, f4, ?_⟩
      cases o1 with
      | nx ρ2 =>
        intro Hf4 H4 σ4 s4 y4
        exact ⟨Hf4, ρ2, s4, (y.trans g3.y).trans y4, f2⟩
      | rt d => cases f2; exact q
    · have e : i = l.length := by omega
      subst e
      rw [List.drop_length] at hgo
      cases hgo
      exact .inl ⟨ok2, q Hf' H' σ' s' ((x0.trans g.y).trans y)⟩
end
end PD
end
section
set_option Elab.async false
set_option linter.all false
set_option maxRecDepth 100000
set_option maxHeartbeats 4000000
/-! PDI: lists and dicts that change, two names at once, dicts. -/
namespace PD
open PySem L2 Evl
section
variable {X : Cx} {T : Tb} {fz : Bool} {pos : Pos}
/-- x.append(e) -/
theorem s_app {f : Env → Option D} {es : List Nat} {i : Nat} {x : Str} {e : Expr} {px pa pc : Pos} (hN : X.N[i]? = some x) (hv : Vis X.env.scope x) (hd : (x == ("__debug__" : Str)) = false) (hcd : (x == ("__classdict__" : Str)) = false) (he : PE X e (tX T .vl f es)) (hst : starEach [e] X.env = [(false, eval e X.env)])
    (hline : (pa.endLine == pc.line) = true) :
    PS X (.Expr (.Call (.Attribute (.Name x px) "append" pa) [e] [] pc) pos) (tS T fz (fun ρ0 => let ρ := frz es ρ0; (f ρ).bind fun d => match ρ[i]? with
      | some (some (true, .lst l)) => if l.length < lim then some (.nx (ρ.set i (some (true, .lst (l ++ [d]))))) else none
      | _ => none)) :=
  PSm (ps_expr (pe_bm PySem.F.plainAttrs_list PySem.F.slot_list_append PySem.F.type_list_append mt_append (pe_var hN hv hd hcd) (pa_cons he pa_nil hst) rfl (by rw [hst]; rfl) hline hst rfl) rfl) fun Dn σ H ⟨F0, H0, Hf, ρ0, o, s0, e, q⟩ => by
    obtain ⟨Hf1, x0, s⟩ := s0.frzs es
    obtain ⟨d, e1, e2⟩ := ob e
    replace e2 : (match (frz es ρ0)[i]? with | some (some (true, .lst l)) => if l.length < lim then some (Out.nx ((frz es ρ0).set i (some (true, .lst (l ++ [d]))))) else none | _ => none) = some o := e2
    split at e2
    rotate_left
    · cases e2
    rename_i l hl
    split at e2
    rotate_left
    · cases e2
    rename_i hlen
    cases e2
    obtain ⟨a, h1, h2, h3, h4⟩ := s.ow i _ hl
    obtain ⟨xs, h5, h6⟩ := id h4
    refine ⟨_, h1, .inl ⟨rfl, xs, sq_of h5⟩, F0, H0, Hf1, _, d, s, frz_Fz es ρ0, e1, fun Hf' H' v g r => ?_⟩
    have h7 : H' a = some (.lst xs) := g.x _ _ h5
    refine ⟨a, xs, v, rfl, rfl, h7, ?_, ?_⟩
    · rw [h6.length]; exact Nat.lt_of_lt_of_le hlen (lim_ok (Nat.le_refl _))
    · refine q Hf' _ σ ((s.gr g).chg hl h1 ⟨xs ++ [v], upd_same, (h6.mono g.y).append (Rps.cons r Rps.nil)⟩) (x0.trans g.y)
/-- x.extend(e) -/
theorem s_ext {f : Env → Option D} {es : List Nat} {i : Nat} {x : Str} {e : Expr} {px pa pc : Pos} (hN : X.N[i]? = some x) (hv : Vis X.env.scope x) (hd : (x == ("__debug__" : Str)) = false) (hcd : (x == ("__classdict__" : Str)) = false) (he : PE X e (tX T .vl f es)) (hst : starEach [e] X.env = [(false, eval e X.env)])
    (hline : (pa.endLine == pc.line) = true) :
    PS X (.Expr (.Call (.Attribute (.Name x px) "extend" pa) [e] [] pc) pos) (tS T fz (fun ρ0 => let ρ := frz es ρ0; (f ρ).bind fun d => (lstD d).bind fun m => match ρ[i]? with
      | some (some (true, .lst l)) => if l.length + m.length ≤ lim then some (.nx (ρ.set i (some (true, .lst (l ++ m))))) else none
      | _ => none)) :=
  PSm (ps_expr (pe_bm PySem.F.plainAttrs_list PySem.F.slot_list_extend PySem.F.type_list_extend mt_extend (pe_var hN hv hd hcd) (pa_cons he pa_nil hst) rfl (by rw [hst]; rfl) hline hst rfl) rfl) fun Dn σ H ⟨F0, H0, Hf, ρ0, o, s0, e, q⟩ => by
    obtain ⟨Hf1, x0, s⟩ := s0.frzs es
    obtain ⟨d, e1, e2⟩ := ob e
    obtain ⟨m, e3, e2⟩ := ob e2
    cases lst_map _ _ e3
    replace e2 : (match (frz es ρ0)[i]? with | some (some (true, .lst l)) => if l.length + m.length ≤ lim then some (Out.nx ((frz es ρ0).set i (some (true, .lst (l ++ m))))) else none | _ => none) = some o := e2
    split at e2
    rotate_left
    · cases e2
    rename_i l hl
    split at e2
    rotate_left
    · cases e2
    rename_i hlen
    cases e2
    obtain ⟨a, h1, h2, h3, h4⟩ := s.ow i _ hl
    obtain ⟨xs, h5, h6⟩ := id h4
    refine ⟨_, h1, .inl ⟨rfl, xs, sq_of h5⟩, F0, H0, Hf1, _, _, s, frz_Fz es ρ0, e1, fun Hf' H' v g r => ?_⟩
    have h7 : H' a = some (.lst xs) := g.x _ _ h5
    obtain ⟨b, zs, rfl, h8, h9⟩ := r
    refine ⟨a, b, xs, zs, rfl, rfl, h7, g.z _ _ h8, ?_, ?_⟩
    · rw [h6.length, h9.length]; exact lim_ok hlen
    · exact q Hf' _ σ ((s.gr g).chg hl h1 ⟨xs ++ zs, upd_same, (h6.mono g.y).append h9⟩) (x0.trans g.y)
/-- x.reverse() -/
theorem s_rvs {i : Nat} {x : Str} {px pa pc : Pos} (hN : X.N[i]? = some x) (hv : Vis X.env.scope x) (hd : (x == ("__debug__" : Str)) = false) (hcd : (x == ("__classdict__" : Str)) = false) (hline : (pa.endLine == pc.line) = true) :
    PS X (.Expr (.Call (.Attribute (.Name x px) "reverse" pa) [] [] pc) pos) (tS T fz (fun ρ => match ρ[i]? with
      | some (some (true, .lst l)) => some (.nx (ρ.set i (some (true, .lst l.reverse))))
      | _ => none)) :=
  PSm (ps_expr (pe_bm0 PySem.F.plainAttrs_list PySem.F.slot_list_reverse PySem.F.type_list_reverse mt_reverse (pe_var hN hv hd hcd) rfl hline) rfl) fun Dn σ H ⟨F0, H0, Hf, ρ, o, s, e, q⟩ => by
    replace e : (match ρ[i]? with | some (some (true, .lst l)) => some (Out.nx (ρ.set i (some (true, .lst l.reverse)))) | _ => none) = some o := e
    split at e
    rotate_left
    · cases e
    rename_i l hl
    cases e
    obtain ⟨a, h1, h2, h3, h4⟩ := s.ow i _ hl
    obtain ⟨xs, h5, h6⟩ := id h4
    exact ⟨_, h1, .inl ⟨rfl, xs, sq_of h5⟩, a, xs, rfl, rfl, h5, q Hf _ σ (s.chg hl h1 ⟨xs.reverse, upd_same, h6.reverse⟩) (Ex.refl _)⟩

/-! ### dicts -/
theorem Rpd.append {H : Hp} : ∀ {l m : List (List Nat × D)} {kvs us : List (Key × V)}, Rpd T H kvs l → Rpd T H us m → Rpd T H (kvs ++ us) (l ++ m)
  | [], _, _, _, h, g => by cases (show _ = [] from h); exact g
  | (j, w) :: l, _, _, _, h, g => by
    obtain ⟨u, rr, rfl, h1, h2⟩ := h
    exact ⟨u, _, rfl, h1, Rpd.append h2 g⟩
theorem rpd_any {H : Hp} (k : List Nat) : ∀ {l : List (List Nat × D)} {kvs : List (Key × V)}, Rpd T H kvs l → (kvs.any fun kv => decide (kv.1 = (Sum.inr (sS k) : Key))) = l.any fun p => p.1 == k
  | [], _, h => by cases (show _ = [] from h); rfl
  | (j, w) :: l, _, h => by
    obtain ⟨u, rr, rfl, h1, h2⟩ := h
    rw [List.any_cons, List.any_cons, rpd_any k h2]
    congr 1
    by_cases e : j = k
    · subst e; simp
    · have hne : ¬ ((Sum.inr (sS j) : Key) = Sum.inr (sS k)) := fun z => e (sS_inj (Sum.inr.inj z))
      rw [decide_eq_false hne]
      simpa using e
theorem rpd_map {H : Hp} {k : List Nat} {v : V} {d : D} (r : Rp T H v d) : ∀ {l : List (List Nat × D)} {kvs : List (Key × V)}, Rpd T H kvs l → Rpd T H (kvs.map fun kv => if kv.1 = (Sum.inr (sS k) : Key) then (kv.1, v) else kv) (l.map fun p => if p.1 == k then (p.1, d) else p)
  | [], _, h => by cases (show _ = [] from h); rfl
  | (j, w) :: l, _, h => by
    obtain ⟨u, rr, rfl, h1, h2⟩ := h
    rw [List.map_cons, List.map_cons]
    have ih := rpd_map (k := k) r h2
    by_cases e : j = k
    · subst e
      rw [if_pos rfl, if_pos (by simp)]
      exact ⟨v, _, rfl, r, ih⟩
    · have hne : ¬ ((Sum.inr (sS j) : Key) = Sum.inr (sS k)) := fun z => e (sS_inj (Sum.inr.inj z))
      rw [if_neg hne, if_neg (by simpa using e)]
      exact ⟨u, _, rfl, h1, ih⟩
theorem put_rpd {H : Hp} {k : List Nat} {v : V} {d : D} (r : Rp T H v d) {l : List (List Nat × D)} {kvs : List (Key × V)} (h : Rpd T H kvs l) : Rpd T H (putK kvs (.inr (sS k)) v) (dputD l k d) := by
  unfold putK dputD
  rw [rpd_any k h]
  split
  · exact rpd_map r h
  · exact h.append ⟨v, [], rfl, r, rfl⟩
theorem putK_len {kvs : List (Key × V)} {k : Key} {v : V} : (putK kvs k v).length ≤ kvs.length + 1 := by
  unfold putK
  split
  · rw [List.length_map]; omega
  · simp
/-- d[k] = v -/
theorem s_dput {fk fv : Env → Option D} {ek ev : List Nat} {i : Nat} {x : Str} {k v : Expr} {px p' : Pos} (hu : X.A.units + 1 < cLine) (hN : X.N[i]? = some x) (hv : Vis X.env.scope x) (hd : (x == ("__debug__" : Str)) = false) (hcd : (x == ("__classdict__" : Str)) = false) (hk : PE X k (tX T .vl fk ek)) (he : PE X v (tX T .vl fv ev))
    (hs : swapsWith v (some (.Subscript (.Name x px) k p')) pos.line X.env = pure false) :
    PS X (.Assign [.Subscript (.Name x px) k p'] v pos) (tS T fz (fun ρ0 => let ρ := frz (ev ++ ek) ρ0; (fv ρ).bind fun d => (fk ρ).bind fun x => (strD x).bind fun s => match ρ[i]? with
      | some (some (true, .dic l)) => if l.length < lim then some (.nx (ρ.set i (some (true, .dic (dputD l s d))))) else none
      | _ => none)) :=
  PSm (ps_dput hu (pe_var hN hv hd hcd) hk he hs) fun Dn σ H ⟨F0, H0, Hf, ρ0, o, s0, e, q⟩ => by
    obtain ⟨Hf1, x0, s⟩ := s0.frzs (ev ++ ek)
    have fzz := frz_Fz (ev ++ ek) ρ0
    obtain ⟨d, e1, e2⟩ := ob e
    obtain ⟨dk, e3, e2⟩ := ob e2
    obtain ⟨ss, e4, e2⟩ := ob e2
    cases str_map _ _ e4
    replace e2 : (match (frz (ev ++ ek) ρ0)[i]? with | some (some (true, .dic l)) => if l.length < lim then some (Out.nx ((frz (ev ++ ek) ρ0).set i (some (true, .dic (dputD l ss d))))) else none | _ => none) = some o := e2
    split at e2
    rotate_left
    · cases e2
    rename_i l hl
    split at e2
    rotate_left
    · cases e2
    rename_i hlen
    cases e2
    obtain ⟨a, h1, h2, h3, h4⟩ := s.ow i _ hl
    obtain ⟨kvs, h5, h6⟩ := id h4
    refine ⟨F0, H0, Hf1, _, d, s, fzz.left, e1, fun Hf2 H2 v g2 r2 => ⟨_, h1, ?_⟩⟩
    refine ⟨F0, H0, Hf2, _, _, s.gr g2, fzz.right, e3, fun Hf3 H3 u g3 r3 => ?_⟩
    have g := g2.trans g3
    have h7 : H3 a = some (.dK kvs) := g.x _ _ h5
    have hu : u = kV (.inr (sS ss)) := r3
    subst hu
    refine ⟨a, _, rfl, DPut.k h7 ?_, ?_⟩
    · rw [h6.length]; exact Nat.lt_of_lt_of_le hlen (lim_ok (Nat.le_refl _))
    · exact q Hf3 _ σ ((s.gr g).chg hl h1 ⟨_, upd_same, put_rpd (Rp.mono g3.y r2) (h6.mono g.y)⟩) (x0.trans g.y)
/-- d.get(k, x) -/
theorem x_dget {o k z : Expr} {fo fk fx : Env → Option D} {eo ek ex : List Nat} {pa pc : Pos} (hu : X.A.units + 1 < cLine) (ho : PE X o (tX T .vl fo eo)) (hk : PE X k (tX T .pk fk ek)) (hx : PE X z (tX T .vl fx ex)) (m : M2 X o "get" pa k z pc) :
    PE X (.Call (.Attribute o "get" pa) [k, z] [] pc) (tX T .vl (fun ρ => (fo ρ).bind fun a => (fk ρ).bind fun b => (fx ρ).bind fun c => (dicD a).bind fun l => (strD b).bind fun s => some ((dgetD l s).getD c)) (eo ++ (ek ++ ex))) :=
  PEm (pe_dget2 hu ho hk hx m) fun σ H Q ⟨F0, H0, Hf, ρ, d, s, fz, e, q⟩ => by
    obtain ⟨da, e1, e⟩ := ob e
    obtain ⟨db, e2, e⟩ := ob e
    obtain ⟨dc, e3, e⟩ := ob e
    obtain ⟨l, e4, e⟩ := ob e
    obtain ⟨ss, e5, e⟩ := ob e
    cases e
    cases dic_map _ _ e4
    cases str_map _ _ e5
    refine ⟨F0, H0, Hf, ρ, _, s, fz.left, e1, fun Hf1 H1 v g1 r1 => ?_⟩
    obtain ⟨a, kvs, rfl, h1, h2⟩ := r1
    refine ⟨a, rfl, .inl ⟨kvs, .inl (g1.z _ _ h1)⟩, F0, H0, Hf1, ρ, _, s.gr g1, fz.right.left, e2, fun Hf2 H2 u g2 r2 => ?_⟩
    refine ⟨F0, H0, Hf2, ρ, _, s.gr (g1.trans g2), fz.right.right, e3, fun Hf3 H3 w g3 r3 => ?_⟩
    have hu : u = kV (.inr (sS ss)) := Rr.str r2
    subst hu
    refine ⟨valV kvs (.inr (sS ss)), DGet.k (g3.x _ _ (g2.x _ _ (g1.z _ _ h1))), ?_⟩
    refine q Hf3 H3 _ ((g1.trans g2).trans g3) ?_
    have h3 := dget_v ss h2
    cases h4 : dgetD l ss with
    | none => rw [h4] at h3; rw [h3]; exact r3
    | some d =>
      rw [h4] at h3
      obtain ⟨v, h5, h6⟩ := h3
      rw [h5]; exact Rp.mono (g2.trans g3).y h6
/-- d[k] -/
theorem x_didx {o k : Expr} {fo fk : Env → Option D} {eo ek : List Nat} (hu : X.A.units + 1 < cLine) (ho : PE X o (tX T .pk fo eo)) (hk : PE X k (tX T .pk fk ek)) (hs : NoSl k) :
    PE X (.Subscript o k pos) (tX T .vl (fun ρ => (fo ρ).bind fun a => (fk ρ).bind fun b => (dicD a).bind fun l => (strD b).bind fun s => dgetD l s) (eo ++ ek)) :=
  PEm (pe_dget hu ho hk hs) fun σ H Q ⟨F0, H0, Hf, ρ, d, s, fz, e, q⟩ => by
    obtain ⟨da, e1, z1⟩ := ob e
    obtain ⟨db, e2, z2⟩ := ob z1
    obtain ⟨l, e4, z3⟩ := ob z2
    obtain ⟨ss, e5, z4⟩ := ob z3
    clear e z1 z2 z3
    cases dic_map _ _ e4
    cases str_map _ _ e5
    refine ⟨F0, H0, Hf, ρ, _, s, fz.left, e1, fun Hf1 H1 v g1 r1 => ?_⟩
    refine ⟨F0, H0, Hf1, ρ, _, s.gr g1, fz.right, e2, fun Hf2 H2 u g2 r2 => ?_⟩
    have r1 := Rr.mono g2.y g2.x r1
    obtain ⟨a, kvs, rfl, h1, h2⟩ := Rr.dic g2.z r1
    have hu : u = kV (.inr (sS ss)) := Rr.str r2
    subst hu
    have h3 := dget_v ss h2
    rw [z4] at h3
    obtain ⟨v, h5, h6⟩ := h3
    refine ⟨a, v, rfl, ?_, q Hf2 H2 v (g1.trans g2) h6⟩
    rw [← h5]
    exact DGet.k h1
/-- {k: v, ..} with written keys -/
def prs (T : Tb) : List (List Nat) → List ((Env → Option D) × List Nat) → List (TE × TE)
  | k :: ks, p :: ps => (tC (.str (sS k)), tX T .vl p.1 p.2) :: prs T ks ps
  | _, _ => []
def evp : List ((Env → Option D) × List Nat) → Env → Option (List D)
  | [], _ => some []
  | p :: ps, ρ => (p.1 ρ).bind fun x => (evp ps ρ).bind fun r => some (x :: r)
def escp : List ((Env → Option D) × List Nat) → List Nat
  | [] => []
  | p :: ps => p.2 ++ escp ps
theorem t_prs {F0 H0 : Hp} {σ : L2.St} {ρ : Env} : ∀ (ks : List (List Nat)) (ps : List ((Env → Option D) × List Nat)) {Hf H : Hp} {ds : List D} {Q : List (V × V) → Hp → Prop}, Sim T F0 H0 Hf H σ ρ → Fz (escp ps) ρ → evp ps ρ = some ds → ks.length = ds.length →
    (∀ Hf' H' vs, Gr Hf H Hf' H' → Rps T Hf' vs ds → Q ((ks.zip vs).map fun p => (V.str (sS p.1), p.2)) H') → tPairs (prs T ks ps) σ H Q
  | [], [], Hf, H, ds, Q, s, fz, e, hl, q => by
    cases e
    exact q Hf H [] (Gr.refl s.e1) rfl
  | [], _ :: _, Hf, H, ds, Q, s, fz, e, hl, q => by
    obtain ⟨x, _, e⟩ := ob e
    obtain ⟨r, _, e⟩ := ob e
    cases e; simp at hl
  | _ :: _, [], Hf, H, ds, Q, s, fz, e, hl, q => by cases e; simp at hl
  | k :: ks, p :: ps, Hf, H, ds, Q, s, fz, e, hl, q => by
    obtain ⟨x, e1, e⟩ := ob e
    obtain ⟨r, e2, e⟩ := ob e
    cases e
    show tC (.str (sS k)) σ H fun y H1 => tX T .vl p.1 p.2 σ H1 fun z H2 => tPairs (prs T ks ps) σ H2 fun qs H3 => Q ((y, z) :: qs) H3
    refine ⟨F0, H0, Hf, ρ, x, s, fz.left, e1, fun Hf1 H1 v g1 r1 => ?_⟩
    refine t_prs ks ps (s.gr g1) fz.right e2 (by simpa using hl) fun Hf2 H2 vs g2 r2 => ?_
    exact q Hf2 H2 (v :: vs) (g1.trans g2) ⟨v, vs, rfl, Rp.mono g2.y r1, r2⟩
theorem merge_rpd {H : Hp} : ∀ (ks : List (List Nat)) {ds : List D} {vs : List V} {acc : List (List Nat × D)} {kvs : List (Key × V)}, Rps T H vs ds → Rpd T H kvs acc → Rpd T H (((ks.zip vs).map fun p => ((Sum.inr (sS p.1) : Key), p.2)).foldl (fun a p => putK a p.1 p.2) kvs) ((ks.zip ds).foldl (fun a p => dputD a p.1 p.2) acc)
  | [], _, _, _, _, _, h => h
  | _ :: _, [], _, _, _, r, h => by cases (show _ = [] from r); exact h
  | k :: ks, d :: ds, _, acc, kvs, r, h => by
    obtain ⟨v, vs, rfl, r1, r2⟩ := r
    exact merge_rpd ks r2 (put_rpd r1 h)
theorem x_dct {ks : List (List Nat)} {ps : List ((Env → Option D) × List Nat)} {keys : List (Option Expr)} {values : List Expr} (h : PPs X pos keys values (prs T ks ps)) (hall : (keys.all fun x => x.isSome) = true) (hl : keys.length = values.length) (h0 : keys ≠ []) (h15 : keys.length ≤ 15) :
    PE X (.Dict keys values pos) (tX T .fr (fun ρ => (evp ps ρ).bind fun ds => if ks.length = ds.length && ks.length ≤ 15 then some (.dic ((ks.zip ds).foldl (fun a p => dputD a p.1 p.2) [])) else none) (escp ps)) :=
  PEm (pe_disp h hall hl h0 h15) fun σ H Q ⟨F0, H0, Hf, ρ, d, s, fz, e, q⟩ => by
    obtain ⟨ds, e1, e⟩ := ob e
    split at e
    rotate_left
    · cases e
    rename_i hh
    cases e
    simp only [Bool.and_eq_true, decide_eq_true_eq] at hh
    intro p hp
    refine t_prs ks ps (s.new (o := .dK []) hp) fz e1 hh.1 fun Hf' H' vs g r => ?_
    have hlen : ks.length = vs.length := by rw [r.length]; exact hh.1
    refine ⟨g.x _ _ upd_same, (ks.zip vs).map fun p => ((Sum.inr (sS p.1) : Key), p.2), ?_, ?_, ?_⟩
    · rw [List.map_map]; rfl
    · rw [List.length_map, List.length_zip, ← hlen]; omega
    · have hfp : Hf p = none := fresh_back s.e1 hp
      have hf' : Hf' p = none := g.p p _ upd_same hfp
      have gg : Gr Hf H Hf' (upd H' p (.dK (mergeK [] ((ks.zip vs).map fun p => ((Sum.inr (sS p.1) : Key), p.2))))) := ((Gr.new s.e1 hp).trans g).mut hp hf'
      exact q Hf' _ (.ref p) gg ⟨p, rfl, hp, hf', _, upd_same, merge_rpd ks r rfl⟩
end
end PD
end
section
set_option Elab.async false
set_option linter.all false
set_option maxRecDepth 100000
set_option maxHeartbeats 4000000
/-! PDJ: comprehensions as expressions and in assignments, two names at once, objects, calls of what a dict holds. -/
namespace PD
open PySem L2 Evl
section
variable {X : Cx} {T : Tb} {fz : Bool} {pos : Pos}
abbrev Blk (X : Cx) (scope : Scope) (p : Cx → Prop) : Prop := ∀ (s : Shared) (H : Hp) (C : Addr) (cl : List (Str × Addr)) (fp : List Addr), p (X.blk s H scope (compEnvC scope cl C X.env) fp)
def vAsg (k : Kd) (f : Env → Option D) (es : List Nat) (i : Nat) : Env → Option Out := fun ρ0 => let ρ := frz es ρ0; (f ρ).bind fun d => (setE ρ i (k == .fr) d).bind fun r => some (.nx r)
section
variable {elt tgx iter tgx2 iter2 : Expr} {ifs ifs2 : List Expr} {scope : Scope} {own : List (Str × Nat)} {tg tg2 : Tg} {vs2 : List Nat} {fi fi2 : Env → Option (List D)} {ft ft2 : Env → Option Bool} {fe : Env → Option D} {ei et ei2 et2 ee : List Nat}
theorem x_lc (own : List (Str × Nat)) (hc : X.calm = true) (hN : X.N.Nodup) (hi : PI X tgx iter (tXj T fi ei)) (ok : blkC X.N X.env.scope scope own = true) (hv : ∀ i ∈ tg.own, i ∈ own.map (·.2)) (hg : Blk X scope fun Y => PG Y tgx (tG T tg)) (ht : Blk X scope fun Y => PTs Y ifs (tXb T ft et)) (he : Blk X scope fun Y => PE Y elt (tX T .vl fe ee))
    (hs : ∀ x, foldedSetIterable iter X.env x = pure x) : PE X (.ListComp elt [⟨tgx, iter, ifs, 0⟩] scope pos) (tX T .fr (vLc fi tg (own.map (·.2)) ft fe) (ei ++ out (own.map (·.2)) (et ++ ee))) :=
  PEm (pe_lc hc hN hi (blkOk_by ok) hg ht he hs) fun _ _ _ => t_lc hv
theorem s_lc (own : List (Str × Nat)) {i : Nat} {y : Str} {py : Pos} {spos : Pos} (hc : X.calm = true) (hN : X.N.Nodup) (hy : X.N[i]? = some y) (hyl : X.env.scope.names.lookup y = some .local) (hsw : swapsWith (.ListComp elt [⟨tgx, iter, ifs, 0⟩] scope pos) (some (.Name y py)) spos.line X.env = pure true)
    (hi : PI X tgx iter (tXj T fi ei)) (ok : blkC X.N X.env.scope scope own = true) (hv : ∀ i ∈ tg.own, i ∈ own.map (·.2)) (hg : Blk X scope fun Y => PG Y tgx (tG T tg)) (ht : Blk X scope fun Y => PTs Y ifs (tXb T ft et)) (he : Blk X scope fun Y => PE Y elt (tX T .vl fe ee))
    (hs : ∀ x, foldedSetIterable iter X.env x = pure x) : PS X (.Assign [.Name y py] (.ListComp elt [⟨tgx, iter, ifs, 0⟩] scope pos) spos) (tS T fz (vAsg .fr (vLc fi tg (own.map (·.2)) ft fe) (ei ++ out (own.map (·.2)) (et ++ ee)) i)) :=
  PSm (ps_setLc hc hN hy hyl hsw hi (blkOk_by ok) hg ht he hs) fun _ _ _ h => t_lc hv (t_asg (k := .fr) (by decide) h)
theorem x_lc2 (own : List (Str × Nat)) (hc : X.calm = true) (hN : X.N.Nodup) (hi : PI X tgx iter (tXj T fi ei)) (ok : blkC X.N X.env.scope scope own = true) (hv : ∀ i ∈ tg.own, i ∈ own.map (·.2)) (hv1 : ∀ i ∈ tg2.own, i ∈ vs2) (hv2 : ∀ i ∈ vs2, i ∈ own.map (·.2)) (hg : Blk X scope fun Y => PG Y tgx (tG T tg)) (ht : Blk X scope fun Y => PTs Y ifs (tXb T ft et))
    (hi2 : Blk X scope fun Y => PI Y tgx2 iter2 (tXi T fi2 ei2)) (hg2 : Blk X scope fun Y => PG Y tgx2 (tG T tg2)) (ht2 : Blk X scope fun Y => PTs Y ifs2 (tXb T ft2 et2)) (he : Blk X scope fun Y => PE Y elt (tX T .vl fe ee))
    (hs : ∀ x, foldedSetIterable iter X.env x = pure x) (hs2 : ∀ env x, foldedSetIterable iter2 env x = pure x) : PE X (.ListComp elt [⟨tgx, iter, ifs, 0⟩, ⟨tgx2, iter2, ifs2, 0⟩] scope pos) (tX T .fr (vLc2 fi tg (own.map (·.2)) ft fi2 tg2 vs2 ft2 fe) (ei ++ out (own.map (·.2)) (et ++ (ei2 ++ (et2 ++ ee))))) :=
  PEm (pe_lc2 hc hN hi (blkOk_by ok) hv2 hg ht hi2 hg2 ht2 he hs hs2) fun _ _ _ => t_lc2 hv hv1
theorem s_lc2 (own : List (Str × Nat)) {i : Nat} {y : Str} {py : Pos} {spos : Pos} (hc : X.calm = true) (hN : X.N.Nodup) (hy : X.N[i]? = some y) (hyl : X.env.scope.names.lookup y = some .local) (hsw : swapsWith (.ListComp elt [⟨tgx, iter, ifs, 0⟩, ⟨tgx2, iter2, ifs2, 0⟩] scope pos) (some (.Name y py)) spos.line X.env = pure true)
    (hi : PI X tgx iter (tXj T fi ei)) (ok : blkC X.N X.env.scope scope own = true) (hv : ∀ i ∈ tg.own, i ∈ own.map (·.2)) (hv1 : ∀ i ∈ tg2.own, i ∈ vs2) (hv2 : ∀ i ∈ vs2, i ∈ own.map (·.2)) (hg : Blk X scope fun Y => PG Y tgx (tG T tg)) (ht : Blk X scope fun Y => PTs Y ifs (tXb T ft et))
    (hi2 : Blk X scope fun Y => PI Y tgx2 iter2 (tXi T fi2 ei2)) (hg2 : Blk X scope fun Y => PG Y tgx2 (tG T tg2)) (ht2 : Blk X scope fun Y => PTs Y ifs2 (tXb T ft2 et2)) (he : Blk X scope fun Y => PE Y elt (tX T .vl fe ee))
    (hs : ∀ x, foldedSetIterable iter X.env x = pure x) (hs2 : ∀ env x, foldedSetIterable iter2 env x = pure x) : PS X (.Assign [.Name y py] (.ListComp elt [⟨tgx, iter, ifs, 0⟩, ⟨tgx2, iter2, ifs2, 0⟩] scope pos) spos) (tS T fz (vAsg .fr (vLc2 fi tg (own.map (·.2)) ft fi2 tg2 vs2 ft2 fe) (ei ++ out (own.map (·.2)) (et ++ (ei2 ++ (et2 ++ ee)))) i)) :=
  PSm (ps_setLc2 hc hN hy hyl hsw hi (blkOk_by ok) hv2 hg ht hi2 hg2 ht2 he hs hs2) fun _ _ _ h => t_lc2 hv hv1 (t_asg (k := .fr) (by decide) h)
end

/-! ### two names at once -/
theorem Sim.setK {F0 H0 Hf H Hf' H' : Hp} {σ : L2.St} {ρ : Env} {k : Kd} {v : V} {d : D} {i : Nat} (s : Sim T F0 H0 Hf H σ ρ) (g : Gr Hf H Hf' H') (r : Res T k H Hf' H' v d) (hk : k ≠ .pk) (hi : i < ρ.length) : Sim T F0 H0 Hf' H' (σ.set i (some v)) (ρ.set i (some (k == .fr, d))) := by
  have hl : i < σ.length := by rw [s.len]; exact hi
  cases k with
  | pk => exact absurd rfl hk
  | vl => exact (s.gr g).set hl r
  | fr =>
    obtain ⟨a, rfl, h1, h2, h3⟩ := r
    exact (s.gr g).setO hl h2 (fresh_back s.e0 h1) h3 (s.notOwned h1)
def vPar (k1 : Kd) (f1 : Env → Option D) (k2 : Kd) (f2 : Env → Option D) (es : List Nat) (i j : Nat) : Env → Option Out := fun ρ0 => let ρ := frz es ρ0; (f1 ρ).bind fun d1 => (f2 ρ).bind fun d2 => (setE ρ i (k1 == .fr) d1).bind fun r1 => (setE r1 j (k2 == .fr) d2).bind fun r => some (.nx r)
theorem s_par {i j : Nat} {x y : Str} {a b : Expr} {px py pt : Pos} {kt k2 pt2} {k1 k3 : Kd} {f1 f2 : Env → Option D} {e1 e2 : List Nat} (hk1 : k1 ≠ .pk) (hk3 : k3 ≠ .pk) (hc : X.calm = true) (hN : X.N.Nodup) (hi : X.N[i]? = some x) (hj : X.N[j]? = some y) (hij : i ≠ j)
    (hx : X.env.scope.names.lookup x = some .local) (hy : X.env.scope.names.lookup y = some .local) (ha : PE X a (tX T k1 f1 e1)) (hb : PE X b (tX T k3 f2 e2)) (hst : starEach [a, b] X.env = [(false, eval a X.env), (false, eval b X.env)]) (hst2 : starEach [b] X.env = [(false, eval b X.env)])
    (hw : swappedStores [.Tuple [.Name x px, .Name y py] kt pt] (.Tuple [a, b] k2 pt2) X.env = pure (some [x, y]))
    (hs : swapsWithSole [.Tuple [.Name x px, .Name y py] kt pt] (.Tuple [a, b] k2 pt2) pos.line X.env = pure false) :
    PS X (.Assign [.Tuple [.Name x px, .Name y py] kt pt] (.Tuple [a, b] k2 pt2) pos) (tS T fz (vPar k1 f1 k3 f2 (e1 ++ e2) i j)) :=
  PSm (ps_par hc hN hi hj hij hx hy (pa_cons ha (pa_cons hb pa_nil hst2) (by rw [hst, hst2])) hw hs) fun Dn σ H ⟨F0, H0, Hf, ρ0, o, s0, e, q⟩ => by
    obtain ⟨Hf1, x0, s⟩ := s0.frzs (e1 ++ e2)
    have fzz := frz_Fz (e1 ++ e2) ρ0
    obtain ⟨d1, q1, z1⟩ := ob e
    obtain ⟨d2, q2, z2⟩ := ob z1
    obtain ⟨r1, q3, z3⟩ := ob z2
    obtain ⟨r2, q4, z4⟩ := ob z3
    clear e z1 z2 z3
    cases z4
    unfold setE at q3 q4
    split at q3
    rotate_left
    · cases q3
    rename_i hi'
    cases q3
    split at q4
    rotate_left
    · cases q4
    rename_i hj'
    cases q4
    refine ⟨F0, H0, Hf1, _, d1, s, fzz.left, q1, fun Hf2 H2 v g2 r2 => ?_⟩
    refine ⟨F0, H0, Hf2, _, d2, s.gr g2, fzz.right, q2, fun Hf3 H3 u g3 r3 => ?_⟩
    exact ⟨v, u, rfl, q Hf3 H3 _ ((s.setK g2 r2 hk1 hi').setK g3 r3 hk3 hj') ((x0.trans g2.y).trans g3.y)⟩

/-! ### names from a list -/
def gLst (K : PySem.W.Frag) (n : Nat) (t : TGs) : TG := fun v σ H Q => ∃ a xs, v = .ref a ∧ SqL K H a xs ∧ xs.length = n ∧ t xs σ H Q
theorem pg_lst {es : List Expr} {k : Nat} {t : TGs} {n : Nat} (hc : X.calm = true) (h : PGs X es t) (hn : (assignEach es X.env).length = n) (hst : (assignEach es X.env).findIdx? (·.1) = none) : PG X (.Tuple es k pos) (gLst X.K n t) := by
  refine ⟨fun pins s σ H v u Q I r ⟨a, xs, e1, hq, hl, hw⟩ => ?_⟩
  subst e1
  cases r
  obtain ⟨its, rv, ht, hz⟩ := I.list hq
  have hlen : (assignEach es X.env).length = its.toArray.size := by rw [hn, ← hl, rv.length, List.size_toArray]
  rw [PyProof.Rows.assign_Tuple]
  refine wpAny_bind (wpAny_standAt ?_)
  unfold unpack
  rw [hlen, hst]
  refine wpAny_bind (wpAny_holding (PySem.W.kun_itemsOf (I.ok.hd hc) ht.isList fun h' he => ?_))
  have I1 : L2.Inv X pins σ H { s with heap := h' } := I.kept (t' := s.toks) fun b o q => he b o (Nat.ne_of_lt (Heap.lt_size q)) q
  exact h.run pins _ σ H xs _ Q I1 (by simpa using rv) hw
theorem s_asgL {f : Env → Option D} {es : List Nat} {is : List Nat} {elts : List Expr} {k : Nat} {tpos : Pos} {e : Expr} (hK : X.K = T.K) (hc : X.calm = true) (he : PE X e (tX T .vl f es)) (hg : PGs X elts (tGs T is)) (hn : (assignEach elts X.env).length = is.length) (hst : (assignEach elts X.env).findIdx? (·.1) = none)
    (hs : swapsWithSole [.Tuple elts k tpos] e pos.line X.env = pure false) (hw : swappedStores [.Tuple elts k tpos] e X.env = pure none) (h1 : (assignEach [.Tuple elts k tpos] X.env).map (·.2) = [assign (.Tuple elts k tpos) X.env]) :
    PS X (.Assign [.Tuple elts k tpos] e pos) (tS T fz (fun ρ0 => let ρ := frz es ρ0; (f ρ).bind fun d => (lstD d).bind fun l => (bindL is l ρ).bind fun r => some (.nx r))) := PSm (ps_asg he (pg_lst hc hg hn hst) hs hw h1) fun Dn σ H ⟨F0, H0, Hf, ρ0, o, s0, e, q⟩ => by
  obtain ⟨Hf1, x0, s⟩ := s0.frzs es
  obtain ⟨d, e1, e2⟩ := ob e
  obtain ⟨l, e3, e4⟩ := ob e2
  obtain ⟨r, e5, e6⟩ := ob e4
  cases e6
  cases lst_map _ _ e3
  refine ⟨F0, H0, Hf1, _, _, s, frz_Fz es ρ0, e1, fun Hf' H' v g rr => ?_⟩
  obtain ⟨a, xs, rfl, h1, h2⟩ := rr
  refine ⟨a, xs, rfl, sq_of (g.z _ _ h1), ?_, F0, H0, Hf', _, _, _, s.gr g, h2, e5, fun σ' s' _ => q Hf' H' σ' s' (x0.trans g.y)⟩
  rw [h2.length]; exact bindL_len e5

/-! ### the keys of an owned dict -/
theorem Sim.lock {F0 H0 Hf H : Hp} {σ : L2.St} {ρ : Env} {i : Nat} {a : Addr} {d : D} {o : HO} (s : Sim T F0 H0 Hf H σ ρ) (hi : ρ[i]? = some (some (true, d))) (ha : σ[i]? = some (some (.ref a))) : Sim T F0 H0 Hf (upd H a o) σ (ρ.set i none) := by
  have hr : i < ρ.length := (List.getElem?_eq_some_iff.mp hi).1
  obtain ⟨a', h1, h2, h3, h4⟩ := s.ow i d hi
  rw [ha] at h1; cases h1
  have back : ∀ (j : Nat) (x : Bool × D), (ρ.set i none)[j]? = some (some x) → i ≠ j ∧ ρ[j]? = some (some x) := fun j x h => by
    by_cases ij : i = j
    · subst ij; rw [List.getElem?_set_self hr] at h; cases h
    · rw [List.getElem?_set_ne ij] at h; exact ⟨ij, h⟩
  refine ⟨fun b u q => ?_, s.ef, fun b u q => ?_, s.sep, by simp [s.len], fun j dj hj => ?_, fun j dj hj => ?_, fun j k d1 d2 c hjk hj hk g1 g2 => ?_⟩
  · rw [upd_ne (ne_of_none q h2)]; exact s.e1 b u q
  · rw [upd_ne (ne_of_none q h3)]; exact s.e0 b u q
  · exact s.fr j dj (back j _ hj).2
  · obtain ⟨ij, hj⟩ := back j _ hj
    obtain ⟨c, g1, g2, g3, g4⟩ := s.ow j dj hj
    have hc : c ≠ a := fun z => s.dj i j d dj a ij hi hj ha (by rw [← z]; exact g1)
    refine ⟨c, g1, g2, g3, ?_⟩
    cases dj <;> first
      | exact g4.elim
      | (obtain ⟨xs, q1, q2⟩ := g4; exact ⟨xs, by rw [upd_ne hc]; exact q1, q2⟩)
  · exact s.dj j k d1 d2 c hjk (back j _ hj).2 (back k _ hk).2 g1 g2
theorem rpd_key {H : Hp} : ∀ {l : List (List Nat × D)} {kvs : List (Key × V)} {i : Nat} {p : List Nat × D}, Rpd T H kvs l → l[i]? = some p → ∃ v, kvs[i]? = some (.inr (sS p.1), v)
  | [], _, _, _, _, e => by simp at e
  | (k, d) :: l, _, 0, _, h, e => by
    obtain ⟨u, rr, rfl, h1, h2⟩ := h
    simp at e; subst e
    exact ⟨u, rfl⟩
  | (k, d) :: l, _, i + 1, _, h, e => by
    obtain ⟨u, rr, rfl, h1, h2⟩ := h
    obtain ⟨v, h3⟩ := rpd_key (i := i) h2 (by simpa using e)
    exact ⟨v, by simpa using h3⟩
def vLcd (i : Nat) (tg : Tg) (vs : List Nat) (ft : Env → Option Bool) (fe : Env → Option D) : Env → Option D := fun ρ => match ρ[i]? with
  | some (some (true, .dic m)) => (goLc (fLc tg vs ft fe (ρ.set i none)) (m.map fun p => .str p.1)).bind mkL
  | _ => none
theorem x_lcd {elt tgx : Expr} {ifs : List Expr} {scope : Scope} {tg : Tg} {ft : Env → Option Bool} {fe : Env → Option D} {et ee : List Nat} {i : Nat} {x : Str} {px : Pos} (own : List (Str × Nat)) (hc : X.calm = true) (hN : X.N.Nodup) (hx : X.N[i]? = some x) (hvx : Vis X.env.scope x) (hd : (x == ("__debug__" : Str)) = false) (hcd : (x == ("__classdict__" : Str)) = false)
    (ok : blkC X.N X.env.scope scope own = true) (hv : ∀ i ∈ tg.own, i ∈ own.map (·.2)) (hg : Blk X scope fun Y => PG Y tgx (tG T tg)) (ht : Blk X scope fun Y => PTs Y ifs (tXb T ft et)) (he : Blk X scope fun Y => PE Y elt (tX T .vl fe ee)) :
    PE X (.ListComp elt [⟨tgx, .Name x px, ifs, 0⟩] scope pos) (tX T .fr (vLcd i tg (own.map (·.2)) ft fe) (out (own.map (·.2)) (et ++ ee))) :=
  PEm (pe_lock (pe_lc hc hN (pi_keys (pe_var hx hvx hd hcd)) (blkOk_by ok) hg ht he (fun _ => rfl))) fun σ H Q ⟨F0, H0, Hf, ρ, d, s, fz, e, q⟩ => by
    replace e : (match ρ[i]? with | some (some (true, .dic m)) => (goLc (fLc tg (own.map (·.2)) ft fe (ρ.set i none)) (m.map fun p => .str p.1)).bind mkL | _ => none) = some d := e
    split at e
    rotate_left
    · cases e
    rename_i m hm
    obtain ⟨r, e2, e3⟩ := ob e
    unfold mkL at e3
    split at e3
    rotate_left
    · cases e3
    rename_i hl
    cases e3
    obtain ⟨a, h1, h2, h3, h4⟩ := s.ow i _ hm
    obtain ⟨kvs, h5, h6⟩ := id h4
    refine ⟨a, .dK kvs, h5, trivial, fun od => ⟨.ref a, h1, a, od, rfl, .inl ⟨kvs, upd_same, fun D hD => ?_⟩⟩⟩
    have sl : Sim T F0 H0 Hf (upd H a (.frz od (.dK kvs))) σ (ρ.set i none) := s.lock hm h1
    have haD : a ≠ D := fun z => by rw [← z, upd_same] at hD; cases hD
    have hHD : H D = none := by rw [upd_ne (Ne.symm haD)] at hD; exact hD
    have hfD : Hf D = none := fresh_back sl.e1 hD
    have fz' : Fz (out (own.map (·.2)) (et ++ ee)) (ρ.set i none) := fun j hj d' z => by
      by_cases ij : i = j
      · subst ij
        rw [List.getElem?_set_self (List.getElem?_eq_some_iff.mp hm).1] at z; cases z
      · rw [List.getElem?_set_ne ij] at z; exact fz j hj d' z
    refine lc_turns (P := PLst T) (okd := fun _ => True) (pre := []) (K := fun y H4 Nx => ∃ acc, H4 D = some (.lst acc) ∧ acc.length < sizeLine ∧ Nx (upd H4 D (.lst (acc ++ [y])))) PLst.mono (fun Hf4 H4 o dn dy y Nx _ g1 g2 g3 g4 _ g6 => ?_) sl (fun Hf2 H2 gd => ?_) fz'.out.left fz'.out.right hv e2 (fun _ _ => trivial) (fresh_back sl.e0 hD) (sl.notOwned hD) (.of (Gr.new sl.e1 hD) hfD) upd_same ⟨[], rfl, Rps.nil⟩ fun Hf' H' o g g1 g2 => ?_
    · obtain ⟨acc, rfl, g7⟩ := g2
      refine ⟨acc, g1, ?_, g6 _ ⟨_, rfl, g7.append (Rps.cons g4 Rps.nil)⟩⟩
      rw [g7.length]
      simp only [List.length_nil, Nat.zero_add] at g3
      exact Nat.lt_of_lt_of_le g3 (lim_ok hl)
    · have hz : H2 a = some (.frz od (.dK kvs)) := gd.x _ _ haD upd_same
      refine ⟨fun j dj hj => ?_, hz, ?_⟩
      · rw [List.getElem?_map] at hj
        cases hp : m[j]? with
        | none => rw [hp] at hj; cases hj
        | some p =>
          rw [hp] at hj
          cases hj
          obtain ⟨v, h7⟩ := rpd_key h6 hp
          refine ⟨⟨hz, (List.getElem?_eq_some_iff.mp h7).1⟩, fun x H3 ⟨w1, k, v', w2, w3⟩ => ?_⟩
          subst w1
          rw [h7] at w2; cases w2
          exact ⟨Hf2, Gr.refl gd.z, w3⟩
      · rw [List.length_map, ← h6.length]; exact Nat.le_refl _
    · obtain ⟨acc, rfl, g3⟩ := g2
      have hz : H' a = some (.frz od (.dK kvs)) := g.x _ _ haD upd_same
      have hfa : Hf' a = none := g.p a _ haD upd_same h2
      refine ⟨hz, q Hf' _ (.ref D) ⟨g.y, fun b o w => ?_, fun b o w => ?_, fun b o w1 w2 => ?_⟩ ⟨D, rfl, hHD, g.d, acc, ?_, g3⟩⟩
      · by_cases eb : b = a
        · subst eb; rw [h5] at w; cases w; exact upd_same
        · rw [upd_ne eb]; exact g.x b o (ne_of_none w hHD) (by rw [upd_ne eb]; exact w)
      · rw [upd_ne (ne_of_none w hfa)]; exact g.z b o w
      · by_cases eb : b = a
        · subst eb; exact hfa
        · exact g.p b o (ne_of_none w1 hHD) (by rw [upd_ne eb]; exact w1) w2
      · rw [upd_ne (Ne.symm haD)]; exact g1

/-! ### xs[::-1] -/
theorem x_rev {e : Expr} {f : Env → Option D} {es : List Nat} {k : Nat} {p1 p2 p3 : Pos} (hK : X.K = T.K) (he : PE X e (tX T .pk f es)) :
    PE X (.Subscript e (.Slice none none (some (.UnaryOp .USub (.Constant (.int 1) k p1) p2)) p3) pos) (tX T .fr (fun ρ => (f ρ).bind fun x => (lstD x).bind fun l => mkL l.reverse) es) :=
  PEm (pe_revL he) fun σ H Q ⟨F0, H0, Hf, ρ, d, s, fz, e, q⟩ => by
    obtain ⟨dx, e1, e2⟩ := ob e
    obtain ⟨l, e3, e4⟩ := ob e2
    cases lst_map _ _ e3
    unfold mkL at e4
    split at e4
    rotate_left
    · cases e4
    cases e4
    refine ⟨F0, H0, Hf, ρ, _, s, fz, e1, fun Hf1 H1 v g r => ?_⟩
    obtain ⟨a, xs, rfl, h1, h2⟩ := Rr.lst g.z r
    refine ⟨a, xs, rfl, sq_of h1, fun p hp => ?_⟩
    exact q Hf1 _ (.ref p) (g.trans (Gr.new g.z hp)) ⟨p, rfl, fresh_back g.x hp, fresh_back g.z hp, _, upd_same, h2.reverse⟩

/-! ### a def as a value, a call of what an expression gives -/
theorem x_fnv {i : Nat} {a : Addr} {x : Str} (hg : Gl X x) (hm : X.mg x = some (.ref a)) (ht : T.fn i = some a) (hd : (x == ("__debug__" : Str)) = false) : PE X (.Name x pos) (tX T .vl (fun _ => some (.fnv i)) []) :=
  x_const (pe_glob hg hm (v := .ref a) rfl hd) fun H => ⟨a, rfl, ht⟩
theorem pe_callV {lv : Nat} {R : Addr → Nat → Prop} {sp : Nat → Sp} {fe e : Expr} {es : List Expr} {tf : TE} {t : TA} (hf : PE X fe tf) (A : ∀ a i, R a i → ∃ fd ps, FnOk X.prog X.w X.K X.mg X.base L2.CX0 lv a fd ps (sp i) ∧ PySem.W.keepIn X.K (.ref a) = true ∧ Binds X.K fd ps []) (hr : Room lv X.A) (ha : PA X (e :: es) t)
    (ht : eval (.Call fe (e :: es) [] pos) X.env = (do callWith pos (← eval fe X.env) [] (backTo pos (starEach (e :: es) X.env)) (backToKw pos (keywordEach [] X.env))))
    (he : starEach (e :: es) X.env = (false, eval e X.env) :: starEach es X.env) (hpl : (backTo pos (starEach es X.env)).any (·.1) = false) : PE X (.Call fe (e :: es) [] pos) (fun σ H Q => tf σ H fun y H1 => ∃ a i, y = V.ref a ∧ R a i ∧ t σ H1 fun vs H2 => sp i vs H2 Q L2.E0) := by
  refine ⟨fun pins s σ H Q I h => ?_⟩
  refine PyProof.Rows.Call_ (thn (hf.run pins s σ H _ I h) fun u s1 ⟨y, H1, I1, ry, a, i, ey, hS, q⟩ => ?_) ht
  subst ey
  obtain rfl : u = Value.ref a := ry
  obtain ⟨fd, ps, F, hk, hb⟩ := A a i hS
  refine PySem.W.callWith_K (h₀ := X.base) I.ok.mod.kin hk (thn (ha.run pos pins s1 σ H1 _ I1 q) fun us s2 ⟨vs, H2, I2, r, q2⟩ => ⟨I2.kIn, ?_⟩) he hpl
  exact run_fn (dvs := []) F hr hb .nil (E := L2.E0) pass0 I2 r (by rw [List.append_nil]; exact q2)
theorem x_callV {lv : Nat} {C : Nat → List D → Option D} {fe e : Expr} {es : List Expr} {ff : Env → Option D} {g : Env → Option (List D)} {ef b : List Nat} (hf : PE X fe (tX T .vl ff ef)) (A : ∀ a i, T.fn i = some a → ∃ fd ps, FnOk X.prog X.w X.K X.mg X.base L2.CX0 lv a fd ps (spF T (C i) false) ∧ PySem.W.keepIn X.K (.ref a) = true ∧ Binds X.K fd ps []) (hr : Room lv X.A) (ha : PA X (e :: es) (tXs T g b))
    (ht : eval (.Call fe (e :: es) [] pos) X.env = (do callWith pos (← eval fe X.env) [] (backTo pos (starEach (e :: es) X.env)) (backToKw pos (keywordEach [] X.env))))
    (he : starEach (e :: es) X.env = (false, eval e X.env) :: starEach es X.env) (hpl : (backTo pos (starEach es X.env)).any (·.1) = false) :
    PE X (.Call fe (e :: es) [] pos) (tX T .vl (fun ρ => (ff ρ).bind fun d => (g ρ).bind fun ds => match d with | .fnv i => C i ds | _ => none) (ef ++ b)) :=
  PEm (pe_callV (R := fun a i => T.fn i = some a) (sp := fun i => spF T (C i) false) hf A hr ha ht he hpl) fun σ H Q ⟨F0, H0, Hf, ρ, d, s, fz, e, q⟩ => by
    obtain ⟨df, e1, e2⟩ := ob e
    obtain ⟨ds, e3, e4⟩ := ob e2
    refine ⟨F0, H0, Hf, ρ, df, s, fz.left, e1, fun Hf1 H1 v g1 r1 => ?_⟩
    cases df with
    | fnv i =>
      obtain ⟨a, rfl, h1⟩ := r1
      refine ⟨a, i, rfl, h1, F0, H0, Hf1, ρ, ds, s.gr g1, fz.right, e3, fun Hf2 H2 vs g2 r2 => ?_⟩
      exact ⟨Hf2, ds, d, g2.z, r2, e4, fun Hf3 H3 u x3 y3 z3 sp r3 => q Hf3 H3 u ((g1.trans g2).trans ⟨x3, y3, z3, sp⟩) (Res.back (g1.trans g2).x r3)⟩
    | _ => cases e4
end
end PD
end
section
set_option Elab.async false
set_option linter.all false
set_option maxRecDepth 100000
set_option maxHeartbeats 4000000
/-! PDK: objects, dict comprehensions, enumerate of a tuple. -/
namespace PD
open PySem L2 Evl
theorem upd_upd {H : Hp} {a : Addr} {o o' : HO} : upd (upd H a o) a o' = upd H a o' := by
  funext b
  by_cases e : b = a
  · subst e; rw [upd_same, upd_same]
  · rw [upd_ne e, upd_ne e, upd_ne e]
section
variable {X : Cx} {T : Tb} {fz : Bool} {pos : Pos}
/-! ### o.m() -/
theorem lookup_none {m : Str} : ∀ {fs : List (Str × V)}, m ∉ fs.map (·.1) → fs.lookup m = none
  | [], _ => rfl
  | (n, v) :: fs, h => by
    simp only [List.map_cons, List.mem_cons, not_or] at h
    rw [List.lookup_cons]
    have : (m == n) = false := by simpa using h.1
    rw [this]
    exact lookup_none h.2
theorem x_meth0 {lv : Nat} {c : Nat} {k : Cl} {m : Str} {f : Addr} {fd : FuncData} {ps : List Str} {M : List D → Option D} {fr : Bool} {o : Expr} {fo : Env → Option D} {eo : List Nat} {apos : Pos} {pl : Sem Bool} (hK : X.K = T.K) (ho : PE X o (tX T .vl fo eo)) (hcl : T.cl c = some k) (hc : Cls X.K k.C) (hm : Meth X.K k.C m f)
    (F : FnOk X.prog X.w X.K X.mg X.base L2.CX0 lv f fd ps (spF T M fr)) (hr : Room lv X.A) (hb : Binds X.K fd ps []) (hnf : m ∉ k.fs)
    (ht : eval (.Call (.Attribute o m apos) [] [] pos) X.env = (do
      let ov ← eval o X.env
      standAt apos.atName
      let (f, first) ← holding [ov] (getMethod ov m pl)
      callWith pos f first (backTo pos (starEach [] X.env)) (backToKw pos (keywordEach [] X.env)))) :
    PE X (.Call (.Attribute o m apos) [] [] pos) (tX T (if fr then .fr else .vl) (fun ρ => (fo ρ).bind fun d => match d with | .ins c' l => if c' = c then M [.ins c' l] else none | _ => none) eo) :=
  PEm (pe_meth0 ho hc hm F hr hb .nil (E := L2.E0) pass0 ht) fun σ H Q ⟨F0, H0, Hf, ρ, d, s, fz, e, q⟩ => by
    obtain ⟨dx, e1, e2⟩ := ob e
    cases dx with
    | ins c' l =>
      replace e2 : (if c' = c then M [.ins c' l] else none) = some d := e2
      split at e2
      rotate_left
      · cases e2
      rename_i hcc
      subst hcc
      refine ⟨F0, H0, Hf, ρ, _, s, fz, e1, fun Hf1 H1 v g1 r1 => ?_⟩
      obtain ⟨a, k', dx, fs, rfl, h1, h2, h3, h4⟩ := id r1
      rw [hcl] at h1; cases h1
      refine ⟨a, dx, fs, rfl, g1.z _ _ h2, lookup_none (by rw [h3]; exact hnf), ?_⟩
      exact ⟨Hf1, [.ins c' l], d, g1.z, Rps.cons r1 Rps.nil, e2, fun Hf3 H3 u x3 y3 z3 sp r3 => q Hf3 H3 u (g1.trans ⟨x3, y3, z3, sp⟩) (Res.back g1.x r3)⟩
    | _ => cases e2
/-! ### C(e, ..): what __init__ promises: the fields, told from what is given -/
def spI (T : Tb) (c : Nat) (M : List D → Option (List D)) : Sp := fun vs H Q _ => ∃ a k dx Hf ds ls xs, vs = .ref a :: xs ∧ T.cl c = some k ∧ H a = some (.ins k.C dx []) ∧ Hf a = none ∧ Ex Hf H ∧ Rps T Hf xs ds ∧ M ds = some ls ∧
  ∀ ys, Rps T Hf ys ls → Q .non (upd H a (.ins k.C dx (k.fs.zip ys)))
theorem zip_fst : ∀ {fs : List Str} {ys : List V}, fs.length = ys.length → (fs.zip ys).map (·.1) = fs ∧ (fs.zip ys).map (·.2) = ys
  | [], [], _ => ⟨rfl, rfl⟩
  | [], _ :: _, h => by simp at h
  | _ :: _, [], h => by simp at h
  | f :: fs, y :: ys, h => by
    obtain ⟨h1, h2⟩ := zip_fst (fs := fs) (ys := ys) (by simpa using h)
    simp only [List.zip_cons_cons, List.map_cons, h1, h2, and_self]
theorem x_make {lv : Nat} {c : Nat} {k : Cl} {x : Str} {f : Addr} {fd : FuncData} {ps : List Str} {M : List D → Option (List D)} {e : Expr} {es : List Expr} {p : Pos} {g : Env → Option (List D)} {b : List Nat} (hcl : T.cl c = some k) (hM : ∀ ds ls, M ds = some ls → ls.length = k.fs.length) (mk : Mk X.K k.C f) (F : FnOk X.prog X.w X.K X.mg X.base L2.CX0 lv f fd ps (spI T c M))
    (hr : Room (lv + 1) X.A) (hg : Gl X x) (hm : X.mg x = some (.ref k.C)) (hb : Binds X.K fd ps []) (ha : PA X (e :: es) (tXs T g b)) (h2 : (x == ("__debug__" : Str)) = false) (hs : starEach (e :: es) X.env = (false, eval e X.env) :: starEach es X.env) (hs2 : ((backTo pos (starEach es X.env)).any fun x => x.fst) = false) :
    PE X (.Call (.Name x p) (e :: es) [] pos) (tX T .vl (fun ρ => (g ρ).bind fun ds => (M ds).bind fun ls => some (.ins c ls)) b) :=
  PEm (pe_make mk F hr hg hm hb .nil (E := L2.E0) pass0 ha h2 hs hs2) fun σ H Q ⟨F0, H0, Hf, ρ, d, s, fz, e, q⟩ => by
    obtain ⟨ds, e1, z1⟩ := ob e
    obtain ⟨ls, e2, z2⟩ := ob z1
    clear e z1
    cases z2
    refine ⟨F0, H0, Hf, ρ, ds, s, fz, e1, fun Hf1 H1 vs g1 r1 z dx hz hdx hne => ?_⟩
    have hdx' : (upd H1 dx (.own z)) z = none := by rw [upd_ne (Ne.symm hne)]; exact hz
    have g2 : Gr Hf1 H1 Hf1 (upd H1 dx (.own z)) := Gr.new g1.z hdx
    have g3 : Gr Hf1 H1 Hf1 (upd (upd H1 dx (.own z)) z (.ins k.C dx [])) := g2.trans (Gr.new g2.z hdx')
    refine ⟨z, k, dx, Hf1, ds, ls, vs, by rw [List.append_nil], hcl, upd_same, fresh_back g1.z hz, g3.z, r1, e2, fun ys ry => ⟨rfl, ?_⟩⟩
    rw [upd_upd]
    obtain ⟨w1, w2⟩ := zip_fst (fs := k.fs) (ys := ys) (by rw [ry.length, hM ds ls e2])
    refine q (upd Hf1 z (.ins k.C dx (k.fs.zip ys))) _ (.ref z) (g1.trans (g2.trans (Gr.newF g2.z hdx'))) ⟨z, k, dx, _, rfl, hcl, upd_same, w1, ?_⟩
    rw [w2]
    exact ry.mono (Ex.new (fresh_back g1.z hz))

/-! ### {k: v for ..} -/
def fDc (tg : Tg) (vs : List Nat) (fk fv : Env → Option D) (ρ : Env) : D → Option (List Nat × D) := fun d => (bindT tg d (wipeE ρ vs)).bind fun r => (fk r).bind fun x => (strD x).bind fun s => (fv r).bind fun y => some (s, y)
def vDc (fi : Env → Option (List D)) (tg : Tg) (vs : List Nat) (fk fv : Env → Option D) : Env → Option D := fun ρ => (fi ρ).bind fun l => (goDc (fDc tg vs fk fv ρ) l []).bind fun m => if l.length ≤ lim then some (.dic m) else none
theorem t_dc {σ : L2.St} {H : Hp} {Q : VK} {tg : Tg} {vs : List Nat} {fi : Env → Option (List D)} {fk fv : Env → Option D} {ei ek ee : List Nat} (hv : ∀ i ∈ tg.own, i ∈ vs) (h : tX T .fr (vDc fi tg vs fk fv) (ei ++ out vs (ek ++ ee)) σ H Q) :
    tDc (tXi T fi ei) (tG T tg) (tXb T (fun _ => some true) []) (tX T .vl fk ek) (tX T .vl fv ee) vs σ H Q := by
  obtain ⟨F0, H0, Hf, ρ, d, s0, fz, e, q⟩ := h
  obtain ⟨l, e1, z1⟩ := ob e
  obtain ⟨r, e2, z2⟩ := ob z1
  clear e z1
  split at z2
  rotate_left
  · cases z2
  rename_i hl
  cases z2
  refine ⟨F0, H0, Hf, ρ, l, s0, fz.left, e1, fun Hf1 H1 J g1 ok D hD => ?_⟩
  have hfD : Hf1 D = none := fresh_back g1.z hD
  have s := s0.gr g1
  have h0 : H0 D = none := fresh_back s.e0 hD
  have hn : NotOwn D σ ρ := s.notOwned hD
  refine ⟨fun i m H' => m = l.length - i ∧ i ≤ l.length ∧ ∃ Hf' kvs acc, GrD D Hf1 H1 Hf' H' ∧ H' D = some (.dK kvs) ∧ Rpd T Hf' kvs acc ∧ kvs.length ≤ i ∧ goDc (fDc tg vs fk fv ρ) (l.drop i) acc = some r,
    ⟨l.length, by simp, Nat.zero_le _, Hf1, [], [], .of (Gr.new g1.z hD) hfD, upd_same, rfl, Nat.le_refl _, by simpa using e2⟩, ?_⟩
  rintro i m H' ⟨rfl, hi, Hf', kvs, acc, g, hD', ha, hlen, hgo⟩
  obtain ⟨ok1, ok2⟩ := ok Hf' H' g.y g.z
  by_cases hlt : i < l.length
  · obtain ⟨dI, hdI⟩ : ∃ d, l[i]? = some d := ⟨l[i], by simp [hlt]⟩
    obtain ⟨go, yld⟩ := ok1 i dI hdI
    have hdrop : l.drop i = dI :: l.drop (i + 1) := by
      rw [List.drop_eq_getElem_cons hlt]
      have : l[i] = dI := by simpa [hlt] using hdI
      rw [this]
    rw [hdrop] at hgo
    obtain ⟨kv, e3, e4⟩ := ob hgo
    obtain ⟨ρ2, f1, f2⟩ := ob e3
    obtain ⟨dk, f3, f4⟩ := ob f2
    obtain ⟨sk, f5, f6⟩ := ob f4
    obtain ⟨dv, f7, f8⟩ := ob f6
    cases f8
    cases str_map _ _ f5
    refine .inr ⟨go, fun H'' => ∃ Hf' kvs acc, GrD D Hf1 H1 Hf' H'' ∧ H'' D = some (.dK kvs) ∧ Rpd T Hf' kvs acc ∧ kvs.length ≤ i + 1 ∧ goDc (fDc tg vs fk fv ρ) (l.drop (i + 1)) acc = some r,
      fun H'' h => ⟨l.length - (i + 1), by omega, rfl, hlt, h⟩, fun x H2 hy => ?_⟩
    obtain ⟨Hf2, g2, rx⟩ := yld x H2 hy
    have gg2 := g.then hD' g2
    have hD2 : H2 D = some (.dK kvs) := g2.x _ _ hD'
    refine ⟨F0, H0, Hf2, wipeE ρ vs, dI, ρ2, (s.grD gg2 h0 hn).wipe vs, rx, f1, fun σ2 s2 k => ⟨?_, ?_⟩⟩
    · rw [k.wipe hv, wipe_wipe]
    refine ⟨F0, H0, Hf2, ρ2, true, s2, (fun j hj => by cases hj), rfl, fun Hf3 H3 g3 => ?_⟩
    have gg3 := gg2.then hD2 g3
    have hD3 : H3 D = some (.dK kvs) := g3.x _ _ hD2
    show tX T .vl fk ek σ2 H3 _
    refine ⟨F0, H0, Hf3, ρ2, _, s2.gr g3, fz.right.out.left.bindT f1, f3, fun Hf4 H4 y g4 ry => ?_⟩
    have gg4 := gg3.then hD3 g4
    have hD4 : H4 D = some (.dK kvs) := g4.x _ _ hD3
    refine ⟨F0, H0, Hf4, ρ2, _, (s2.gr g3).gr g4, fz.right.out.right.bindT f1, f7, fun Hf5 H5 z g5 rz => ?_⟩
    have gg5 := gg4.then hD4 g5
    have hD5 : H5 D = some (.dK kvs) := g5.x _ _ hD4
    refine ⟨kvs, .inr (sS sk), ry, hD5, ?_, Hf5, _, _, gg5.mut, upd_same, put_rpd rz (ha.mono (((g2.trans g3).trans g4).trans g5).y), ?_, e4⟩
    · exact Nat.lt_of_lt_of_le (Nat.lt_of_le_of_lt hlen hlt) (lim_ok hl)
    · have := putK_len (kvs := kvs) (k := .inr (sS sk)) (v := z)
      omega
  · have e : i = l.length := by omega
    subst e
    rw [List.drop_length] at hgo
    cases hgo
    exact .inl ⟨ok2, q Hf' H' (.ref D) (g1.trans (g.gr hD)) ⟨D, rfl, fresh_back g1.x hD, g.d, kvs, hD', ha⟩⟩
section
variable {kx vx tgx iter : Expr} {scope : Scope} {tg : Tg} {fi : Env → Option (List D)} {fk fv : Env → Option D} {ei ek ee : List Nat}
theorem x_dc (own : List (Str × Nat)) (hc : X.calm = true) (hN : X.N.Nodup) (hi : PI X tgx iter (tXi T fi ei)) (ok : blkC X.N X.env.scope scope own = true) (hv : ∀ i ∈ tg.own, i ∈ own.map (·.2)) (hg : Blk X scope fun Y => PG Y tgx (tG T tg)) (hk : Blk X scope fun Y => PE Y kx (tX T .vl fk ek)) (he : Blk X scope fun Y => PE Y vx (tX T .vl fv ee))
    (hs : ∀ x, foldedSetIterable iter X.env x = pure x) : PE X (.DictComp kx vx [⟨tgx, iter, [], 0⟩] scope pos) (tX T .fr (vDc fi tg (own.map (·.2)) fk fv) (ei ++ out (own.map (·.2)) (ek ++ ee))) :=
  PEm (pe_dc hc hN hi (blkOk_by ok) hg (fun _ _ _ _ _ => b_nil) hk he hs) fun _ _ _ => t_dc hv
theorem ps_dc {i : Nat} {y : Str} {py spos : Pos} {ifs : List Expr} {own : List (Str × Nat)} {wi : TI} {g : TG} {tt : TT} {tk tv : TE} (hc : X.calm = true) (hN : X.N.Nodup) (hy : X.N[i]? = some y) (hyl : X.env.scope.names.lookup y = some .local)
    (hsw : swapsWith (.DictComp kx vx [⟨tgx, iter, ifs, 0⟩] scope pos) (some (.Name y py)) spos.line X.env = pure true) (hi : PI X tgx iter wi) (ok : BlkOk X.N X.env.scope scope own) (hg : Blk X scope fun Y => PG Y tgx g) (ht : Blk X scope fun Y => PTs Y ifs tt) (hk : Blk X scope fun Y => PE Y kx tk) (he : Blk X scope fun Y => PE Y vx tv)
    (hs : ∀ x, foldedSetIterable iter X.env x = pure x) : PS X (.Assign [.Name y py] (.DictComp kx vx [⟨tgx, iter, ifs, 0⟩] scope pos) spos) (tAsg (tDc wi g tt tk tv (own.map (·.2))) (gName i)) := by
  refine ⟨fun pins s σ H Dn I h => ?_⟩
  rw [PySem.exec_Assign_Name_used _ _ _ _ hsw]
  refine wpAny_bind (wpAny_standAt (wpAny_bind ?_))
  show wpAny _ X.A (do let _ ← comprehension (.DictComp kx vx [⟨tgx, iter, ifs, 0⟩] scope pos) scope X.env (firstIterPos [⟨tgx, iter, ifs, 0⟩] pos) newDict false (eval iter X.env) (some (assign (.Name y py) X.env))) _ _ s
  have h' : tDc wi g tt tk tv (own.map (·.2)) σ H (fun x H1 => gName i x σ H1 Dn.nx) := h
  refine wpAny_bind (thn (dc_core (Qf := fun _ s' => SP X pins Dn .next s') hc hN I hi ok hg ht hk he hs h' fun L C s' m H' I' q hn f => ?_) fun _ s' hq => wpAny_pure (wpAny_pure hq))
  show wpAny _ _ (assign (.Name y py) X.env (.ref L)) _ _ _
  refine wpAny_assign_Name (store_ok2 (v := V.ref L) I' hN hy (.inl hyl) rfl (fun s2 I2 ⟨a, sb, ha⟩ => ?_) (.inr hyl))
  obtain ⟨w0, w1, w2, w3, w4, w5⟩ := f
  have hne : C ≠ a := by
    rcases ha with z | z
    · rw [z]; exact w1
    · exact fun e => w4 y a z e.symm
  exact ⟨m, hn.sameBut sb hne, fun h3 sb3 => ⟨_, H', I2.turned (t' := s2.toks) (fun b o hb e => (sb3.2 b hb).trans e) w0 w1 w3 w4 w5, q⟩⟩
theorem s_dc (own : List (Str × Nat)) {i : Nat} {y : Str} {py : Pos} {spos : Pos} (hc : X.calm = true) (hN : X.N.Nodup) (hy : X.N[i]? = some y) (hyl : X.env.scope.names.lookup y = some .local) (hsw : swapsWith (.DictComp kx vx [⟨tgx, iter, [], 0⟩] scope pos) (some (.Name y py)) spos.line X.env = pure true) (hi : PI X tgx iter (tXi T fi ei)) (ok : blkC X.N X.env.scope scope own = true)
    (hv : ∀ i ∈ tg.own, i ∈ own.map (·.2)) (hg : Blk X scope fun Y => PG Y tgx (tG T tg)) (hk : Blk X scope fun Y => PE Y kx (tX T .vl fk ek)) (he : Blk X scope fun Y => PE Y vx (tX T .vl fv ee)) (hs : ∀ x, foldedSetIterable iter X.env x = pure x) :
    PS X (.Assign [.Name y py] (.DictComp kx vx [⟨tgx, iter, [], 0⟩] scope pos) spos) (tS T fz (vAsg .fr (vDc fi tg (own.map (·.2)) fk fv) (ei ++ out (own.map (·.2)) (ek ++ ee)) i)) :=
  PSm (ps_dc hc hN hy hyl hsw hi (blkOk_by ok) hg (fun _ _ _ _ _ => b_nil) hk he hs) fun _ _ _ h => t_dc hv (t_asg (k := .fr) (by decide) h)
end
end
end PD
end
section
set_option Elab.async false
set_option linter.all false
set_option maxRecDepth 100000
set_option maxHeartbeats 4000000
/-! PDL: enumerate of a tuple. -/
namespace PD
open PySem L2 Evl
theorem meets_en {v : Value} {o : Obj} {P : Heap → Prop} (B : Begins v o P) :
    Meets (Builtin.«enumerate.__new__» ⟨[.type "enumerate", v], []⟩) (fun _ R s => P s.heap ∧
      R (.ok (.ret (.ref (s.heap.push o).objs.size))) { s with heap := (s.heap.push o).push { cls := .type "enumerate", data := .fields #[.none, .bool false, .ref s.heap.objs.size, rawInt 0, .none, .none] } }) :=
  .of_wp fun prog w A R s h => by
    obtain ⟨hp, g, d, tk, os⟩ := s; obtain ⟨p1, h⟩ := h
    have hsub := sub_enumerate
    have itr : ∀ {A' : Around} {E : Value → Shared → Prop} {Q : Value → Shared → Prop}, Q (.ref hp.objs.size) ⟨hp.push o, g, d, tk, os⟩ → wpAny (model prog w) A' (pyIter v) Q E ⟨hp, g, d, tk, os⟩ :=
      fun q => B.iter prog w _ _ ⟨hp, g, d, tk, os⟩ _ p1 q
    wp_walk using itr
    refine wpAny_stack_any fun st => wpAny_pure ?_
    split
    · rename_i c _ _ _ _ _
      cases (c == Value.type "enumerate")
      · wp_walk using itr
        exact ⟨_, rfl, h⟩
      · wp_walk using itr
        exact ⟨_, rfl, h⟩
    · wp_walk using itr
      exact ⟨_, rfl, h⟩
theorem call_en {prog : Program} {w : World} {A : Around} {E : Value → Shared → Prop} {s : Shared} {v : Value} {o : Obj} {P : Heap → Prop} {Q : Value → Shared → Prop} (B : Begins v o P) (p1 : P s.heap)
    (h : ∀ h', IsEnum h' (s.heap.objs.size + 1) s.heap.objs.size 0 .none → h'.get? s.heap.objs.size = some o → (∀ b o, s.heap.get? b = some o → h'.get? b = some o) → Q (.ref (s.heap.objs.size + 1)) { s with heap := h' }) :
    wpAny (model prog w) A (call (.type "enumerate") [v]) Q E s := by
  refine callType_new PySem.F.called_enumerate (by decide) (PySem.F.typeCall_enumerate_1 _) (PySem.F.newCall_enumerate_1 _) (fun obj => PySem.F.args_object_init_2 obj _) PySem.F.entry_enumerate_new (meets_en B) ⟨p1, ?_⟩
  have hz : (s.heap.push o).objs.size = s.heap.objs.size + 1 := Heap.size_push ..
  show _ ∧ _
  rw [hz]
  have he := Heap.get?_push_size (s.heap.push o) (o := { cls := .type "enumerate", data := .fields #[.none, .bool false, .ref s.heap.objs.size, rawInt 0, .none, .none] }) rfl
  rw [hz] at he
  exact ⟨⟨_, he, rfl⟩, h _ he (Heap.get?_push_of_some _ (Heap.get?_push_size _ B.free)) fun b o x => Heap.get?_push_of_some _ (Heap.get?_push_of_some _ x)⟩
def Iten (K : PySem.W.Frag) (a : Addr) : It :=
  ⟨fun i H => ∃ (xs : List V) (x : V), SqT K H a xs ∧ xs[i]? = some x, fun i H v H' => ∃ T x, v = .ref T ∧ H T = none ∧ H' = upd H T (.tup [.int (i : Nat), x]) ∧ ∀ xs, SqT K H a xs → xs[i]? = some x, fun i H => ∃ xs : List V, SqT K H a xs ∧ xs.length = i⟩
theorem turn_en {P : Program} {w : World} {K : PySem.W.Frag} {elts : List Expr} {kk : Nat} {tpos : Pos} (a e it : Addr) :
    Turn P w K (.Tuple elts kk tpos) (Iten K a) [e, it] e (fun i h => (∃ old, IsEnum h e it ((i : Nat) : Int) old) ∧ h.IsTupleIter it a i ∧ e ≠ it ∧ e ≠ a ∧ a ≠ it) where
  mem := by simp
  obj := fun i h st b hb => by
    obtain ⟨⟨old, he⟩, ⟨o, ho, hc, hd⟩, _⟩ := st
    have e' : b = e ∨ b = it := by simpa using hb
    rcases e' with z | z
    · rw [z]; exact ⟨_, he, fun v q => nomatch q⟩
    · rw [z]; exact ⟨o, ho, fun v q => by rw [hd] at q; cases q⟩
  keep := fun i h h' st k => let ⟨⟨old, he⟩, hi, hne⟩ := st; ⟨⟨old, k e (by simp) _ he⟩, hi.at fun o q => k it (by simp) o q, hne⟩
  item := by
    intro X hP hw hK hc i pins s σ H E I hf st hg
    subst hP hw hK
    obtain ⟨⟨old, he⟩, hit, hne, hea, hai⟩ := st
    obtain ⟨xs, x, hq, hx⟩ := hg
    obtain ⟨its, rv, p, hz⟩ := I.tuple hq
    obtain ⟨u, hu, ru⟩ := rv.get hx
    have hel : e < s.heap.objs.size := Heap.lt_size he
    have hil : it < s.heap.objs.size := by obtain ⟨_, q, _⟩ := hit; exact Heap.lt_size q
    have hlt : i < its.toArray.size := by rw [List.size_toArray]; exact (List.getElem?_eq_some_iff.mp hu).1
    refine wpAny_pyNext_enum_itemD (Draws.tuple (prog := X.prog) (w := X.w) (A := X.A.in1) (I.ok.hd hc) it a hai its.toArray) he ⟨hit, p⟩ hlt hne (by simp only [List.mem_cons, List.not_mem_nil, or_false, not_or]; exact ⟨hne, hea⟩) fun y h' tk hPy ho hit' hT hsz hk => ?_
    have hy : y = u := by
      have h1 : its.toArray[i]? = some u := by simpa using hu
      rw [h1] at hPy; cases hPy; rfl
    subst hy
    refine ⟨_, rfl, wpAny_letOwnedTupleGo_enum (s := { s with heap := h', toks := tk + 1 }) ho fun h'' he' sb => ?_⟩
    have hT2 : h''.get? s.heap.objs.size = some { cls := .type "tuple", data := .seq #[.int i tk, y] } := (sb.2 _ (Nat.ne_of_gt hel)).trans hT
    have new : ObjOk X.prog X.w (upd H s.heap.objs.size (.tup [.int (i : Nat), x])) h'' s.heap.objs.size (.tup [.int (i : Nat), x]) :=
      ⟨by show 2 ≤ sizeLine; decide, [.int i tk, y], .cons ⟨_, rfl⟩ (.cons ru .nil), ⟨_, hT2, rfl, _, rfl⟩⟩
    have I1 : L2.Inv X pins σ (upd H s.heap.objs.size (.tup [.int (i : Nat), x])) { s with heap := h'', toks := tk + 1 } :=
      I.turnedNew (ch := [e, it]) (fun b ob hb q => (sb.2 b (fun z => hb (by simp [z]))).trans (hk b ob (fun z => hb (by simp [z])) (fun z => hb (by simp [z])) q)) hf (Nat.le_refl _) new
    refine ⟨.ref s.heap.objs.size, _, I1, rfl, ⟨_, x, rfl, I.hok.fresh (Nat.le_refl _), rfl, fun ys hy => by rw [I.tuple_inj hy hq]; exact hx⟩, ⟨⟨y, ?_⟩, hit'.1.at fun o q => (sb.2 it (Ne.symm hne)).trans q, hne, hea, hai⟩, fun b hb => ?_⟩
    · have e1 : ((i + 1 : Nat) : Int) = (i : Int) + 1 := by omega
      rw [e1]; exact he'
    · have hb' : b < s.heap.objs.size := by
        have e' : b = e ∨ b = it := by simpa using hb
        rcases e' with z | z
        · rw [z]; exact hel
        · rw [z]; exact hil
      rw [upd_ne (Nat.ne_of_lt hb')]
      exact (hf b hb).1
  done := by
    intro X hP hw hK hc i pins s σ H E I hf st hg
    subst hP hw hK
    obtain ⟨⟨old, he⟩, hit, hne, hea, hai⟩ := st
    obtain ⟨xs, hq, hx⟩ := hg
    obtain ⟨its, rv, p, hz⟩ := I.tuple hq
    obtain ⟨f0, f1, f2, f3, f4, f5⟩ := hf it (by simp)
    have hl : i = its.toArray.size := by rw [List.size_toArray, ← hx]; exact rv.length
    subst hl
    exact wpAny_pyNext_enum_endD (Draws.tuple (prog := X.prog) (w := X.w) (A := X.A.in1) (I.ok.hd hc) it a hai its.toArray) he ⟨hit, p⟩ fun h' eb => ⟨rfl, I.turned (t' := s.toks) (fun b o hb q => eb b o hb q) f0 f1 f3 f4 f5⟩
  self := fun A i s Q E st h => let ⟨⟨_, he⟩, _⟩ := st; wpAny_pyIter_enum he h
def iEn (K : PySem.W.Frag) (ta : TA) : TI := fun σ H R => ta σ H fun vs H1 => ∃ a xs, vs = [.ref a] ∧ SqT K H1 a xs ∧ R (Iten K a) H1
theorem pi_en {X : Cx} {e : Expr} {ta : TA} {p pos tpos : Pos} {elts : List Expr} {kk : Nat} (hg : Gl X "enumerate") (hm : X.mg "enumerate" = none) (ha : PA X [e] ta) (hs : starEach [e] X.env = [(false, eval e X.env)]) :
    PI X (.Tuple elts kk tpos) (.Call (.Name "enumerate" p) [e] [] pos) (iEn X.K ta) := by
  refine ⟨fun pins s σ H R I h => ?_⟩
  refine PyProof.Rows.Call_ (ld_blt I hg hm PyProof.Rows.boot_enumerate (PyProof.Rows.callWith_type1 (thn (ha.run pos pins s σ H _ I h) fun us s1 ⟨vs, H1, I1, r1, a, xs, ex, hq, q⟩ => ?_) hs rfl))
  subst ex
  cases r1 with
  | cons r rr =>
    cases rr
    cases r
    obtain ⟨its, rv, p', hz⟩ := I1.tuple hq
    have hal : a < s1.heap.objs.size := by obtain ⟨_, q, _⟩ := p'; exact Heap.lt_size q
    refine call_en (begins_tuple a its.toArray) p' fun h' he hit hk => wpAny_pyIter_enum he ?_
    have I2 : L2.Inv X pins σ H1 { s1 with heap := h' } := I1.kept (t' := s1.toks) hk
    refine ⟨s1.heap.objs.size + 1, [s1.heap.objs.size + 1, s1.heap.objs.size], _, _, H1, rfl, I2, turn_en a (s1.heap.objs.size + 1) s1.heap.objs.size, ⟨⟨.none, he⟩, ⟨_, hit, rfl, rfl⟩, Nat.succ_ne_self _, Nat.ne_of_gt (Nat.lt_succ_of_lt hal), Nat.ne_of_lt hal⟩, fun b hb => ?_, q⟩
    have e' : b = s1.heap.objs.size + 1 ∨ b = s1.heap.objs.size := by simpa using hb
    have hle : s1.heap.objs.size ≤ b := by
      rcases e' with z | z
      · rw [z]; exact Nat.le_add_right _ _
      · rw [z]; exact Nat.le_refl _
    exact I1.fpOk hle (I1.hok.fresh hle)
theorem numb_get : ∀ {l : List D} {k : Int} {i : Nat} {d : D}, (numb k l)[i]? = some d → ∃ x, l[i]? = some x ∧ d = .tup [.int (k + i), x]
  | [], _, _, _, h => by simp [numb] at h
  | x :: l, k, 0, d, h => by
    simp [numb] at h
    exact ⟨x, rfl, by rw [← h]; simp⟩
  | x :: l, k, i + 1, d, h => by
    simp only [numb, List.getElem?_cons_succ] at h
    obtain ⟨y, h1, h2⟩ := numb_get h
    exact ⟨y, by simpa using h1, by rw [h2]; congr 3; omega⟩
theorem numb_len : ∀ (l : List D) (k : Int), (numb k l).length = l.length
  | [], _ => rfl
  | _ :: l, k => by simp [numb, numb_len l]
theorem i_en {X : Cx} {T : Tb} {a : Expr} {fa : Env → Option D} {ea : List Nat} {p pos tpos : Pos} {elts : List Expr} {kk : Nat} (hK : X.K = T.K) (hg : Gl X "enumerate") (hm : X.mg "enumerate" = none) (ha : PE X a (tX T .vl fa ea)) (hs : starEach [a] X.env = [(false, eval a X.env)]) :
    PI X (.Tuple elts kk tpos) (.Call (.Name "enumerate" p) [a] [] pos) (tXi T (fun ρ => (fa ρ).bind fun d => (tupD d).bind fun l => some (numb 0 l)) ea) :=
  PIm (pi_en hg hm (pa_cons ha pa_nil hs) hs) fun σ H R ⟨F0, H0, Hf, ρ, l0, s, fz, e, q⟩ => by
    obtain ⟨d, e1, e2⟩ := ob e
    obtain ⟨l, e3, e4⟩ := ob e2
    cases e4
    cases tup_map _ _ e3
    refine ⟨F0, H0, Hf, ρ, _, s, fz, e1, fun Hf1 H1 v g1 r1 => ?_⟩
    obtain ⟨p, xs, rfl, h1, h2⟩ := r1
    have hq : ∀ {H2 : Hp}, Ex Hf1 H2 → SqT X.K H2 p xs := fun z => by rw [hK]; exact ex_t z h1
    refine ⟨p, xs, rfl, hq g1.z, q Hf1 H1 _ g1 fun Hf2 H2 y z => ⟨fun i d hd => ?_, ?_⟩⟩
    · obtain ⟨x, w1, rfl⟩ := numb_get hd
      obtain ⟨v, h3, h4⟩ := h2.get w1
      refine ⟨⟨xs, v, hq (y.trans z), h3⟩, fun x2 H3 ⟨t, x3, w2, w3, w4, w5⟩ => ?_⟩
      subst w2 w4
      have h8 := w5 xs (hq (y.trans z))
      rw [h3] at h8; cases h8
      have hf : Hf2 t = none := fresh_back z w3
      refine ⟨upd Hf2 t (.tup [.int (i : Nat), v]), Gr.newF z w3, t, _, rfl, st_of upd_same, ?_⟩
      refine Rps.cons ?_ (Rps.cons ((h4.mono y).mono (Ex.new hf)) Rps.nil)
      show V.int (i : Nat) = V.int (0 + (i : Nat))
      rw [Int.zero_add]
    · exact ⟨xs, hq (y.trans z), by rw [h2.length, numb_len]⟩
end PD
end
section
set_option Elab.async false
set_option linter.all false
set_option maxRecDepth 100000
set_option maxHeartbeats 4000000
/-! PDM: sets of texts (turned from the library's sets of ints and of truth values). -/
namespace PD
open PySem PySem.Spec PyProof.Rows L2
def keyS (e : Int × Value) : Str := match e.2 with | .str x _ => x | _ => ⟨#[]⟩
def GoodS (w : World) (e : Int × Value) : Prop := ∃ x tk, e.2 = Value.str x tk ∧ e.1 = hashStr w x
/-- the set of texts at a: S its members, n their number; it can be walked -/
def SetS (w : World) (h : Heap) (a : Addr) (S : Str → Bool) (n : Nat) : Prop :=
  ∃ o es ep t, h.get? a = some o ∧ o.ExactSet ∧ o.data = .set es ep t ∧ (∀ e ∈ es.toList, GoodS w e) ∧ (es.toList.map keyS).Nodup ∧ (∀ k, S k = true ↔ k ∈ es.toList.map keyS) ∧
    es.size < scanBound ∧ t.fits es.size = true ∧ es.size = n ∧ Ris t.place.toList ∧ (w.params.followText "set-order" = true ∨ t.led = true)
section
variable {P : Program} {w : World} {h h' : Heap} {a : Addr} {S : Str → Bool} {n : Nat}

theorem SetS.at (R : SetS w h a S n) (k : ∀ o, h.get? a = some o → h'.get? a = some o) : SetS w h' a S n := by
  obtain ⟨o, es, ep, t, ho, r⟩ := R
  exact ⟨o, es, ep, t, k o ho, r⟩
theorem SetS.lt (R : SetS w h a S n) : a < h.objs.size := by
  obtain ⟨o, es, ep, t, ho, r⟩ := R
  exact Heap.lt_size ho
theorem SetS.congr {S' : Str → Bool} (R : SetS w h a S n) (e : ∀ k, S' k = S k) : SetS w h a S' n := by
  have q : S' = S := funext e
  rw [q]; exact R
theorem goodS_elems {l : List (Int × Value)} (g : ∀ e ∈ l, GoodS w e) : ElemsOf (strKind P w) l := fun e he => by
  obtain ⟨k, tk, h1, h2⟩ := g e he
  exact ⟨⟨k, by rw [h1]; exact Froz.is_str k tk, h2⟩, by rw [h1] <;> rfl⟩
theorem goodS_is {e : Int × Value} (g : GoodS w e) (k : Str) : (strKind P w).is k e.2 = true ↔ keyS e = k := by
  obtain ⟨k0, tk, h1, _⟩ := g
  unfold keyS
  rw [h1]
  show (Value.isStrOf k (Value.str k0 tk) = true) ↔ k0 = k
  simp [Value.isStrOf]
theorem goodS_mem {l : List (Int × Value)} (g : ∀ e ∈ l, GoodS w e) (k : Str) : k ∈ l.map keyS ↔ ∃ e ∈ l, (strKind P w).is k e.2 = true := by
  rw [List.mem_map]
  constructor
  · rintro ⟨e, he, q⟩
    exact ⟨e, he, (goodS_is (g e he) k).2 q⟩
  · rintro ⟨e, he, q⟩
    exact ⟨e, he, (goodS_is (g e he) k).1 q⟩
theorem SetS.setOf (R : SetS w h a S n) : h.SetOf (strKind P w) a S n := by
  obtain ⟨o, es, ep, t, ho, hx, hd, g, nd, hm, hb, hf, hn, _⟩ := R
  exact ⟨o, es, ep, t, ho, hx, hd, goodS_elems g, fun k => (hm k).trans (goodS_mem g k), hb, hf, hn⟩
end

section
variable {P : Program} {w : World} {A : Around} {E : Value → Shared → Prop} {s : Shared} {a : Addr} {S : Str → Bool} {n : Nat}

/-! ### add -/
theorem storeS_at {h : Heap} {a : Addr} {o : Obj} {es es' : Array (Int × Value)} {ep : Nat} {t t' : SetTable} (ho : h.get? a = some o) (hd : o.data = .set es ep t) :
    (h.update a (Obj.putSet es' t')).get? a = some { o with data := .set es' (ep + 1) t' } := by
  have q := Heap.get?_update_self (Obj.putSet es' t') ho (by rw [putSet_of es' t' hd]; rfl)
  rw [putSet_of es' t' hd] at q
  exact q

theorem setS_add_tail {g : Bool → Sem Unit} (hg : ∀ (b : Bool) (s₁ : Shared) (Q' : Unit → Shared → Prop), Q' () s₁ → wpAny (model P w) A (g b) Q' E s₁)
    {o : Obj} {es : Array (Int × Value)} {ep : Nat} {t : SetTable} (ho : s.heap.get? a = some o) (hex : o.ExactSet) (hd : o.data = .set es ep t)
    {es1 : Array (Int × Value)} {t2 : SetTable} {S' : Str → Bool} (g1 : ∀ e ∈ es1.toList, GoodS w e) (nd1 : (es1.toList.map keyS).Nodup) (m1 : ∀ k, S' k = true ↔ k ∈ es1.toList.map keyS)
    (hb1 : es1.size < scanBound) (hf2 : t2.fits es1.size = true) (hr : Ris t2.place.toList) (hl : w.params.followText "set-order" = true ∨ t2.led = true) {wasDummy : Bool} {R : Option Bool → Shared → Prop}
    (hR : ∀ h', Heap.SameBut a s.heap h' → SetS w h' a S' es1.size → R (some true) { s with heap := h' }) :
    wpAny (model P w) A (do
        storeSet a es1 t2
        if (!wasDummy && t2.tooFull) = true then do
            g (relayAll t2 es1 (SetTable.grown es1.size)).2.2
            storeSet a (relayAll t2 es1 (SetTable.grown es1.size)).1 (relayAll t2 es1 (SetTable.grown es1.size)).2.1
            pure (some true)
          else pure (some true)) R E s := by
  refine wpAny_bind (wpAny_storeSet_of ho hd ?_ (fits_of_scanBound hb1))
  have ho1 := storeS_at (es' := es1) (t' := t2) ho hd
  have sb1 := Heap.SameBut.update s.heap a (Obj.putSet es1 t2)
  split
  · have pm := relayAll_perm t2 es1 (SetTable.grown es1.size)
    have hf3 := relayAll_fits t2 es1 (SetTable.grown es1.size)
    have hr3 := relayAll_ris t2 es1 (SetTable.grown es1.size)
    have hl3 := relayAll_led t2 es1 (SetTable.grown es1.size)
    generalize relayAll t2 es1 (SetTable.grown es1.size) = Z at pm hf3 hr3 hl3 ⊢
    obtain ⟨es2, t3, gave⟩ := Z
    dsimp only at pm hf3 hr3 hl3 ⊢
    have hsz : es2.size = es1.size := by rw [← Array.length_toList, pm.length_eq, Array.length_toList]
    have hb2 : es2.size < scanBound := by rw [hsz]; exact hb1
    refine wpAny_bind (hg _ _ _ ?_)
    refine wpAny_bind (wpAny_storeSet_of ho1 rfl ?_ (fits_of_scanBound hb2))
    have ho2 := storeS_at (es' := es2) (t' := t3) ho1 rfl
    refine wpAny_pure (hR _ (sb1.trans (Heap.SameBut.update _ a _)) ?_)
    exact ⟨_, es2, _, t3, ho2, hex, rfl, fun e he => g1 e (pm.mem_iff.mp he), (pm.map keyS).nodup_iff.mpr nd1, fun k => (m1 k).trans (pm.map keyS).mem_iff.symm, hb2, hf3, hsz, hr3,
      hl.imp id fun z => by rw [hl3]; exact z⟩
  · exact wpAny_pure (hR _ sb1 ⟨_, es1, _, t2, ho1, hex, rfl, g1, nd1, m1, hb1, hf2, rfl, hr, hl⟩)

theorem setS_add_hashed {k : Str} {tk : Tok} {Q : Bool → Shared → Prop} (R : SetS w s.heap a S n) (room : n + 1 < scanBound)
    (hQ : ∀ h', Heap.SameBut a s.heap h' → SetS w h' a (fun j => S j || decide (j = k)) (if S k = true then n else n + 1) → Q (!S k) { s with heap := h' }) :
    wpAny (model P w) A (setAddHashed a (.str k tk) ((strKind P w).hash k)) Q E s := by
  obtain ⟨o, es, ep, t, ho, hex, hd, g, nd, hm, hb, hf, hn, hr, hl⟩ := R
  have hkey : (strKind P w).is k (.str k tk) = true := Froz.is_str k tk
  have hsc : (Value.str k tk).scannable = true := rfl
  have hel : ElemsOf (strKind P w) es.toList := goodS_elems g
  unfold setAddHashed setAddHashedIn
  refine wpAny_holding (wpAny_bind (wpAny_setState_of ho hd hf ?_))
  dsimp only
  rw [byScan_of hsc hb hel]
  simp only [↓reduceIte]
  unfold setAddByScan
  refine wpAny_bind ?_
  refine wpAny_bind (wpAny_rule ?_)
  refine wpAny_bind (wpAny_setScan_of hkey ho hd hf hel ?_)
  cases hfi : List.findIdx? (fun e => (strKind P w).is k e.2) es.toList with
  | some j =>
    dsimp only
    obtain ⟨hj, pj, _⟩ := List.findIdx?_eq_some_iff_getElem.mp hfi
    have hSk : S k = true := (hm k).2 ((goodS_mem (P := P) (w := w) g k).2 ⟨es.toList[j], List.getElem_mem hj, pj⟩)
    refine wpAny_pure (wpAny_pure ?_)
    have q := hQ s.heap (Heap.SameBut.refl a s.heap) ⟨o, es, ep, t, ho, hex, hd, g, nd, fun i => by
      rw [Bool.or_eq_true, decide_eq_true_eq, ← hm i]
      exact ⟨fun z => z.elim id (fun e => e ▸ hSk), .inl⟩, hb, hf, by rw [if_pos hSk]; exact hn, hr, hl⟩
    rw [hSk] at q
    exact q
  | none =>
    dsimp only
    have hnk : k ∉ es.toList.map keyS := fun z => by
      obtain ⟨e, he, q⟩ := (goodS_mem (P := P) (w := w) g k).1 z
      have c := List.findIdx?_eq_none_iff.mp hfi e he
      rw [q] at c
      cases c
    have hSk : S k = false := by
      cases q : S k with
      | false => rfl
      | true => exact absurd ((hm k).1 q) hnk
    have hgw : ∀ (b : Bool) {s₁ : Shared} {Q' : Unit → Shared → Prop}, Q' () s₁ → wpAny (model P w) A (match b with | true => rule "set.scan.the-table-gave-way" | false => pure ()) Q' E s₁ :=
      fun b s₁ Q' q => by cases b <;> first | exact wpAny_pure q | exact wpAny_rule q
    have pm := layNew_perm t es ((strKind P w).hash k) (.str k tk)
    have hf1 := layNew_fits t es ((strKind P w).hash k) (.str k tk)
    have hr1 := layNew_ris t es ((strKind P w).hash k) (.str k tk) hr
    have hl1 := layNew_led t es ((strKind P w).hash k) (.str k tk)
    generalize layNew t es ((strKind P w).hash k) (.str k tk) = Z at pm hf1 hr1 hl1 ⊢
    obtain ⟨es1, t1, wasDummy, gave⟩ := Z
    dsimp only at pm hf1 hr1 hl1 ⊢
    rw [Array.toList_push] at pm
    have pc : es1.toList.Perm (((strKind P w).hash k, Value.str k tk) :: es.toList) := pm.trans (List.perm_append_singleton _ _)
    have pk : (es1.toList.map keyS).Perm (k :: es.toList.map keyS) := pc.map keyS
    have g1 : ∀ e ∈ es1.toList, GoodS w e := fun e he => by
      rcases List.mem_cons.mp (pc.mem_iff.mp he) with z | z
      · rw [z]; exact ⟨k, tk, rfl, rfl⟩
      · exact g e z
    have nd1 : (es1.toList.map keyS).Nodup := pk.nodup_iff.mpr (List.nodup_cons.mpr ⟨hnk, nd⟩)
    have m1 : ∀ i, (S i || decide (i = k)) = true ↔ i ∈ es1.toList.map keyS := fun i => by
      rw [Bool.or_eq_true, decide_eq_true_eq, hm i, pk.mem_iff, List.mem_cons]
      exact Or.comm
    have hsz : es1.size = n + 1 := by rw [← Array.length_toList, pc.length_eq, List.length_cons, Array.length_toList, hn]
    have hb1 : es1.size < scanBound := by rw [hsz]; exact room
    have hled : w.params.followText "set-order" = true ∨ t1.led = true := hl.imp id fun z => by rw [hl1]; exact z
    have fin : ∀ h', Heap.SameBut a s.heap h' → SetS w h' a (fun j => S j || decide (j = k)) es1.size → Q true { s with heap := h' } := fun h' sb r => by
      have q := hQ h' sb
      rw [hSk] at q
      rw [hsz] at r
      exact q r
    refine wpAny_bind (hgw _ ?_)
    split
    · refine wpAny_bind ?_
      rw [hashByValue_scannable 8 hsc]
      refine wpAny_pure ?_
      refine setS_add_tail ?_ ho hex hd g1 nd1 m1 hb1 ?_ ?_ ?_ ?_
      · intro b s₁ Q' q; cases b <;> first | exact wpAny_pure q | exact wpAny_rule q
      · first | (split <;> first | exact hf1 | exact SetTable.fits_plain_off hf1) | exact hf1
      · first | (split <;> exact hr1) | exact hr1
      · first | (split <;> exact hled) | exact hled
      · intro h' sb r; dsimp only; exact wpAny_pure (fin h' sb r)
    · refine wpAny_bind (wpAny_pure ?_)
      simp only [↓reduceIte]
      refine setS_add_tail ?_ ho hex hd g1 nd1 m1 hb1 hf1 hr1 hled ?_
      · intro b s₁ Q' q; cases b <;> first | exact wpAny_pure q | exact wpAny_rule q
      · intro h' sb r; dsimp only; exact wpAny_pure (fin h' sb r)

/-- found.add(k) -/
theorem setS_add {k : Str} {tk : Tok} {Q : Value → Shared → Prop} (R : SetS w s.heap a S n) (room : n + 1 < scanBound)
    (hQ : ∀ h', Heap.SameBut a s.heap h' → SetS w h' a (fun j => S j || decide (j = k)) (if S k = true then n else n + 1) → Q .none { s with heap := h', toks := s.toks + 1 }) :
    wpAny (model P w) A (call (.builtin "set.add") [.ref a, .str k tk]) Q E s := by
  have hS : s.heap.SetOf (strKind P w) a S n := R.setOf
  refine wpAny_call_entry PySem.F.slot_set_add hS.typeIs PySem.F.entry_set_add ?_ (PySem.F.args_set_add_2 _ _)
  unfold Builtin.«set.add» Builtin.Frozenset.oneOther
  simp only [List.isEmpty_nil, bind_assoc]
  unfold Builtin.Frozenset.addrOf setAdd
  refine wpAny_bind (wpAny_pure ?_)
  try dsimp only
  refine wpAny_bind (wpAny_pure ?_)
  try dsimp only
  refine wpAny_bind ?_
  refine wpAny_holding ?_
  refine wpAny_bind ((strKind P w).pyHash (Froz.is_str k tk) ?_)
  refine setS_add_hashed (s := { s with toks := s.toks + 1 }) R room fun h' sb r => ?_
  show wpAny _ _ (ret Value.none) _ _ _
  exact wpAny_pure ⟨_, rfl, hQ h' sb r⟩


theorem setS_new_at {w : World} {h : Heap} {a : Addr} {S : Str → Bool} (hS : ∀ k, S k = false) (ho : h.get? a = some { cls := .type "set", dict := none, data := .set #[] 0 (.fresh 0 0 (!w.params.followText "set-order")) }) : SetS w h a S 0 :=
  ⟨_, #[], 0, _, ho, ⟨rfl, rfl, rfl⟩, rfl, (fun e he => by simp at he), (by simp), (fun k => by rw [hS k]; simp), (by decide), (by rfl), rfl, List.Pairwise.nil, by
    show _ ∨ (!w.params.followText "set-order") = true
    cases w.params.followText "set-order"
    · exact .inr rfl
    · exact .inl rfl⟩
theorem setS_fresh {h : Heap} (w : World) : SetS w (h.push { cls := .type "set", dict := none, data := .set #[] 0 (.fresh 0 0 (!w.params.followText "set-order")) }) h.objs.size (fun _ => false) 0 := setS_new_at (fun _ => rfl) (Heap.get?_push_size _ rfl)
end

/-! ### as an object of the hand layer -/
def SetSO (w : World) (a : Addr) (S : Str → Bool) (n : Nat) : HO := .ext fun h => SetS w h a S n
theorem setSO_new {w : World} {P : Program} {H : Hp} {h : Heap} {a : Addr} {S : Str → Bool} {n : Nat} (R : SetS w h a S n) : ObjOk P w H h a (SetSO w a S n) := by
  have ⟨o, _, _, _, ho, _⟩ := R
  exact ⟨R, ⟨o, ho⟩, fun h1 h2 p k => SetS.at p k⟩
section
variable {X : Cx}
theorem setSO_get {pins : List (Addr × Obj)} {σ : L2.St} {H : Hp} {s : Shared} {a : Addr} {S : Str → Bool} {n : Nat} (I : L2.Inv X pins σ H s) (ha : H a = some (SetSO X.w a S n)) : SetS X.w s.heap a S n := (I.hok a _ ha).1
theorem addS_ok {pins : List (Addr × Obj)} {σ : L2.St} {H : Hp} {s : Shared} {E : Value → Shared → Prop} {D : Addr} {S : Str → Bool} {n : Nat} {y : Str} {tk : Tok} {Q : Value → Shared → Prop} (I : L2.Inv X pins σ H s) (hD : H D = some (SetSO X.w D S n)) (room : n + 1 < scanBound)
    (h : ∀ s', L2.Inv X pins σ (upd H D (SetSO X.w D (fun j => S j || decide (j = y)) (if S y = true then n else n + 1))) s' → Q .none s') : wpAny (model X.prog X.w) X.A (call (.builtin "set.add") [.ref D, .str y tk]) Q E s := by
  refine setS_add (setSO_get I hD) room fun h' sb new => ?_
  have he : ∃ u, h'.get? D = some u := by
    have ⟨o, _, _, _, ho, _⟩ := new
    exact ⟨o, ho⟩
  exact h _ (I.write (e := D) (t' := s.toks + 1) (by rw [hD]; trivial) (.inl rfl) (fun b u hb hu => (sb.2 b hb).trans hu) he (setSO_new new))
/-- {elt for target in iter if ..}, elt a text: D the new set -/
def tScS (w : World) (wi : TI) (g : TG) (tt : TT) (te : TE) (vs : List Nat) : TE := fun σ H Q => wi σ H fun J H1 => ∀ D, H1 D = none → ∃ W : Nat → Nat → Hp → Prop, (∃ m, W 0 m (upd H1 D (SetSO w D (fun _ => false) 0))) ∧ ∀ i m H, W i m H →
  (J.stop i H ∧ Q (.ref D) H) ∨ (J.go i H ∧ ∃ Nx : Hp → Prop, (∀ H', Nx H' → ∃ m', m' < m ∧ W (i + 1) m' H') ∧ ∀ x H', J.yld i H x H' → g x (wipe σ vs) H' fun σ2 H2 => wipe σ2 vs = wipe σ vs ∧ tt σ2 H2 fun b H3 =>
    if b = true then te σ2 H3 fun y H4 => ∃ (c : Str) (S : Str → Bool) (n : Nat), y = .str c ∧ H4 D = some (SetSO w D S n) ∧ n + 1 < scanBound ∧ Nx (upd H4 D (SetSO w D (fun j => S j || decide (j = c)) (if S c = true then n else n + 1))) else Nx H3)
theorem scS_core {pins : List (Addr × Obj)} {s : Shared} {σ : L2.St} {H : Hp} {Q : VK} {elt tg iter : Expr} {ifs : List Expr} {scope : Scope} {own : List (Str × Nat)} {pos pos' : Pos} {wi : TI} {g : TG} {tt : TT} {te : TE} {use : Option (Value → Sem Unit)} {Qf : Value → Shared → Prop}
    (hc : X.calm = true) (hN : X.N.Nodup) (I : Inv X pins σ H s) (hi : PI X tg iter wi) (ok : BlkOk X.N X.env.scope scope own)
    (hg : ∀ (s : Shared) (H : Hp) (C : Addr) (cl : List (Str × Addr)) (fp : List Addr), PG (X.blk s H scope (compEnvC scope cl C X.env) fp) tg g) (ht : ∀ (s : Shared) (H : Hp) (C : Addr) (cl : List (Str × Addr)) (fp : List Addr), PTs (X.blk s H scope (compEnvC scope cl C X.env) fp) ifs tt)
    (he : ∀ (s : Shared) (H : Hp) (C : Addr) (cl : List (Str × Addr)) (fp : List Addr), PE (X.blk s H scope (compEnvC scope cl C X.env) fp) elt te) (hs : ∀ x, foldedSetIterable iter X.env x = pure x)
    (h : tScS X.w wi g tt te (own.map (·.2)) σ H Q)
    (hRR : ∀ D C s' m H', Inv X pins σ H' s' → Q (.ref D) H' → s'.heap.Ns C m → FpOk X pins H' C → compPost (model X.prog X.w) X.A X.xe use Qf (.ref D) C (.ok .next) s') :
    wpAny (model X.prog X.w) X.A (comprehension (.SetComp elt [⟨tg, iter, ifs, 0⟩] scope pos) scope X.env pos' (newSet (.type "set")) false (eval iter X.env) use) Qf X.xe s := by
  have hfree : ∀ y ∈ scope.names, y.2 = .free → ∃ c, X.env.cells.lookup y.1 = some c := fun y hy e => by
    rcases ok.free y hy e with k | k
    · exact I.ok.has _ (.inl k)
    · exact I.ok.has _ (.inr k)
  refine PySem.wpAny_comprehension_free (use := use) rfl hs (closure_ok hfree) ok.kind (fun y hy e => by rw [ok.uniq y hy, e])
    (thn (hi.run pins s σ H _ I h) fun xv s1 hx => thn hx fun itv s2 h2 => ?_)
  obtain ⟨it, fp, tn, J, H2, e, I2, T, st2, f2, q⟩ := h2
  subst e
  refine PpSet.newSet_ok (newEnv_comp ?_)
  generalize hD : s2.heap.objs.size = D
  have hDn : H2 D = none := I2.hok.fresh (Nat.le_of_eq hD)
  obtain ⟨W, ⟨m0, w0⟩, turn⟩ := q D hDn
  -- the new list
  generalize hs3 : ({ s2 with heap := s2.heap.push { cls := .type "set", dict := none, data := .set #[] 0 (.fresh 0 0 (!X.w.params.followText "set-order")) } } : Shared) = s3
  have I3 : Inv X pins σ (upd H2 D (SetSO X.w D (fun _ => false) 0)) s3 := by
    rw [← hs3]
    refine I2.laid (t' := s2.toks) (fun b o e => Heap.get?_push_of_some _ e) (Nat.le_of_eq hD) ?_
    rw [← hD]
    exact setSO_new (setS_fresh X.w)
  have h3 : s3.heap = s2.heap.push { cls := .type "set", dict := none, data := .set #[] 0 (.fresh 0 0 (!X.w.params.followText "set-order")) } := by rw [← hs3]
  have sz : ∀ b ∈ fp, b < s2.heap.objs.size := fun b hb => by
    obtain ⟨o, e, _⟩ := T.obj _ _ st2 b hb
    exact Heap.lt_size e
  have f3 : ∀ b ∈ fp, FpOk X pins (upd H2 D (SetSO X.w D (fun _ => false) 0)) b ∧ b < s3.heap.objs.size := fun b hb => by
    have hlt := sz b hb
    refine ⟨⟨?_, (f2 b hb).2⟩, by rw [h3, Heap.size_push]; exact Nat.lt_succ_of_lt hlt⟩
    rw [upd_ne (by rw [← hD]; exact Nat.ne_of_lt hlt)]
    exact (f2 b hb).1
  have st3 : tn 0 s3.heap := T.keep _ _ _ st2 fun b _ o e => by rw [h3]; exact Heap.get?_push_of_some _ e
  have I4 := block_start I3 ok hN f3
  have pg := hg s3 (upd H2 D (SetSO X.w D (fun _ => false) 0)) s3.heap.objs.size (cellsFrom (s3.heap.objs.size + 1) scope.names (cloFrom X.env.cells scope.names [])) fp
  have pt := ht s3 (upd H2 D (SetSO X.w D (fun _ => false) 0)) s3.heap.objs.size (cellsFrom (s3.heap.objs.size + 1) scope.names (cloFrom X.env.cells scope.names [])) fp
  have pe := he s3 (upd H2 D (SetSO X.w D (fun _ => false) 0)) s3.heap.objs.size (cellsFrom (s3.heap.objs.size + 1) scope.names (cloFrom X.env.cells scope.names [])) fp
  show codeAny _ _ (.compStart (.SetComp elt [⟨tg, iter, ifs, 0⟩] scope pos) 0 (.ref it) (.ref D) (compEnvC scope (cellsFrom (s3.heap.objs.size + 1) scope.names (cloFrom X.env.cells scope.names [])) s3.heap.objs.size X.env)) (compPost (model X.prog X.w) X.A X.xe use Qf (.ref D) s3.heap.objs.size) { s3 with heap := pushCells (s3.heap.push { cls := .type "dict", data := .dict #[] }) scope.names }
  have nfp : ∀ b ∈ fp, (upd H2 D (SetSO X.w D (fun _ => false) 0)) b = none := fun b hb => (f3 b hb).1.1
  generalize hce : compEnvC scope (cellsFrom (s3.heap.objs.size + 1) scope.names (cloFrom X.env.cells scope.names [])) s3.heap.objs.size X.env = ce at I4 pg pt pe ⊢
  have cL : ce.locals = s3.heap.objs.size := by subst hce; rfl
  generalize hH3 : upd H2 D (SetSO X.w D (fun _ => false) 0) = H3 at I3 I4 pg pt pe w0 nfp f3
  generalize hs4 : ({ s3 with heap := pushCells (s3.heap.push { cls := .type "dict", data := .dict #[] }) scope.names } : Shared) = s4 at I4 ⊢
  have st4 : tn 0 s4.heap := T.keep _ _ _ st3 fun b _ o e => by rw [← hs4]; exact pushCells_keeps _ _ _ _ (Heap.get?_push_of_some _ e)
  have stat : ∀ {σ' : L2.St} {H' : Hp} {s' : Shared}, Inv (X.blk s3 H3 scope ce fp) [] σ' H' s' → (∀ b ∈ fp, H' b = none) → ∀ b ∈ fp, FpOk (X.blk s3 H3 scope ce fp) [] H' b := fun {σ' H' s'} I' hn b hb =>
    ⟨hn b hb, (I'.ok.exf b hb).1, I'.ok.exfs b hb, .inl hb, fun x c e => (I'.ok.exf b hb).2 x c e, fun p hp => absurd (show p ∈ ([] : List (Addr × Obj)) ++ [] from hp) (by simp)⟩
  have loop : codeAny (model X.prog X.w) X.A (.compLoop (.SetComp elt [⟨tg, iter, ifs, 0⟩] scope pos) 0 (.ref it) (.ref D) ce) (compPost (model X.prog X.w) X.A X.xe use Qf (.ref D) s3.heap.objs.size) s4 := by
    refine PpSet.compLoopS_any (fun n s' => ∃ i H', Inv (X.blk s3 H3 scope ce fp) [] (wipe σ (own.map (·.2))) H' s' ∧ tn i s'.heap ∧ (∀ b ∈ fp, H' b = none) ∧ W i n H') ?_ m0 ⟨0, H3, I4, st4, nfp, w0⟩
    rintro n s5 ⟨i, H5, I5, st5, n5, w5⟩
    rcases turn i n H5 w5 with ⟨stop, qq⟩ | ⟨go, Nx, hNx, step⟩
    · have td := T.done (X.blk s3 H3 scope ce fp) rfl rfl rfl hc i [] s5 _ H5 (fun _ _ => False) I5 (stat I5 n5) st5 stop
      refine thnF td fun r s6 ⟨hr, I6⟩ => ?_
      subst hr
      -- back in the def's context
      have I7 : Inv X pins σ H5 s6 := I3.call' (ch := fp) I6.os I6.base I6.hok I6.bare fun b hb => ⟨(f3 b hb).1.2.2.2.1, (f3 b hb).1.2.1, (f3 b hb).1.2.2.2.2.1, (f3 b hb).1.2.2.2.2.2⟩
      have nC : H5 s3.heap.objs.size = none := by
        have z : H5 ce.locals = none := I6.free
        rw [cL] at z
        exact z
      obtain ⟨m, hn, _⟩ := I6.loc
      have hn : s6.heap.Ns ce.locals m := hn
      rw [cL] at hn
      exact hRR D s3.heap.objs.size s6 m H5 I7 qq hn (I3.fpOk (Nat.le_refl _) nC)
    · have ti := T.item (X.blk s3 H3 scope ce fp) rfl rfl rfl hc i [] s5 _ H5 (fun _ _ => False) I5 (stat I5 n5) st5 go
      refine thnF ti fun r s6 ⟨u, hr, h6⟩ => ?_
      subst hr
      refine thnF h6 fun _ s7 ⟨x, H7, I7, r7, y7, st7, n7⟩ => ?_
      have I7' := I7.pinned (stat I7 n7) (T.obj _ _ st7)
      refine thnF (pg.run _ s7 _ H7 x u _ I7' r7 (step x H7 y7)) fun _ s8 ⟨σ8, H8, I8, hw8, q8⟩ => ?_
      refine thnF (pt.run _ s8 σ8 H8 _ I8 q8) fun b s9 ⟨H9, I9, q9⟩ => ?_
      -- the turn's end
      have fin : ∀ {s' : Shared} {H' : Hp}, Inv (X.blk s3 H3 scope ce fp) ([] ++ pinsAt fp s7.heap) σ8 H' s' → Nx H' → ∃ m, m < n ∧ ∃ i H', Inv (X.blk s3 H3 scope ce fp) [] (wipe σ (own.map (·.2))) H' s' ∧ tn i s'.heap ∧ (∀ b ∈ fp, H' b = none) ∧ W i m H' := fun {s' H'} I' nx => by
        obtain ⟨m', hm, w'⟩ := hNx H' nx
        have pin' : ∀ b ∈ fp, ∀ o, s7.heap.get? b = some o → s'.heap.get? b = some o ∧ H' b = none := fun b hb o e =>
          let z := I'.pin (b, o) (List.mem_append_right _ (List.mem_append_right _ (mem_pinsAt hb e)))
          ⟨z.1, z.2.1⟩
        have hl : (wipe σ (own.map (·.2))).length = σ8.length := by rw [← hw8, wipe_length]
        refine ⟨m', hm, i + 1, H', (I'.unpinned (pins := [])).weak hl (fun j v e => ?_), T.keep _ _ _ st7 fun b hb o e => (pin' b hb o e).1, fun b hb => ?_, w'⟩
        · rw [← hw8] at e
          exact (wipe_some e).1
        · obtain ⟨o, e, _⟩ := T.obj _ _ st7 b hb
          exact (pin' b hb o e).2
      cases b with
      | false =>
        simp only [Bool.false_eq_true, if_false] at q9 ⊢
        exact fin I9 q9
      | true =>
        simp only [if_true] at q9 ⊢
        refine thnF (pe.run _ s9 σ8 H9 _ I9 q9) fun z s10 ⟨yv, H10, I10, r10, cb, S0, n0, ey, hD10, hz10, nx⟩ => ?_
        subst ey
        obtain ⟨tkz, rfl⟩ := r10
        exact addS_ok (X := X.blk s3 H3 scope ce fp) I10 hD10 hz10 fun s11 I11 => fin I11 nx
  exact PpSet.codeAny_compStart_set loop (T.self X.A 0 _ _ _ st4 loop)
/-- as a value -/
theorem pe_scS {elt tg iter : Expr} {ifs : List Expr} {scope : Scope} {own : List (Str × Nat)} {pos : Pos} {wi : TI} {g : TG} {tt : TT} {te : TE} (hc : X.calm = true) (hN : X.N.Nodup) (hi : PI X tg iter wi) (ok : BlkOk X.N X.env.scope scope own)
    (hg : ∀ (s : Shared) (H : Hp) (C : Addr) (cl : List (Str × Addr)) (fp : List Addr), PG (X.blk s H scope (compEnvC scope cl C X.env) fp) tg g) (ht : ∀ (s : Shared) (H : Hp) (C : Addr) (cl : List (Str × Addr)) (fp : List Addr), PTs (X.blk s H scope (compEnvC scope cl C X.env) fp) ifs tt)
    (he : ∀ (s : Shared) (H : Hp) (C : Addr) (cl : List (Str × Addr)) (fp : List Addr), PE (X.blk s H scope (compEnvC scope cl C X.env) fp) elt te) (hs : ∀ x, foldedSetIterable iter X.env x = pure x := by intro _; rfl) :
    PE X (.SetComp elt [⟨tg, iter, ifs, 0⟩] scope pos) (tScS X.w wi g tt te (own.map (·.2))) := by
  refine ⟨fun pins s σ H Q I h => ?_⟩
  rw [PpSet.eval_SetComp]
  refine scS_core hc hN I hi ok hg ht he hs h fun D C s' m H' I' q hn f => ⟨m, hn, fun h'' sb => ?_⟩
  obtain ⟨f0, f1, f2, f3, f4, f5⟩ := f
  exact ⟨.ref D, H', I'.turned (t' := s'.toks) (fun b o hb e => (sb.2 b hb).trans e) f0 f1 f3 f4 f5, rfl, q⟩
end
section
variable {P : Program} {w : World} {A : Around} {E : Value → Shared → Prop} {s : Shared}
theorem set_update_txt {I : Addr} {fp wr : List Addr} {G : Array GenState → Array GenState → Prop} {n : Nat} {Pv : Nat → Value → Prop} {St : Nat → Shared → Prop} {R : Result → Shared → Prop}
    (W : WalksS P w A.in1 I fp wr G n Pv St) (S : Addr) (hSf : S ∉ fp) (ns : List Str) (hn : n = ns.length) (hb : ns.length + 1 < scanBound) (hval : ∀ i v, Pv i v → ∃ k t, ns[i]? = some k ∧ v = .str k t) :
    ∀ (k i : Nat) (s : Shared), n - i = k → i ≤ n → St i s → (∃ c, c ≤ i ∧ SetS w s.heap S (fun j => decide (j ∈ ns.take i)) c) →
      (∀ s' c, Moved (S :: wr) G s s' → c ≤ n → SetS w s'.heap S (fun j => decide (j ∈ ns)) c → R (.ok (.ret .none)) s') →
      codeAny (model P w) A (.builtin "set.update.loop" ⟨[.ref S, .ref I], []⟩) R s := by
  have hSw : S ∉ wr := fun h => hSf (W.sub _ h)
  have hsub : ∀ b ∈ wr, b ∈ S :: wr := fun b hb => List.mem_cons_of_mem _ hb
  intro k
  induction k with
  | zero =>
    intro i s hk' hi hst ⟨c, hc, hS⟩ hR
    have hin : i = n := by omega
    subst hin
    refine codeAny_builtin PyProof.Rows.F.entry_set_update_loop ?_
    rw [Around.under_plainId PyProof.Rows.F.plain_set_update_loop _]
    show wpAny _ A.in1 (pyNext (.ref I) >>= _) _ _ s
    refine wpAny_bind (W.done s _ _ hst fun s' hm => ?_)
    show wpAny _ A.in1 (ret Value.none) _ _ s'
    have e : ns.take i = ns := List.take_of_length_le (by omega)
    rw [e] at hS
    exact wpAny_pure (hR s' c (hm.mono hsub) hc (hS.at fun o e => hm.heap S o hSw e))
  | succ k ih =>
    intro i s hk' hi hst ⟨c, hc, hS⟩ hR
    have hlt : i < n := by omega
    refine codeAny_builtin PyProof.Rows.F.entry_set_update_loop ?_
    rw [Around.under_plainId PyProof.Rows.F.plain_set_update_loop _]
    show wpAny _ A.in1 (pyNext (.ref I) >>= _) _ _ s
    refine wpAny_bind (W.item i s _ _ hlt hst fun v s' hP hst' hm => ?_)
    obtain ⟨z, t, hz, rfl⟩ := hval i v hP
    have hS' : SetS w s'.heap S (fun j => decide (j ∈ ns.take i)) c := hS.at fun o e => hm.heap S o hSw e
    show wpAny _ A.in1 (holding [Value.str z t] (setAdd S (.str z t)) >>= _) _ _ s'
    refine wpAny_bind (wpAny_holding ?_)
    unfold setAdd
    refine wpAny_holding ?_
    refine wpAny_bind ((strKind P w).pyHash (k := z) (Froz.is_str _ _) ?_)
    refine setS_add_hashed (s := { s' with toks := s'.toks + 1 }) hS' (by omega) fun h' hsb hS2 => ?_
    have hS3 : SetS w h' S (fun j => decide (j ∈ ns.take (i + 1))) (if decide (z ∈ ns.take i) = true then c else c + 1) := hS2.congr fun j => by
      rw [List.take_add_one, hz]
      simp [List.mem_append]
    have hc3 : (if decide (z ∈ ns.take i) = true then c else c + 1) ≤ i + 1 := by
      split <;> omega
    refine wpAny_pure ⟨plainId_quiet PyProof.Rows.F.plain_set_update_loop _, ih (i + 1) _ (by omega) hlt (W.frame _ s' _ _ hst' (Nat.le_succ _) fun b hb o e => ?_) ⟨_, hc3, hS3⟩ fun s'' c2 hm'' hc'' hS'' => ?_⟩
    · rw [hsb.2 b (fun h : b = S => hSf (by rw [← h]; exact hb))]; exact e
    · refine hR s'' c2 (Moved.trans W.gtrans ((hm.mono hsub).then_heap (Nat.le_succ _) fun b o hb e => ?_) hm'') hc'' hS''
      rw [hsb.2 b (fun h : b = S => hb (by rw [h]; exact List.mem_cons_self))]; exact e
set_option maxRecDepth 100000 in
set_option maxHeartbeats 3200000 in
theorem call_set_lstS {l : Addr} {items : Array Value} (ns : List Str) {Q : Value → Shared → Prop} (hh : A.handled = none) (hl : s.heap.IsList l items) (hit : StrsAre items.toList ns) (hb : ns.length + 1 < scanBound)
    (h : ∀ (h' : Heap) (tk c : Nat), SetS w h' s.heap.objs.size (fun j => decide (j ∈ ns)) c → c ≤ ns.length → (∀ b o, s.heap.get? b = some o → h'.get? b = some o) → Q (.ref s.heap.objs.size) { s with heap := h', toks := tk }) :
    wpAny (model P w) A (call (.type "set") [.ref l]) Q E s := by
  have hisz : items.size = ns.length := by
    have q := StrsAre.length hit
    rw [Array.length_toList] at q
    exact q
  obtain ⟨c, tl, hmro⟩ := PySem.F.called_set.mro
  have hmade := PySem.F.called_set.made
  have hsub := PySem.F.called_set.sub
  refine wpAny_call (codeAny_of_tree ?_)
  show wpAny _ _ (callAny (.type "set") _) _ _ _
  refine wpAny_pure ⟨Code.quiet_builtin _ (by decide +kernel), codeAny_builtin PySem.F.entry_type_call ?_⟩
  rw [Around.under_plain (weight_type_call_type "set" [.ref l] []) rfl]
  have h1 := PySem.F.called_set.notType
  have h2 := PySem.F.called_set.canCreate
  have hct := PySem.F.typeCall_set_1 (.ref l)
  repeat (any_goals (first | assumption | wp_step))

  refine codeAny_mono (code_set_led1 (.ref l) (E := E) (Q₁ := fun obj s₁ => obj = .ref s.heap.objs.size ∧ s₁ = { s with heap := s.heap.push { cls := .type "set", dict := none, data := .set #[] 0 (.fresh 0 0 (!w.params.followText "set-order")) } }) ⟨rfl, rfl⟩) fun r s₁ hr => ?_
  cases r with
  | error e => exact hr
  | ok fl =>
    cases fl with
    | ret obj =>
      obtain ⟨rfl, rfl⟩ := hr
      have hS : (s.heap.push { cls := .type "set", dict := none, data := .set #[] 0 (.fresh 0 0 (!w.params.followText "set-order")) }).get? s.heap.objs.size = some { cls := .type "set", dict := none, data := .set #[] 0 (.fresh 0 0 (!w.params.followText "set-order")) } := Heap.get?_push_size _ rfl
      have hT : Shared.TypeIs { s with heap := s.heap.push { cls := .type "set", dict := none, data := .set #[] 0 (.fresh 0 0 (!w.params.followText "set-order")) } } (.ref s.heap.objs.size) "set" := ⟨_, hS, rfl⟩
      have hli := PySem.F.called_set.init.lookup
      have hbi := PySem.F.called_set.init.bind (.ref s.heap.objs.size)
      repeat (any_goals (first | assumption | wp_step))

      refine codeAny_mono (codeAny_call_builtin (R := wants (fun r s₂ => r = .none ∧ ∃ h' tk c, s₂ = { s with heap := h', toks := tk } ∧ SetS w h' s.heap.objs.size (fun j => decide (j ∈ ns)) c ∧ c ≤ ns.length ∧
          (∀ b o, s.heap.get? b = some o → h'.get? b = some o)) E) PySem.F.called_set.init.plain PySem.F.entry_set_init (check_set_init_1 hT ?_)) fun r₂ s₂ hr₂ => ?_
      · obtain ⟨ol, hol, hcl, nl, hdl⟩ := hl
        obtain ⟨ocls, odict, odata, oslots⟩ := ol
        simp only at hcl hdl
        subst hcl; subst hdl
        have hol' : (s.heap.push { cls := .type "set", dict := none, data := .set #[] 0 (.fresh 0 0 (!w.params.followText "set-order")) }).get? l = some { cls := .type "list", dict := odict, data := .seq items nl, slots := oslots } := Heap.get?_push_of_some _ hol
        have hsls := PySem.F.sub_list_set
        have hslf := PySem.F.sub_list_frozenset
        have hne : (Value.type "list" == Value.type "dict") = false := by decide
        have hl1 : (s.heap.push { cls := .type "set", dict := none, data := .set #[] 0 (.fresh 0 0 (!w.params.followText "set-order")) }).IsList l items := ⟨_, hol', rfl, nl, rfl⟩
        unfold Builtin.«set.__init__» noKeywords Builtin.Frozenset.updateFrom
        generalize hPI : pyIter = PI
        wp_walk
        subst hPI

        refine wpAny_pyIter_list hl1 ?_
        refine wpAny_bind (wpAny_runValue ?_)
        have hlS : l < s.heap.objs.size := Heap.lt_size hol
        have hh3 : A.in1.in1.in1.handled = none := by simp [hh]
        have hz1 : (s.heap.push { cls := .type "set", dict := none, data := .set #[] 0 (.fresh 0 0 (!w.params.followText "set-order")) }).objs.size = s.heap.objs.size + 1 := Heap.size_push ..
        have hneI : l ≠ (s.heap.push { cls := .type "set", dict := none, data := .set #[] 0 (.fresh 0 0 (!w.params.followText "set-order")) }).objs.size := by
          rw [Heap.size_push]; exact Nat.ne_of_lt (Nat.lt_succ_of_lt hlS)
        have hSf : s.heap.objs.size ∉ [(s.heap.push { cls := .type "set", dict := none, data := .set #[] 0 (.fresh 0 0 (!w.params.followText "set-order")) }).objs.size, l] := by
          rw [Heap.size_push]; simp only [List.mem_cons, List.mem_singleton, List.not_mem_nil, or_false, not_or]
          exact ⟨Nat.ne_of_lt (Nat.lt_succ_self _), Nat.ne_of_gt hlS⟩
        have hval : ∀ (i : Nat) (v : Value), items[i]? = some v → ∃ k t, ns[i]? = some k ∧ v = .str k t := fun i v hv => by
          obtain ⟨y, t, e1, e2⟩ := StrsAre.item hit i v (by rw [Array.getElem?_toList]; exact hv)
          exact ⟨y, t, e2, e1⟩
        refine set_update_txt ((Walks.list hh3 _ l hneI items).toS) s.heap.objs.size
          hSf ns hisz hb hval (items.size - 0) 0 _ (by omega) (Nat.zero_le _)
          ⟨⟨_, Heap.get?_push_size _ rfl, rfl, rfl⟩, (hl1.push _)⟩ ?hS0 ?hR
        case hS0 =>
          have hget : ((s.heap.push { cls := .type "set", dict := none, data := .set #[] 0 (.fresh 0 0 (!w.params.followText "set-order")) }).push { cls := .type "list_iterator", data := .fields #[.ref l, .int 0 0] }).get? s.heap.objs.size
              = some { cls := .type "set", dict := none, data := .set #[] 0 (.fresh 0 0 (!w.params.followText "set-order")) } := Heap.get?_push_of_some _ hS
          exact ⟨0, Nat.le_refl 0, setS_new_at (fun k => by simp) hget⟩
        case hR =>
          intro s' c' hm hc' hS'
          obtain ⟨h', g2, d', tk', os'⟩ := s'
          have eg : g2 = s.gens := hm.gens
          have ed : d' = s.drawn := hm.drawn
          have eo : os' = s.os := hm.os
          subst eg; subst ed; subst eo
          show wpAny _ _ _ _ _ _
          refine wpAny_pure ?_
          show wpAny _ _ (ret Value.none) _ _ _
          rw [hisz] at hc'
          refine wpAny_pure ⟨rfl, h', tk', c', rfl, hS', hc', fun b o e => ?_⟩
          have hb0 : b < s.heap.objs.size := Heap.lt_size e
          have hb1 : b ≠ s.heap.objs.size := Nat.ne_of_lt hb0
          have hb2 : b ≠ (s.heap.push { cls := .type "set", dict := none, data := .set #[] 0 (.fresh 0 0 (!w.params.followText "set-order")) }).objs.size := by
            rw [Heap.size_push]; exact Nat.ne_of_lt (Nat.lt_succ_of_lt hb0)
          exact hm.heap b o (by simp only [List.mem_cons, List.mem_singleton, List.not_mem_nil, or_false, not_or]; exact ⟨hb1, hb2⟩) (Heap.get?_push_of_some _ (Heap.get?_push_of_some _ e))

      · cases r₂ with
        | error e => exact hr₂
        | ok fl₂ =>
          cases fl₂ with
          | ret r =>
            obtain ⟨rfl, h', tk, c', rfl, hS', hc', hk'⟩ := hr₂
            repeat (any_goals (first | assumption | wp_step))
            exact h _ _ _ hS' hc' hk'
          | _ => exact hr₂.elim
    | _ => exact hr.elim

end
end PD
end
section
set_option Elab.async false
set_option linter.all false
set_option maxRecDepth 100000
set_option maxHeartbeats 4000000
/-! PDN: len and sorted of sets of texts, set of a list of texts. -/
namespace PD
open PySem PySem.Spec PyProof.Rows L2
def keyV : Value → Str
  | .str x _ => x
  | _ => ⟨#[]⟩
abbrev leS (a b : Str) : Bool := decide (a.cps.toList ≤ b.cps.toList)
theorem each_txt : ∀ (l : List Value), (∀ v ∈ l, ∃ x t, v = Value.str x t) → PySem.W.EachIs (fun v b => ∃ t, v = Value.str b t) l (l.map keyV)
  | [], _ => .nil
  | v :: l, h => by
    obtain ⟨x, t, rfl⟩ := h v List.mem_cons_self
    exact .cons ⟨t, rfl⟩ (each_txt l fun u hu => h u (List.mem_cons_of_mem _ hu))
theorem each_vals : ∀ {us : List Value} {bs : List Str}, PySem.W.EachIs (fun v b => ∃ t, v = Value.str b t) us bs → Vals (bs.map V.str) us
  | _, _, .nil => .nil
  | _, _, .cons r t => .cons r (each_vals t)
theorem leS_total (a b : Str) : (leS a b || leS b a) = true := by
  simp only [Bool.or_eq_true, decide_eq_true_eq]
  exact List.le_total _ _
theorem leS_trans (a b c : Str) (h1 : leS a b = true) (h2 : leS b c = true) : leS a c = true := by
  simp only [decide_eq_true_eq] at *
  exact List.le_trans h1 h2
theorem str_ext {a b : Str} (h : a.cps.toList = b.cps.toList) : a = b := by
  cases a with | mk x => cases b with | mk y => simp only at h; congr 1; exact Array.toList_inj.mp h
theorem strict_of : ∀ l : List Str, l.Pairwise (fun a b => leS a b = true) → l.Nodup → l.Pairwise (fun a b => a.cps.toList < b.cps.toList)
  | [], _, _ => List.Pairwise.nil
  | x :: l, h, d => by
    obtain ⟨h1, h2⟩ := List.pairwise_cons.mp h
    obtain ⟨d1, d2⟩ := List.nodup_cons.mp d
    refine List.pairwise_cons.mpr ⟨fun y hy => ?_, strict_of l h2 d2⟩
    have a := of_decide_eq_true (h1 y hy)
    rcases Classical.em (x.cps.toList < y.cps.toList) with q | q
    · exact q
    · have e : x.cps.toList = y.cps.toList := List.le_antisymm a (List.not_lt.mp q)
      exact absurd (str_ext e ▸ hy) d1
section
variable {P : Program} {w : World} {A : Around} {E : Value → Shared → Prop} {s : Shared} {a : Addr}
theorem sorted_setS {S : Str → Bool} {n : Nat} {Q : Value → Shared → Prop} (R : SetS w s.heap a S n) (hh : A.handled = none) (hu : A.units + 3 < cLine)
    (hQ : ∀ s' p (out : List Value) (c : Nat) (ns : List Str), (∀ b o, s.heap.get? b = some o → s'.heap.get? b = some o) → s'.gens = s.gens → s'.os = s.os → s.heap.objs.size ≤ p →
      s'.heap.get? p = some (seqObj "list" out.toArray c) → Vals (ns.map V.str) out → ns.Pairwise (fun a b => a.cps.toList < b.cps.toList) → (∀ k, k ∈ ns ↔ S k = true) → ns.length = n → Q (.ref p) s') :
    wpAny (model P w) A (call (.builtin "sorted") [.ref a]) Q E s := by
  obtain ⟨o, es, ep, t, ho, hex, hd, g, nd, hm, hb, hf, hn, hr, hl⟩ := R
  refine Calls.call_function_entry kind_sorted plain_sorted entry_sorted (args_sorted1 _) ?_
  unfold Builtin.«sorted»
  refine wpAny_bind (m := checkCount "sorted" 1 1 _) (wpAny_pure ?_)
  refine wpAny_bind (collect_set (A := A.in1) hh ⟨o, ho, hex.1, hd⟩ hf hb hr hl fun s1 vs k1 hz g1 o1 pm => ?_)
  have hvl : vs.length = n := by rw [pm.length_eq, List.length_map, Array.length_toList]; exact hn
  have hvt : ∀ v ∈ vs, ∃ x t, v = Value.str x t := fun v hv => by
    obtain ⟨e, he, q⟩ := List.mem_map.mp (pm.mem_iff.mp hv)
    obtain ⟨k, tk, h1, _⟩ := g e he
    exact ⟨k, tk, by rw [← q]; exact h1⟩
  have pk : (vs.map keyV).Perm (es.toList.map keyS) := by
    have q := pm.map keyV
    rw [List.map_map] at q
    exact q
  have hlt : vs.length < scanBound := by rw [hvl, ← hn]; exact hb
  have hsb : scanBound = 4096 := rfl
  refine wpAny_bind (wpAny_newList ?_ (by rw [sizeLine_eq]; omega))
  have hoL : (s1.heap.push (seqObj "list" vs.toArray 0)).get? s1.heap.objs.size = some (seqObj "list" vs.toArray 0) := Heap.get?_push_size _ rfl
  refine wpAny_bind (wpAny_holding (PySem.W.list_sort_data (s := { s1 with heap := s1.heap.push (seqObj "list" vs.toArray 0) }) (enc := PyData.str) hoL (each_txt vs hvt) ((each_txt vs hvt).mono fun v b ⟨t, e⟩ => ⟨[], by rw [e]; exact Reads.str b t, by simp⟩)
    (PySem.W.AllAlike.of fun b b' => rfl) (PySem.W.Sortable.others fun b => ⟨(fun z => by cases z), (fun xs z => by cases z)⟩) (by rw [List.length_map, sizeLine_eq]; omega) (fun b _ => by show A.in1.units + 1 + 0 < cLine; have e : A.in1.units ≤ A.units + 1 := (by first | exact Nat.le_refl _ | exact Nat.le_succ _); omega) fun out hlen he => ?_))
  obtain ⟨c, hc⟩ := sortedHeap_at (vs := vs) (out := out.toArray) hoL
  rw [PySem.W.dataLe_str (fun b => b)] at he
  have pn : ((vs.map keyV).mergeSort leS).Perm (es.toList.map keyS) := (List.mergeSort_perm _ _).trans pk
  have pw := List.pairwise_mergeSort (le := leS) leS_trans leS_total (vs.map keyV)
  refine wpAny_pure ⟨_, rfl, hQ _ s1.heap.objs.size out c _ (fun b u e => ?_) g1 o1 hz hc (each_vals he) (strict_of _ pw (pn.nodup_iff.mpr nd)) (fun k => by rw [pn.mem_iff, ← hm k]) ?_⟩
  · have q := k1 b u e
    have hlt := Heap.lt_size q
    show (sortedHeap (s1.heap.push (seqObj "list" vs.toArray 0)) s1.heap.objs.size vs out.toArray).get? b = some u
    rw [sortedHeap_old (Nat.ne_of_lt hlt) (by rw [size_push']; exact Nat.lt_succ_of_lt hlt)]
    exact Heap.get?_push_of_some _ q
  · rw [pn.length_eq, List.length_map, Array.length_toList]; exact hn
end

/-! ### rules -/
section
variable {X : Cx}
abbrev ltT (a b : Str) : Prop := a.cps.toList < b.cps.toList
def rSortS (w : World) : List V → Hp → VK → Prop := fun vs H Q => ∃ (a : Addr) (S : Str → Bool) (n : Nat), vs = [V.ref a] ∧ H a = some (SetSO w a S n) ∧ ∀ (ns : List Str) (p : Addr), ns.Pairwise ltT → (∀ k, k ∈ ns ↔ S k = true) → H p = none → Q (.ref p) (upd H p (.lst (ns.map V.str)))
theorem cr_sortS (hc : X.calm = true) (hu : X.A.units + 3 < cLine) : CallR X (.builtin "sorted") (rSortS X.w) := by
  intro pins s σ H vs us Q I r h
  obtain ⟨a, S, n, rfl, ha, q⟩ := h
  have R := setSO_get I ha
  have hb : n < 4096 := by
    obtain ⟨o, es, ep, t, ho, hex, hd, g, nd, hm, hb, hf, hn, hr, hl⟩ := R
    rw [← hn]; exact hb
  rw [Vals.ref1 r]
  refine sorted_setS R (I.ok.hd hc) hu fun s' p out c ns k g o hp hg hi hs hm hl => ?_
  have hlen : (ns.map V.str).length ≤ sizeLine := by rw [List.length_map, hl, sizeLine_eq]; omega
  have hn : H p = none := I.hok.fresh hp
  have J : L2.Inv X pins σ (upd H p (.lst (ns.map V.str))) { s with heap := s'.heap, gens := s'.gens, drawn := s'.drawn, toks := s'.toks } :=
    I.call (ch := []) (Un.laid k hp hn) (I.hok.laid k hp ⟨hlen, out, c, hi, hg⟩) (by rw [g]; exact I.bare) (fun _ z => nomatch z)
  have e : s' = { s with heap := s'.heap, gens := s'.gens, drawn := s'.drawn, toks := s'.toks } := by
    cases s'
    cases s
    cases o
    rfl
  rw [e]
  exact ⟨.ref p, _, J, rfl, q ns p hs hm hn⟩
theorem SetS.count {w : World} {h : Heap} {a : Addr} {S : Str → Bool} {n : Nat} {ks : List Str} (R : SetS w h a S n) (nd : ks.Nodup) (hk : ∀ k, k ∈ ks ↔ S k = true) : ks.length = n := by
  obtain ⟨o, es, ep, t, ho, hex, hd, g, nd2, hm, hb, hf, hn, hr, hl⟩ := R
  have p : ks.Perm (es.toList.map keyS) := (List.perm_ext_iff_of_nodup nd nd2).mpr fun k => (hk k).trans (hm k)
  rw [p.length_eq, List.length_map, Array.length_toList]; exact hn
def rLenS (w : World) : List V → Hp → VK → Prop := fun vs H Q => ∃ (a : Addr) (S : Str → Bool) (n : Nat) (ks : List Str), vs = [V.ref a] ∧ H a = some (SetSO w a S n) ∧ ks.Nodup ∧ (∀ k, k ∈ ks ↔ S k = true) ∧ Q (.int ks.length) H
theorem cr_lenS : CallR X (.builtin "len") (rLenS X.w) := by
  intro pins s σ H vs us Q I r h
  obtain ⟨a, S, n, ks, rfl, ha, nd, hk, q⟩ := h
  have R := setSO_get I ha
  rw [R.count nd hk] at q
  obtain ⟨o, es, ep, t, ho, hex, hd, _, _, _, hb, hf, hn, _⟩ := R
  have hb' : es.size < 4096 := hb
  rw [Vals.ref1 r]
  refine call_len_set ho hex hd hf (by omega) ⟨.int n, H, I.tok _, ⟨_, by rw [hn]⟩, q⟩
def rSetS (K : PySem.W.Frag) (w : World) : List V → Hp → VK → Prop := fun vs H Q => ∃ (l : Addr) (ss : List Str), vs = [V.ref l] ∧ SqL K H l (ss.map V.str) ∧ ss.length + 1 < scanBound ∧ ∀ (p : Addr) (n : Nat), H p = none → Q (.ref p) (upd H p (SetSO w p (fun j => decide (j ∈ ss)) n))
theorem cr_setS (hc : X.calm = true) : CallR X (.type "set") (rSetS X.K X.w) := by
  intro pins s σ H vs us Q I r h
  obtain ⟨l, ss, rfl, hq, hb, q⟩ := h
  obtain ⟨its, rv, pl, hz⟩ := I.list hq
  rw [Vals.ref1 r]
  refine call_set_lstS ss (I.ok.hd hc) pl.isList (by simpa using strsAre_of rv) hb fun h' tk c R _ hk => ?_
  have hn : H s.heap.objs.size = none := I.hok.fresh (Nat.le_refl _)
  exact ⟨.ref s.heap.objs.size, _, I.laid (t' := tk) hk (Nat.le_refl _) (setSO_new R), rfl, q _ c hn⟩
end

/-! ### the members in order -/
theorem ltS_iff : ∀ a b : List Nat, ltS a b = true ↔ a < b
  | [], [] => by simp [ltS]
  | [], b :: t => by simp [ltS]
  | a :: r, [] => by simp [ltS]
  | a :: r, b :: t => by
    rw [List.cons_lt_cons_iff]
    simp only [ltS, Bool.or_eq_true, decide_eq_true_eq, Bool.and_eq_true, beq_iff_eq, ltS_iff r t]
theorem insS_mem (x k : List Nat) : ∀ l : List (List Nat), k ∈ insS x l ↔ k = x ∨ k ∈ l
  | [] => by simp [insS]
  | y :: r => by
    unfold insS
    split
    · rename_i h
      have h : x = y := by simpa using h
      subst h; simp
    · split
      · simp
      · simp only [List.mem_cons, insS_mem x k r]
        constructor
        · rintro (h | h | h) <;> simp [h]
        · rintro (h | h | h) <;> simp [h]
theorem insS_srt (x : List Nat) : ∀ l : List (List Nat), l.Pairwise (· < ·) → (insS x l).Pairwise (· < ·)
  | [], _ => by simp [insS]
  | y :: r, h => by
    obtain ⟨h1, h2⟩ := List.pairwise_cons.mp h
    unfold insS
    split
    · exact h
    · rename_i hne
      have hne : x ≠ y := by simpa using hne
      split
      · rename_i hlt
        have hlt := (ltS_iff x y).mp hlt
        refine List.pairwise_cons.mpr ⟨fun z hz => ?_, h⟩
        rcases List.mem_cons.mp hz with e | hz
        · rw [e]; exact hlt
        · exact List.lt_trans hlt (h1 z hz)
      · rename_i hnl
        have hnl : ¬ x < y := fun z => hnl ((ltS_iff x y).mpr z)
        have hyx : y < x := by
          rcases Classical.em (y < x) with q | q
          · exact q
          · exact absurd (List.le_antisymm (List.not_lt.mp q) (List.not_lt.mp hnl)) hne
        refine List.pairwise_cons.mpr ⟨fun z hz => ?_, insS_srt x r h2⟩
        rcases (insS_mem x z r).mp hz with e | hz
        · rw [e]; exact hyx
        · exact h1 z hz
theorem srtU_mem (k : List Nat) : ∀ l : List (List Nat), k ∈ srtU l ↔ k ∈ l
  | [] => by simp [srtU]
  | x :: l => by
    show k ∈ insS x (srtU l) ↔ _
    rw [insS_mem, srtU_mem k l]; simp
theorem srtU_srt : ∀ l : List (List Nat), (srtU l).Pairwise (· < ·)
  | [] => List.Pairwise.nil
  | x :: l => insS_srt x _ (srtU_srt l)
theorem sS_list (s : List Nat) : (sS s).cps.toList = s := by simp [sS]
theorem sS_back (x : Str) : sS x.cps.toList = x := by cases x; simp [sS]
theorem mem_sS {k : Str} {l : List (List Nat)} : k ∈ l.map sS ↔ k.cps.toList ∈ l := by
  rw [List.mem_map]
  constructor
  · rintro ⟨a, h, rfl⟩; rw [sS_list]; exact h
  · intro h; exact ⟨_, h, sS_back k⟩
theorem srt_uniq : ∀ {l m : List Str}, l.Pairwise ltT → m.Pairwise ltT → (∀ k, k ∈ l ↔ k ∈ m) → l = m
  | [], [], _, _, _ => rfl
  | [], y :: m, _, _, h => absurd ((h y).mpr (by simp)) (by simp)
  | x :: l, [], _, _, h => absurd ((h x).mp (by simp)) (by simp)
  | x :: l, y :: m, h1, h2, h => by
    obtain ⟨a1, a2⟩ := List.pairwise_cons.mp h1
    obtain ⟨b1, b2⟩ := List.pairwise_cons.mp h2
    have e : x = y := by
      rcases List.mem_cons.mp ((h x).mp (by simp)) with e | hx
      · exact e
      · rcases List.mem_cons.mp ((h y).mpr (by simp)) with e | hy
        · exact e.symm
        · exact absurd (List.lt_trans (b1 x hx) (a1 y hy)) (List.lt_irrefl _)
    subst e
    rw [srt_uniq a2 b2 fun k => ?_]
    constructor
    · intro hk
      rcases List.mem_cons.mp ((h k).mp (List.mem_cons_of_mem _ hk)) with e | hk'
      · subst e; exact absurd (a1 k hk) (List.lt_irrefl _)
      · exact hk'
    · intro hk
      rcases List.mem_cons.mp ((h k).mpr (List.mem_cons_of_mem _ hk)) with e | hk'
      · subst e; exact absurd (b1 k hk) (List.lt_irrefl _)
      · exact hk'
theorem srtU_is {ns : List Str} {ss : List (List Nat)} (h1 : ns.Pairwise ltT) (h2 : ∀ k, k ∈ ns ↔ k ∈ ss.map sS) : ns = (srtU ss).map sS := by
  refine srt_uniq h1 (List.pairwise_map.mpr ((srtU_srt ss).imp fun {a b} h => ?_)) fun k => ?_
  · show (sS a).cps.toList < (sS b).cps.toList
    rw [sS_list, sS_list]; exact h
  · rw [h2, mem_sS, mem_sS, srtU_mem]
theorem srtU_nodup (ss : List (List Nat)) : ((srtU ss).map sS).Nodup := by
  refine List.pairwise_map.mpr ((srtU_srt ss).imp fun {a b} h e => ?_)
  rw [sS_inj e] at h
  exact List.lt_irrefl _ h

/-! ### over data -/
open Evl
def tXset (T : Tb) (w : World) (f : Env → Option (List (List Nat))) (es : List Nat) : TE := fun σ H Q => ∃ F0 H0 Hf ρ ss, Sim T F0 H0 Hf H σ ρ ∧ Fz es ρ ∧ f ρ = some ss ∧
  ∀ Hf' H' D n, Gr Hf H Hf' H' → H' D = some (SetSO w D (fun j => decide (j ∈ ss.map sS)) n) → Q (.ref D) H'
section
variable {X : Cx} {T : Tb} {pos : Pos}
def PSet (T : Tb) (w : World) (D : Addr) : Hp → HO → List PD.D → Prop := fun _ o ds => ∃ (ss : List (List Nat)) (n : Nat), ds = ss.map PD.D.str ∧ o = SetSO w D (fun j => decide (j ∈ ss.map sS)) n ∧ n ≤ ss.length
def vSc (fi : Env → Option (List D)) (tg : Tg) (vs : List Nat) (fe : Env → Option D) : Env → Option (List (List Nat)) := fun ρ => (fi ρ).bind fun l => (goLc (fLc tg vs (fun _ => some true) fe ρ) l).bind fun r => (allM strD r).bind fun ss => if ss.length ≤ 4000 then some ss else none
theorem t_sc {w : World} {σ : L2.St} {H : Hp} {Q : VK} {tg : Tg} {vs : List Nat} {fi : Env → Option (List D)} {fe : Env → Option D} {ei ee : List Nat} (hv : ∀ i ∈ tg.own, i ∈ vs) (h : tXset T w (vSc fi tg vs fe) (ei ++ out vs ee) σ H Q) :
    tScS w (tXi T fi ei) (tG T tg) (tXb T (fun _ => some true) []) (tX T .vl fe ee) vs σ H Q := by
  obtain ⟨F0, H0, Hf, ρ, ss, s, fz, e, q⟩ := h
  obtain ⟨l, e1, z1⟩ := ob e
  obtain ⟨r, e2, z2⟩ := ob z1
  obtain ⟨ss', e3, z3⟩ := ob z2
  clear e z1 z2
  split at z3
  rotate_left
  · cases z3
  rename_i hl
  cases z3
  have hr : r = ss.map PD.D.str := allM_map str_map e3
  refine ⟨F0, H0, Hf, ρ, l, s, fz.left, e1, fun Hf1 H1 J g1 ok D hD => ?_⟩
  have hfD : Hf1 D = none := fresh_back g1.z hD
  refine lc_turns (P := PSet T w D) (okd := fun d => ∃ x, d = .str x) (pre := []) (K := fun y H4 Nx => ∃ (c : Str) (S : Str → Bool) (n : Nat), y = .str c ∧ H4 D = some (SetSO w D S n) ∧ n + 1 < scanBound ∧ Nx (upd H4 D (SetSO w D (fun j => S j || decide (j = c)) (if S c = true then n else n + 1))))
    (fun _ _ _ _ _ p => p) (fun Hf4 H4 o dn dy y Nx _ h1 h2 h3 h4 h5 h6 => ?_) (s.gr g1) (fun Hf2 H2 gd => ok Hf2 H2 gd.y gd.z) (fun j hj => by cases hj) fz.right.out hv e2 (fun d hd => ?_) (fresh_back (s.gr g1).e0 hD) ((s.gr g1).notOwned hD) (.of (Gr.new g1.z hD) hfD) upd_same ⟨[], 0, rfl, by simp, Nat.le_refl _⟩ fun Hf' H' o g h1 h2 => ?_
  · obtain ⟨us, n, rfl, rfl, hn⟩ := h2
    obtain ⟨x, rfl⟩ := h5
    have hy : y = .str (sS x) := h4
    subst hy
    have hlen : us.length < ss.length := by
      rw [hr] at h3
      simpa using h3
    refine ⟨sS x, _, n, rfl, h1, ?_, h6 _ ⟨us ++ [x], (if decide (sS x ∈ us.map sS) = true then n else n + 1), by simp, ?_, ?_⟩⟩
    · show n + 1 < 4096
      omega
    · congr 1
      funext j
      simp
    · rw [List.length_append]
      split <;> simp <;> omega
  · rw [hr] at hd
    obtain ⟨x, _, rfl⟩ := List.mem_map.mp hd
    exact ⟨x, rfl⟩
  · obtain ⟨us, n, e4, rfl, hn⟩ := h2
    have : us = ss := by
      rw [List.nil_append, hr] at e4
      have inj : ∀ {a b : List (List Nat)}, a.map PD.D.str = b.map PD.D.str → a = b := fun {a b} h => by
        refine (List.map_inj_right (f := PD.D.str) fun x y h => ?_).mp h
        cases h; rfl
      exact (inj e4).symm
    subst this
    exact q Hf' H' D n (g1.trans (g.gr hD)) h1
theorem x_sc {elt tgx iter : Expr} {scope : Scope} {tg : Tg} {fi : Env → Option (List D)} {fe : Env → Option D} {ei ee : List Nat} (own : List (Str × Nat)) (hc : X.calm = true) (hN : X.N.Nodup) (hi : PI X tgx iter (tXi T fi ei)) (ok : blkC X.N X.env.scope scope own = true) (hv : ∀ i ∈ tg.own, i ∈ own.map (·.2)) (hg : Blk X scope fun Y => PG Y tgx (tG T tg)) (he : Blk X scope fun Y => PE Y elt (tX T .vl fe ee))
    (hs : ∀ x, foldedSetIterable iter X.env x = pure x) : PE X (.SetComp elt [⟨tgx, iter, [], 0⟩] scope pos) (tXset T X.w (vSc fi tg (own.map (·.2)) fe) (ei ++ out (own.map (·.2)) ee)) :=
  PEm (pe_scS hc hN hi (blkOk_by ok) hg (fun _ _ _ _ _ => b_nil) he hs) fun _ _ _ => t_sc hv
theorem t_b1s {T : Tb} {w : World} {r : List V → Hp → VK → Prop} {f : Env → Option (List (List Nat))} {es : List Nat} {k : Kd} {g : List (List Nat) → D} {σ : L2.St} {H : Hp} {Q : VK}
    (hr : ∀ ss Hf H D n (Q : VK), Ex Hf H → H D = some (SetSO w D (fun j => decide (j ∈ ss.map sS)) n) → (∀ Hf' H' v, Gr Hf H Hf' H' → Res T k H Hf' H' v (g ss) → Q v H') → r [.ref D] H Q)
    (h : tX T k (fun ρ => (f ρ).bind fun ss => some (g ss)) es σ H Q) : tCB r (tCons (tXset T w f es) tNil) σ H Q := by
  obtain ⟨F0, H0, Hf, ρ, d, s, fz, e, q⟩ := h
  obtain ⟨ss, e1, e2⟩ := ob e
  cases e2
  refine ⟨F0, H0, Hf, ρ, ss, s, fz, e1, fun Hf' H' D n g1 hD => ?_⟩
  exact hr ss Hf' H' D n _ g1.z hD fun Hf2 H2 v g2 rv => q Hf2 H2 v (g1.trans g2) (rv.back g1.x)
/-- len of such a set -/
theorem x_lenS {a : Expr} {f : Env → Option (List (List Nat))} {es : List Nat} {p : Pos} (hg : Gl X "len") (hm : X.mg "len" = none) (ha : PE X a (tXset T X.w f es)) (hs : starEach [a] X.env = [(false, eval a X.env)]) :
    PE X (.Call (.Name "len" p) [a] [] pos) (tX T .vl (fun ρ => (f ρ).bind fun ss => some (.int (srtU ss).length)) es) :=
  PEm (pe_callB cr_lenS hg hm boot_len (pa_cons ha pa_nil hs) (by decide) (by decide) hs rfl) fun σ H Q => t_b1s fun ss Hf H D n Q ex hD q => by
    refine ⟨D, _, n, (srtU ss).map sS, rfl, hD, srtU_nodup ss, fun k => ?_, ?_⟩
    · rw [decide_eq_true_eq, mem_sS, mem_sS, srtU_mem]
    · rw [List.length_map]
      exact q Hf H _ (Gr.refl ex) rfl
/-- sorted of such a set -/
theorem x_sortS {a : Expr} {f : Env → Option (List (List Nat))} {es : List Nat} {p : Pos} (hc : X.calm = true) (hu : X.A.units + 3 < cLine) (hg : Gl X "sorted") (hm : X.mg "sorted" = none) (ha : PE X a (tXset T X.w f es)) (hs : starEach [a] X.env = [(false, eval a X.env)]) :
    PE X (.Call (.Name "sorted" p) [a] [] pos) (tX T .fr (fun ρ => (f ρ).bind fun ss => some (.lst ((srtU ss).map D.str))) es) :=
  PEm (pe_callB (cr_sortS hc hu) hg hm boot_sorted (pa_cons ha pa_nil hs) (by decide) (by decide) hs rfl) fun σ H Q => t_b1s fun ss Hf H D n Q ex hD q => by
    refine ⟨D, _, n, rfl, hD, fun ns p h1 h2 hp => ?_⟩
    have e := srtU_is h1 fun k => (h2 k).trans (by rw [decide_eq_true_eq])
    subst e
    refine q Hf _ (.ref p) (Gr.new ex hp) ⟨p, rfl, hp, fresh_back ex hp, _, upd_same, ?_⟩
    rw [List.map_map]
    have go : ∀ l : List (List Nat), Rps T Hf (l.map (V.str ∘ sS)) (l.map PD.D.str) := fun l => by
      induction l with
      | nil => rfl
      | cons x l ih => exact ⟨_, _, rfl, rfl, ih⟩
    exact go _
/-- set of a list of texts -/
theorem x_setL {a : Expr} {f : Env → Option D} {es : List Nat} {p : Pos} (hK : X.K = T.K) (hc : X.calm = true) (hg : Gl X "set") (hm : X.mg "set" = none) (ha : PE X a (tX T .vl f es)) (hs : starEach [a] X.env = [(false, eval a X.env)]) :
    PE X (.Call (.Name "set" p) [a] [] pos) (tXset T X.w (fun ρ => (f ρ).bind fun x => (lstD x).bind fun l => (allM strD l).bind fun ss => if ss.length ≤ 4000 then some ss else none) es) :=
  PEm (pe_callTy (cr_setS hc) hg hm boot_set (pa_cons ha pa_nil hs) (by decide) (by decide) hs rfl) fun σ H Q ⟨F0, H0, Hf, ρ, ss, s, fz, e, q⟩ => by
    obtain ⟨d, e1, z1⟩ := ob e
    obtain ⟨l, e2, z2⟩ := ob z1
    obtain ⟨ss', e3, z3⟩ := ob z2
    clear e z1 z2
    split at z3
    rotate_left
    · cases z3
    rename_i hl
    cases z3
    cases lst_map _ _ e2
    have hr : l = ss.map PD.D.str := allM_map str_map e3
    subst hr
    refine ⟨F0, H0, Hf, ρ, _, s, fz, e1, fun Hf1 H1 v g1 r1 => ?_⟩
    obtain ⟨b, xs, rfl, h1, h2⟩ := r1
    have hx := Rps.of_strs h2
    subst hx
    refine ⟨b, ss.map sS, rfl, sq_of (g1.z _ _ h1), by show (ss.map sS).length + 1 < 4096; rw [List.length_map]; omega, fun p n hp => ?_⟩
    exact q Hf1 _ p n (g1.trans (Gr.new g1.z hp)) upd_same
end
end PD
end
section
set_option Elab.async false
set_option linter.all false
set_option maxRecDepth 100000
set_option maxHeartbeats 4000000
/-! PDO: the rules in the form that the printed walks use. -/
namespace PD
open PySem L2 Evl
def lk (sc : Scope) (x : Str) : Option NameKind := sc.names.lookup x
def vis (o : Option NameKind) : Bool := match o with
  | some .local => true
  | some .cell => true
  | some .free => true
  | _ => false
def loc (o : Option NameKind) : Bool := match o with
  | some .local => true
  | some .cell => true
  | _ => false
def isl (o : Option NameKind) : Bool := match o with
  | some .local => true
  | _ => false
theorem vis_ok {sc : Scope} {x : Str} (h : vis (lk sc x) = true) : Vis sc x := by
  unfold vis lk at h
  unfold Vis
  split at h
  · rename_i e; exact .inl e
  · rename_i e; exact .inr (.inl e)
  · rename_i e; exact .inr (.inr e)
  · cases h
theorem loc_ok {sc : Scope} {x : Str} (h : loc (lk sc x) = true) : L2.Loc sc x := by
  unfold loc lk at h
  unfold L2.Loc
  split at h
  · rename_i e; exact .inl e
  · rename_i e; exact .inr e
  · cases h
theorem isl_ok {sc : Scope} {x : Str} (h : isl (lk sc x) = true) : sc.names.lookup x = some .local := by
  unfold isl lk at h
  split at h
  · assumption
  · cases h
/-- the name x may be read at place i -/
def okv (X : Cx) (i : Nat) (x : Str) : Bool := decide (X.N[i]? = some x) && (vis (lk X.env.scope x) && (!(x == ("__debug__" : Str)) && !(x == ("__classdict__" : Str))))
/-- .. may be bound -/
def okt (X : Cx) (i : Nat) (x : Str) : Bool := decide (X.N[i]? = some x) && (loc (lk X.env.scope x) && (X.fn x || isl (lk X.env.scope x)))
structure OkV (X : Cx) (i : Nat) (x : Str) : Prop where
  n : X.N[i]? = some x
  v : Vis X.env.scope x
  d : (x == ("__debug__" : Str)) = false
  c : (x == ("__classdict__" : Str)) = false
theorem okv_ok {X : Cx} {i : Nat} {x : Str} (h : okv X i x = true) : OkV X i x := by
  unfold okv at h
  simp only [Bool.and_eq_true, decide_eq_true_eq, Bool.not_eq_true'] at h
  exact ⟨h.1, vis_ok h.2.1, h.2.2.1, h.2.2.2⟩
structure OkT (X : Cx) (i : Nat) (x : Str) : Prop where
  n : X.N[i]? = some x
  l : L2.Loc X.env.scope x
  f : X.fn x = true ∨ X.env.scope.names.lookup x = some .local
theorem okt_ok {X : Cx} {i : Nat} {x : Str} (h : okt X i x = true) : OkT X i x := by
  unfold okt at h
  simp only [Bool.and_eq_true, decide_eq_true_eq, Bool.or_eq_true] at h
  exact ⟨h.1, loc_ok h.2.1, h.2.2.imp id isl_ok⟩

/-! ### what the walks yield -/
abbrev F := Env → Option D
abbrev Fs := Env → Option (List D)
def vVar (i : Nat) : F := fun ρ => gt ρ i
def vK (d : D) : F := fun _ => some d
def vNil : Fs := fun _ => some []
def vCons (f : F) (g : Fs) : Fs := fun ρ => (f ρ).bind fun x => (g ρ).bind fun r => some (x :: r)
def vTup (g : Fs) : F := fun ρ => (g ρ).bind mkT
def vLst (g : Fs) : F := fun ρ => (g ρ).bind mkL
def v2 (g : D → D → Option D) (f h : F) : F := fun ρ => (f ρ).bind fun x => (h ρ).bind fun y => g x y
def v1 (g : D → Option D) (f : F) : F := fun ρ => (f ρ).bind fun x => g x
def dCat (x y : D) : Option D := (lstD x).bind fun l => (lstD y).bind fun m => mkL (l ++ m)
def dCatT (x y : D) : Option D := (tupD x).bind fun l => (tupD y).bind fun m => mkT (l ++ m)
def dIdx (x y : D) : Option D := (intD y).bind fun k => (seqOf x).bind fun l => atI l k
def dNeg (x : D) : Option D := (intD x).bind fun k => some (.int (-k))
def dLen (x : D) : Option D := (lenD x).bind fun n => some (.int n)
def dAll (x : D) : Option D := (lstD x).bind fun l => (allM truD l).bind fun bs => some (.bl (bs.all id))
def dAny (x : D) : Option D := (lstD x).bind fun l => (allM truD l).bind fun bs => some (.bl (bs.any id))
def dSum (x : D) : Option D := (lstD x).bind fun l => (allM intD l).bind fun ns => some (.int ns.sum)
def dToL (x : D) : Option D := (seqOf x).bind mkL
def dToT (x : D) : Option D := (seqOf x).bind mkT
def dIsN (x : D) : Option D := some (.bl (isNo x))
def dNotN (x : D) : Option D := some (.bl (!isNo x))
def dNot (x : D) : Option D := (truD x).bind fun k => some (.bl (!k))
def dIsi (t : Ty) (x : D) : Option D := (tyD x t).bind fun b => some (.bl b)
def dRev (x : D) : Option D := (lstD x).bind fun l => mkL l.reverse
def dSlT (x : D) (l h : Option Int) : Option D := (tupD x).bind fun xs => mkT (cutD xs l h)
def dSlL (x : D) (l h : Option Int) : Option D := match x with | .scr ns => mkL (cutD (ns.map D.int) l h) | .lst xs => mkL (cutD xs l h) | _ => none
def vNo : Env → Option (Option Int) := fun _ => some none
def vSo (f : F) : Env → Option (Option Int) := fun ρ => (f ρ).bind fun x => (intD x).bind fun i => some (some i)
def vCall (C : Nat → List D → Option D) (i : Nat) (g : Fs) : F := fun ρ => (g ρ).bind fun ds => C i ds
def vCallD (C : Nat → List D → Option D) (i : Nat) (g : Fs) (more : List D) : F := fun ρ => (g ρ).bind fun ds => C i (ds ++ more)
def vFld (G : Sg) (f : List Nat) (a : F) : F := fun ρ => (a ρ).bind fun x => match x with | .ins c l => fldD (G.fl c) l f | _ => none
def vMk (c : Nat) (M : List D → Option (List D)) (g : Fs) : F := fun ρ => (g ρ).bind fun ds => (M ds).bind fun ls => some (.ins c ls)
def vMeth (M : List D → Option D) (c : Nat) (a : F) : F := fun ρ => (a ρ).bind fun d => match d with | .ins c' l => if c' = c then M [.ins c' l] else none | _ => none
def vDyn (C : Nat → List D → Option D) (f : F) (g : Fs) : F := fun ρ => (f ρ).bind fun d => (g ρ).bind fun ds => match d with | .fnv i => C i ds | _ => none
def vGet (a b c : F) : F := fun ρ => (a ρ).bind fun a => (b ρ).bind fun b => (c ρ).bind fun c => (dicD a).bind fun l => (strD b).bind fun s => some ((dgetD l s).getD c)
def dDix (x y : D) : Option D := (dicD x).bind fun l => (strD y).bind fun s => dgetD l s
def vDct (ks : List (List Nat)) (ps : List ((Env → Option D) × List Nat)) : F := fun ρ => (evp ps ρ).bind fun ds => if ks.length = ds.length && ks.length ≤ 15 then some (.dic ((ks.zip ds).foldl (fun a p => dputD a p.1 p.2) [])) else none
def vLenS (f : Env → Option (List (List Nat))) : F := fun ρ => (f ρ).bind fun ss => some (.int (srtU ss).length)
def vSortS (f : Env → Option (List (List Nat))) : F := fun ρ => (f ρ).bind fun ss => some (.lst ((srtU ss).map D.str))
def vSetL (f : F) : Env → Option (List (List Nat)) := fun ρ => (f ρ).bind fun x => (lstD x).bind fun l => (allM strD l).bind fun ss => if ss.length ≤ 4000 then some ss else none
def vIt (f : F) : Fs := fun ρ => (f ρ).bind tupD
def vIl (f : F) : Fs := fun ρ => (f ρ).bind lstD
def vIs (f : F) : Fs := fun ρ => (f ρ).bind fun d => (strD d).bind fun s => if s.length ≤ lim then some (s.map fun c => .str [c]) else none
def vIr1 (f : F) : Fs := fun ρ => (f ρ).bind fun d => (intD d).bind fun n => if -100000 ≤ n && n ≤ 100000 then some ((List.range n.toNat).map fun k => .int (k : Nat)) else none
def vIen (f : F) : Fs := fun ρ => (f ρ).bind fun d => (tupD d).bind fun l => some (numb 0 l)
def vT0 : Env → Option Bool := fun _ => some true
def vT1 (f : F) : Env → Option Bool := fun ρ => (f ρ).bind fun x => (truD x).bind fun b => if b then some true else some false

section
variable {X : Cx} {T : Tb} {pos p p2 : Pos} {a b c e : Expr} {es rest : List Expr} {fa fb fc : F} {ga gb : Fs} {ea eb ec : List Nat} {i : Nat} {x : Str}
theorem pv (h : PE X a (tX T .vl fa ea)) : PE X a (tX T .pk fa ea) := toP h
theorem pf (h : PE X a (tX T .fr fa ea)) : PE X a (tX T .pk fa ea) := toP h
theorem vf (h : PE X a (tX T .fr fa ea)) : PE X a (tX T .vl fa ea) := toV h (by decide)
theorem e_var (h : okv X i x = true) : PE X (.Name x pos) (tX T .vl (vVar i) [i]) := x_var (okv_ok h).n (okv_ok h).v (okv_ok h).d (okv_ok h).c
theorem e_pk (h : okv X i x = true) : PE X (.Name x pos) (tX T .pk (vVar i) []) := x_peek (okv_ok h).n (okv_ok h).v (okv_ok h).d (okv_ok h).c
theorem e_int {n : Int} {j} : PE X (.Constant (.int n) j pos) (tX T .vl (vK (.int n)) []) := x_const pe_int fun _ => rfl
theorem e_bl {n : Bool} {j} : PE X (.Constant (.bool n) j pos) (tX T .vl (vK (.bl n)) []) := x_const pe_bl fun _ => rfl
theorem e_non {j} : PE X (.Constant .none j pos) (tX T .vl (vK .non) []) := x_const pe_non fun _ => rfl
theorem e_str {s : List Nat} {j} (h : x = sS s) : PE X (.Constant (.str x) j pos) (tX T .vl (vK (.str s)) []) := x_const pe_str fun _ => congrArg V.str h
def GInt (mg : Str → Option Value) (x : Str) (n : Int) : Prop := ∃ t, mg x = some (.int n t)
def GStr (mg : Str → Option Value) (x : Str) (s : List Nat) : Prop := ∃ t, mg x = some (.str (sS s) t)
theorem e_gint {n : Int} (g : GInt X.mg x n) (hg : Gl X x) (hd : (x == ("__debug__" : Str)) = false) : PE X (.Name x pos) (tX T .vl (vK (.int n)) []) := by
  obtain ⟨t, h⟩ := g
  exact x_const (pe_glob hg h (v := .int n) ⟨t, rfl⟩ hd) fun _ => rfl
theorem e_gstr {s : List Nat} (g : GStr X.mg x s) (hg : Gl X x) (hd : (x == ("__debug__" : Str)) = false) : PE X (.Name x pos) (tX T .vl (vK (.str s)) []) := by
  obtain ⟨t, h⟩ := g
  exact x_const (pe_glob hg h (v := .str (sS s)) ⟨t, rfl⟩ hd) fun _ => rfl
theorem l_nil : PA X [] (tXs T vNil []) := xs_nil
theorem l_cons (h1 : PE X e (tX T .vl fa ea)) (h2 : PA X es (tXs T gb eb)) (hs : starEach (e :: es) X.env = (false, eval e X.env) :: starEach es X.env) : PA X (e :: es) (tXs T (vCons fa gb) (ea ++ eb)) := xs_cons h1 h2 hs
theorem e_tup {k1} (h : PA X es (tXs T gb eb)) : PE X (.Tuple es k1 pos) (tX T .vl (vTup gb) eb) := x_tup h
theorem e_lst (h : PA X es (tXs T gb eb)) : PE X (.List es pos) (tX T .fr (vLst gb) eb) := x_lst h
section
variable (ha : PE X a (tX T .pk fa ea)) (hb : PE X b (tX T .pk fb eb))
include ha hb
theorem e_add : PE X (.BinOp a .Add b pos) (tX T .vl (v2 (bopd .add) fa fb) (ea ++ eb)) := x_bop op_add vr_add ha hb
theorem e_sub : PE X (.BinOp a .Sub b pos) (tX T .vl (v2 (bopd .sub) fa fb) (ea ++ eb)) := x_bop op_sub vr_sub ha hb
theorem e_mul : PE X (.BinOp a .Mult b pos) (tX T .vl (v2 (bopd .mul) fa fb) (ea ++ eb)) := x_bop op_mul vr_mul ha hb
theorem e_fdiv : PE X (.BinOp a .FloorDiv b pos) (tX T .vl (v2 (bopd .fdiv) fa fb) (ea ++ eb)) := x_bop op_fdiv vr_fdiv ha hb
theorem e_mod : PE X (.BinOp a .Mod b pos) (tX T .vl (v2 (bopd .mod) fa fb) (ea ++ eb)) := x_bop op_mod vr_mod ha hb
theorem e_cat : PE X (.BinOp a .Add b pos) (tX T .fr (v2 dCat fa fb) (ea ++ eb)) := x_bop op_cat vr_cat ha hb
theorem e_catT (hK : X.K = T.K) : PE X (.BinOp a .Add b pos) (tX T .vl (v2 dCatT fa fb) (ea ++ eb)) := x_bop op_catA (by rw [hK]; exact vr_catT) ha hb
theorem e_eq (hK : X.K = T.K) (hu : X.A.units + 64 < cLine) (hm : behindInMarks .Eq b = false) : PE X (.Compare a [.Eq] [b] pos) (tX T .vl (v2 (cmpd .eq) fa fb) (ea ++ eb)) := x_cmp (op_eqD hu) (by rw [hK]; exact vr_eq) ha hb hm
theorem e_ne (hK : X.K = T.K) (hu : X.A.units + 64 < cLine) (hm : behindInMarks .NotEq b = false) : PE X (.Compare a [.NotEq] [b] pos) (tX T .vl (v2 (cmpd .ne) fa fb) (ea ++ eb)) := x_cmp (op_neD hu) (by rw [hK]; exact vr_ne) ha hb hm
theorem e_in (hK : X.K = T.K) (hu : X.A.units + 1 < cLine) (hm : behindInMarks .In b = false) : PE X (.Compare a [.In] [b] pos) (tX T .vl (v2 (cmpd .isIn) fa fb) (ea ++ eb)) := x_cmp (op_inA hu) (by rw [hK]; exact vr_inA false) ha hb hm
theorem e_nin (hK : X.K = T.K) (hu : X.A.units + 1 < cLine) (hm : behindInMarks .NotIn b = false) : PE X (.Compare a [.NotIn] [b] pos) (tX T .vl (v2 (cmpd .notIn) fa fb) (ea ++ eb)) := x_cmp (op_ninA hu) (by rw [hK]; exact vr_inA true) ha hb hm
theorem e_lt (hm : behindInMarks .Lt b = false) : PE X (.Compare a [.Lt] [b] pos) (tX T .vl (v2 (cmpd .lt) fa fb) (ea ++ eb)) := x_cmp op_lt vr_lt ha hb hm
theorem e_le (hm : behindInMarks .LtE b = false) : PE X (.Compare a [.LtE] [b] pos) (tX T .vl (v2 (cmpd .le) fa fb) (ea ++ eb)) := x_cmp op_le vr_le ha hb hm
theorem e_gt (hm : behindInMarks .Gt b = false) : PE X (.Compare a [.Gt] [b] pos) (tX T .vl (v2 (cmpd .gt) fa fb) (ea ++ eb)) := x_cmp op_gt vr_gt ha hb hm
theorem e_ge (hm : behindInMarks .GtE b = false) : PE X (.Compare a [.GtE] [b] pos) (tX T .vl (v2 (cmpd .ge) fa fb) (ea ++ eb)) := x_cmp op_ge vr_ge ha hb hm
theorem t_eq (hK : X.K = T.K) (hu : X.A.units + 64 < cLine) (hm : behindInMarks .Eq b = false) : PT X (.Compare a [.Eq] [b] pos) (tXt T (v2 (cmpd .eq) fa fb) (ea ++ eb)) := y_cmp (op_eqD hu) (by rw [hK]; exact vr_eq) ha hb hm
theorem t_ne (hK : X.K = T.K) (hu : X.A.units + 64 < cLine) (hm : behindInMarks .NotEq b = false) : PT X (.Compare a [.NotEq] [b] pos) (tXt T (v2 (cmpd .ne) fa fb) (ea ++ eb)) := y_cmp (op_neD hu) (by rw [hK]; exact vr_ne) ha hb hm
theorem t_in (hK : X.K = T.K) (hu : X.A.units + 1 < cLine) (hm : behindInMarks .In b = false) : PT X (.Compare a [.In] [b] pos) (tXt T (v2 (cmpd .isIn) fa fb) (ea ++ eb)) := y_cmp (op_inA hu) (by rw [hK]; exact vr_inA false) ha hb hm
theorem t_nin (hK : X.K = T.K) (hu : X.A.units + 1 < cLine) (hm : behindInMarks .NotIn b = false) : PT X (.Compare a [.NotIn] [b] pos) (tXt T (v2 (cmpd .notIn) fa fb) (ea ++ eb)) := y_cmp (op_ninA hu) (by rw [hK]; exact vr_inA true) ha hb hm
theorem t_lt (hm : behindInMarks .Lt b = false) : PT X (.Compare a [.Lt] [b] pos) (tXt T (v2 (cmpd .lt) fa fb) (ea ++ eb)) := y_cmp op_lt vr_lt ha hb hm
theorem t_le (hm : behindInMarks .LtE b = false) : PT X (.Compare a [.LtE] [b] pos) (tXt T (v2 (cmpd .le) fa fb) (ea ++ eb)) := y_cmp op_le vr_le ha hb hm
theorem t_gt (hm : behindInMarks .Gt b = false) : PT X (.Compare a [.Gt] [b] pos) (tXt T (v2 (cmpd .gt) fa fb) (ea ++ eb)) := y_cmp op_gt vr_gt ha hb hm
theorem t_ge (hm : behindInMarks .GtE b = false) : PT X (.Compare a [.GtE] [b] pos) (tXt T (v2 (cmpd .ge) fa fb) (ea ++ eb)) := y_cmp op_ge vr_ge ha hb hm
theorem e_idx (hK : X.K = T.K) (hm : PlainIx b) : PE X (.Subscript a b pos) (tX T .vl (v2 dIdx fa fb) (ea ++ eb)) := x_ix ix_seq (by rw [hK]; exact vr_idx) ha hb hm
theorem e_dix (hu : X.A.units + 1 < cLine) (hm : NoSl b) : PE X (.Subscript a b pos) (tX T .vl (v2 dDix fa fb) (ea ++ eb)) := x_didx hu ha hb hm
theorem e_lele (hc : PE X c (tX T .pk fc ec)) (hm : lastMarks [.LtE, .LtE] [b, c] = false) : PE X (.Compare a [.LtE, .LtE] [b, c] pos) (tX T .vl (vChain (cmpd .le) (cmpd .le) fa fb fc) (ea ++ (eb ++ ec))) := x_chain op_le op_le vr_le vr_le ha hb hc hm
theorem t_lele (hc : PE X c (tX T .pk fc ec)) (hm : lastMarks [.LtE, .LtE] [b, c] = false) : PT X (.Compare a [.LtE, .LtE] [b, c] pos) (tXt T (vChain (cmpd .le) (cmpd .le) fa fb fc) (ea ++ (eb ++ ec))) := y_chain op_le op_le vr_le vr_le ha hb hc hm
end
theorem e_isN {j} (ha : PE X a (tX T .pk fa ea)) : PE X (.Compare a [.Is] [.Constant .none j p2] pos) (tX T .vl (v1 dIsN fa) ea) := x_isN ha
theorem e_notN {j} (ha : PE X a (tX T .pk fa ea)) : PE X (.Compare a [.IsNot] [.Constant .none j p2] pos) (tX T .vl (v1 dNotN fa) ea) := x_notN ha
theorem t_isN {j} (ha : PE X a (tX T .pk fa ea)) : PT X (.Compare a [.Is] [.Constant .none j p2] pos) (tXt T (v1 dIsN fa) ea) := y_isN ha
theorem t_notN {j} (ha : PE X a (tX T .pk fa ea)) : PT X (.Compare a [.IsNot] [.Constant .none j p2] pos) (tXt T (v1 dNotN fa) ea) := y_notN ha
theorem e_neg (ha : PE X a (tX T .pk fa ea)) : PE X (.UnaryOp .USub a pos) (tX T .vl (v1 dNeg fa) ea) := x_un un_neg vu_neg ha
theorem e_not (ha : PE X a (tX T .vl fa ea)) : PE X (.UnaryOp .Not a pos) (tX T .vl (v1 dNot fa) ea) := x_not ha
theorem t_not (ha : PT X a (tXt T fa ea)) : PT X (.UnaryOp .Not a pos) (tXt T (v1 dNot fa) ea) := y_not ha
theorem t_val (ha : PE X a (tX T .vl fa ea)) (he : ∀ whole, isTrue a X.env whole = (do let v ← whole; standAt a.pos; holding [v] (truthy v))) : PT X a (tXt T fa ea) := y_val ha he
theorem e_one {op} (ha : PE X a (tX T .vl fa ea)) : PE X (.BoolOp op [a] pos) (tX T .vl fa ea) := pe_one ha
theorem e_and (ha : PE X a (tX T .vl fa ea)) (hb : PE X (.BoolOp .And (b :: rest) pos) (tX T .vl fb eb)) : PE X (.BoolOp .And (a :: b :: rest) pos) (tX T .vl (vAnd fa fb) (ea ++ eb)) := x_and ha hb
theorem e_or (ha : PE X a (tX T .vl fa ea)) (hb : PE X (.BoolOp .Or (b :: rest) pos) (tX T .vl fb eb)) : PE X (.BoolOp .Or (a :: b :: rest) pos) (tX T .vl (vOr fa fb) (ea ++ eb)) := x_or ha hb
theorem t_bool {op : BoolOp} {t : TT} (h : PW X (.BoolOp op es pos) t) : PT X (.BoolOp op es pos) t := h.pt
theorem e_if {k : Kd} (hc : PT X c (tXt T fc ec)) (ha : PE X a (tX T k fa ea)) (hb : PE X b (tX T k fb eb)) : PE X (.IfExp c a b pos) (tX T k (vIf fc fa fb) (ec ++ (ea ++ eb))) := x_ife hc ha hb
section
variable (hK : X.K = T.K) (ha : PE X a (tX T .pk fa ea)) (hs : starEach [a] X.env = [(false, eval a X.env)])
include hK ha hs
theorem e_len (hg : Gl X "len") (hm : X.mg "len" = none) : PE X (.Call (.Name "len" p) [a] [] pos) (tX T .vl (v1 dLen fa) ea) := x_b1 call_lenA (by rw [hK]; exact vu_len) hg hm boot_len ha hs (by decide) (by decide)
theorem e_all (hg : Gl X "all") (hm : X.mg "all" = none) (hc : X.calm = true) : PE X (.Call (.Name "all" p) [a] [] pos) (tX T .vl (v1 dAll fa) ea) := x_b1 (cr_all hc) (by rw [hK]; exact vu_all) hg hm PyProof.Rows.boot_all ha hs (by decide) (by decide)
theorem e_any (hg : Gl X "any") (hm : X.mg "any" = none) (hc : X.calm = true) : PE X (.Call (.Name "any" p) [a] [] pos) (tX T .vl (v1 dAny fa) ea) := x_b1 (cr_any hc) (by rw [hK]; exact vu_any) hg hm PyProof.Rows.boot_any ha hs (by decide) (by decide)
theorem e_sum (hg : Gl X "sum") (hm : X.mg "sum" = none) (hc : X.calm = true) : PE X (.Call (.Name "sum" p) [a] [] pos) (tX T .vl (v1 dSum fa) ea) := x_b1 (cr_sum hc) (by rw [hK]; exact vu_sum) hg hm PyProof.Rows.boot_sum ha hs (by decide) (by decide)
theorem e_toL (hg : Gl X "list") (hm : X.mg "list" = none) : PE X (.Call (.Name "list" p) [a] [] pos) (tX T .fr (v1 dToL fa) ea) := x_ty1 call_list_of (by rw [hK]; exact vu_toL) hg hm PyProof.Rows.boot_list ha hs (by decide) (by decide)
theorem e_toT (hg : Gl X "tuple") (hm : X.mg "tuple" = none) : PE X (.Call (.Name "tuple" p) [a] [] pos) (tX T .vl (v1 dToT fa) ea) := x_ty1 call_tuple_of (by rw [hK]; exact vu_toT) hg hm PyProof.Rows.boot_tuple ha hs (by decide) (by decide)
end

theorem e_isi {t : Ty} (hK : X.K = T.K) (ha : PE X a (tX T .pk fa ea)) (hx : bootBuiltins x = some (.type t.nm)) (hg : Gl X "isinstance") (hm : X.mg "isinstance" = none) (hg2 : Gl X x) (hm2 : X.mg x = none) (h1 : x ≠ "__name__") (h2 : (x == ("__debug__" : Str)) = false) (hs : starEach [a, .Name x p2] X.env = (false, eval a X.env) :: starEach [.Name x p2] X.env) :
    PE X (.Call (.Name "isinstance" p) [a, .Name x p2] [] pos) (tX T .vl (v1 (dIsi t) fa) ea) := x_isi hK hx hg hm hg2 hm2 h1 h2 ha hs
section
variable {lo hi : Option Expr} {fl fh : Env → Option (Option Int)} {el eh : List Nat}
theorem o_no : PO X none (tXo T vNo []) := o_none
theorem o_so (ha : PE X a (tX T .vl fa ea)) : PO X (some a) (tXo T (vSo fa) ea) := o_some ha
theorem e_slT (hK : X.K = T.K) (ha : PE X a (tX T .pk fa ea)) (hl : PO X lo (tXo T fl el)) (hh : PO X hi (tXo T fh eh)) : PE X (.Subscript a (.Slice lo hi none p2) pos) (tX T .vl (vSlc dSlT fa fl fh) (ea ++ (el ++ eh))) := x_slc sl_tupA (by rw [hK]; exact vs_tup) ha hl hh
theorem e_slL (hK : X.K = T.K) (ha : PE X a (tX T .pk fa ea)) (hl : PO X lo (tXo T fl el)) (hh : PO X hi (tXo T fh eh)) : PE X (.Subscript a (.Slice lo hi none p2) pos) (tX T .fr (vSlc dSlL fa fl fh) (ea ++ (el ++ eh))) := x_slc sl_list (by rw [hK]; exact vs_lst) ha hl hh
end
theorem e_rev {k : Nat} {p1 p3 : Pos} (hK : X.K = T.K) (ha : PE X a (tX T .pk fa ea)) : PE X (.Subscript a (.Slice none none (some (.UnaryOp .USub (.Constant (.int 1) k p1) p2)) p3) pos) (tX T .fr (v1 dRev fa) ea) := x_rev hK ha

/-! ### calls -/
structure Has (P : Program) (w : World) (K : PySem.W.Frag) (mg : Str → Option Value) (base : Heap) (T : Tb) (lv : Nat) (M : List D → Option D) (fr : Bool) (x : Str) (dvs : List V) : Prop where
  ex : ∃ f fd ps ds, FnOk P w K mg base L2.CX0 lv f fd ps (spF T M fr) ∧ mg x = some (.ref f) ∧ PySem.W.keepIn K (.ref f) = true ∧ Binds K fd ps ds ∧ Vals dvs ds
section
variable {lv : Nat} {C : Nat → List D → Option D} {n : Nat}
theorem e_call (h : Has X.prog X.w X.K X.mg X.base T lv (C n) false x []) (hr : Room lv X.A) (hg : Gl X x) (ha : PA X (e :: es) (tXs T gb eb)) (h2 : (x == ("__debug__" : Str)) = false) (hs : starEach (e :: es) X.env = (false, eval e X.env) :: starEach es X.env) (hs2 : ((backTo pos (starEach es X.env)).any fun x => x.fst) = false) :
    PE X (.Call (.Name x p) (e :: es) [] pos) (tX T .vl (vCall C n gb) eb) := by
  obtain ⟨f, fd, ps, ds, F, hm, hk, hb, hv⟩ := h.ex
  have := x_call (more := []) F hr hg hm hk hb hv (fun _ => rfl) ha h2 hs hs2 (p := p)
  simp only [List.append_nil] at this
  exact this
theorem e_callF (h : Has X.prog X.w X.K X.mg X.base T lv (C n) true x []) (hr : Room lv X.A) (hg : Gl X x) (ha : PA X (e :: es) (tXs T gb eb)) (h2 : (x == ("__debug__" : Str)) = false) (hs : starEach (e :: es) X.env = (false, eval e X.env) :: starEach es X.env) (hs2 : ((backTo pos (starEach es X.env)).any fun x => x.fst) = false) :
    PE X (.Call (.Name x p) (e :: es) [] pos) (tX T .fr (vCall C n gb) eb) := by
  obtain ⟨f, fd, ps, ds, F, hm, hk, hb, hv⟩ := h.ex
  have := x_call (more := []) F hr hg hm hk hb hv (fun _ => rfl) ha h2 hs hs2 (p := p)
  simp only [List.append_nil] at this
  exact this
theorem e_callD {m : Int} (h : Has X.prog X.w X.K X.mg X.base T lv (C n) false x [.int m]) (hr : Room lv X.A) (hg : Gl X x) (ha : PA X (e :: es) (tXs T gb eb)) (h2 : (x == ("__debug__" : Str)) = false) (hs : starEach (e :: es) X.env = (false, eval e X.env) :: starEach es X.env) (hs2 : ((backTo pos (starEach es X.env)).any fun x => x.fst) = false) :
    PE X (.Call (.Name x p) (e :: es) [] pos) (tX T .vl (vCallD C n gb [.int m]) eb) := by
  obtain ⟨f, fd, ps, ds, F, hm, hk, hb, hv⟩ := h.ex
  exact x_call (more := [.int m]) F hr hg hm hk hb hv (fun _ => ⟨_, _, rfl, rfl, rfl⟩) ha h2 hs hs2
theorem e_call0 (h : Has X.prog X.w X.K X.mg X.base T lv (C n) false x []) (hr : Room lv X.A) (hg : Gl X x) (h2 : (x == ("__debug__" : Str)) = false) : PE X (.Call (.Name x p) [] [] pos) (tX T .vl (vCall C n vNil) []) := by
  obtain ⟨f, fd, ps, ds, F, hm, hk, hb, hv⟩ := h.ex
  have := x_call0 (more := []) F hr hg hm hk hb hv (fun _ => rfl) h2 (p := p) (pos := pos)
  simp only [List.append_nil] at this
  exact this
end
theorem e_fld {G : Sg} {f : List Nat} (hK : X.K = T.K) (hcl : ∀ c k, T.cl c = some k → Cls T.K k.C ∧ k.fs = (G.fl c).map sS ∧ ∀ f ∈ k.fs, NoAttr T.K k.C f) (ha : PE X a (tX T .pk fa ea)) (hx : x = sS f) (hb : attributeBase a x X.env (eval a X.env) = eval a X.env) :
    PE X (.Attribute a x pos) (tX T .vl (vFld G f fa) ea) := by
  subst hx
  exact x_fld hK hcl ha hb
theorem e_get {pa : Pos} (hu : X.A.units + 1 < cLine) (ha : PE X a (tX T .vl fa ea)) (hb : PE X b (tX T .pk fb eb)) (hc : PE X c (tX T .vl fc ec)) (m : M2 X a "get" pa b c pos) : PE X (.Call (.Attribute a "get" pa) [b, c] [] pos) (tX T .vl (vGet fa fb fc) (ea ++ (eb ++ ec))) := x_dget hu ha hb hc m
theorem e_lenS {f : Env → Option (List (List Nat))} (hg : Gl X "len") (hm : X.mg "len" = none) (ha : PE X a (tXset T X.w f ea)) (hs : starEach [a] X.env = [(false, eval a X.env)]) : PE X (.Call (.Name "len" p) [a] [] pos) (tX T .vl (vLenS f) ea) := x_lenS hg hm ha hs
theorem e_sortS {f : Env → Option (List (List Nat))} (hc : X.calm = true) (hu : X.A.units + 3 < cLine) (hg : Gl X "sorted") (hm : X.mg "sorted" = none) (ha : PE X a (tXset T X.w f ea)) (hs : starEach [a] X.env = [(false, eval a X.env)]) : PE X (.Call (.Name "sorted" p) [a] [] pos) (tX T .fr (vSortS f) ea) := x_sortS hc hu hg hm ha hs
theorem e_setL (hK : X.K = T.K) (hc : X.calm = true) (hg : Gl X "set") (hm : X.mg "set" = none) (ha : PE X a (tX T .vl fa ea)) (hs : starEach [a] X.env = [(false, eval a X.env)]) : PE X (.Call (.Name "set" p) [a] [] pos) (tXset T X.w (vSetL fa) ea) := x_setL hK hc hg hm ha hs
/-! ### walks, targets -/
section
variable {tg : Expr}
theorem j_t (hK : X.K = T.K) (ha : PE X a (tX T .vl fa ea)) : PI X tg a (tXi T (vIt fa) ea) := i_t hK ha
theorem j_l (hK : X.K = T.K) (ha : PE X a (tX T .vl fa ea)) : PI X tg a (tXi T (vIl fa) ea) := i_l hK ha
theorem j_lp (ha : PE X a (tX T .pk fa ea)) : PI X tg a (tXj T (vIl fa) ea) := i_lp ha
theorem j_s (ha : PE X a (tX T .vl fa ea)) : PI X tg a (tXi T (vIs fa) ea) := i_s ha
theorem j_r1 (ha : PE X a (tX T .vl fa ea)) (hg : Gl X "range") (hm : X.mg "range" = none) (hs : starEach [a] X.env = [(false, eval a X.env)]) : PI X tg (.Call (.Name "range" p) [a] [] pos) (tXi T (vIr1 fa) ea) := i_r1 hg hm ha hs
theorem j_en {elts : List Expr} {kk : Nat} {tpos : Pos} (hK : X.K = T.K) (ha : PE X a (tX T .vl fa ea)) (hg : Gl X "enumerate") (hm : X.mg "enumerate" = none) (hs : starEach [a] X.env = [(false, eval a X.env)]) : PI X (.Tuple elts kk tpos) (.Call (.Name "enumerate" p) [a] [] pos) (tXi T (vIen fa) ea) := i_en hK hg hm ha hs
end
theorem b_0 : PTs X [] (tXb T vT0 []) := b_nil
theorem b_1 (h : PT X a (tXt T fa ea)) : PTs X [a] (tXb T (vT1 fa) ea) := b_one h
theorem k_nm (hN : X.N.Nodup) (h : okt X i x = true) : PG X (.Name x pos) (tG T (.nm i)) := g_nm hN (okt_ok h).n (okt_ok h).l (okt_ok h).f
theorem k_0 : PGs X [] (tGs T []) := gs_nil
theorem k_c {is : List Nat} (hN : X.N.Nodup) (h : okt X i x = true) (h2 : PGs X es (tGs T is)) (hs : (assignEach (.Name x pos :: es) X.env).map (·.2) = assign (.Name x pos) X.env :: (assignEach es X.env).map (·.2)) : PGs X (.Name x pos :: es) (tGs T (i :: is)) := gs_cons (pg_name hN (okt_ok h).n (okt_ok h).l (okt_ok h).f) h2 hs
theorem k_tp {is : List Nat} {k : Nat} (hK : X.K = T.K) (hc : X.calm = true) (h : PGs X es (tGs T is)) (hn : (assignEach es X.env).length = is.length) (hst : (assignEach es X.env).findIdx? (·.1) = none) : PG X (.Tuple es k pos) (tG T (.tp is)) := g_tp hK hc h hn hst
end
/-! ### statements -/
def vAsgT (f : F) (es : List Nat) (is : List Nat) : Env → Option Out := fun ρ0 => let ρ := frz es ρ0; (f ρ).bind fun d => (tupD d).bind fun l => (bindL is l ρ).bind fun r => some (.nx r)
def vAsgL (f : F) (es : List Nat) (is : List Nat) : Env → Option Out := fun ρ0 => let ρ := frz es ρ0; (f ρ).bind fun d => (lstD d).bind fun l => (bindL is l ρ).bind fun r => some (.nx r)
def vStar (f : F) (es : List Nat) (i j : Nat) : Env → Option Out := fun ρ0 => let ρ := frz es ρ0; (f ρ).bind fun d => (tupD d).bind fun l => match l with
  | x :: r => if l.length ≤ 16000 then (setE ρ i false x).bind fun ρ1 => (setE ρ1 j true (.lst r)).bind fun ρ2 => some (.nx ρ2) else none
  | [] => none
def vApp (f : F) (es : List Nat) (i : Nat) : Env → Option Out := fun ρ0 => let ρ := frz es ρ0; (f ρ).bind fun d => match ρ[i]? with
  | some (some (true, .lst l)) => if l.length < lim then some (.nx (ρ.set i (some (true, .lst (l ++ [d]))))) else none
  | _ => none
def vExt (f : F) (es : List Nat) (i : Nat) : Env → Option Out := fun ρ0 => let ρ := frz es ρ0; (f ρ).bind fun d => (lstD d).bind fun m => match ρ[i]? with
  | some (some (true, .lst l)) => if l.length + m.length ≤ lim then some (.nx (ρ.set i (some (true, .lst (l ++ m))))) else none
  | _ => none
def vRvs (i : Nat) : Env → Option Out := fun ρ => match ρ[i]? with
  | some (some (true, .lst l)) => some (.nx (ρ.set i (some (true, .lst l.reverse))))
  | _ => none
def vDput (fk fv : F) (es : List Nat) (i : Nat) : Env → Option Out := fun ρ0 => let ρ := frz es ρ0; (fv ρ).bind fun d => (fk ρ).bind fun x => (strD x).bind fun s => match ρ[i]? with
  | some (some (true, .dic l)) => if l.length < lim then some (.nx (ρ.set i (some (true, .dic (dputD l s d))))) else none
  | _ => none
def vRet (f : F) (es : List Nat) : Env → Option Out := fun ρ0 => let ρ := frz es ρ0; (f ρ).bind fun d => some (.rt d)
def vRetO (i : Nat) : Env → Option Out := fun ρ => match ρ[i]? with | some (some (true, d)) => some (.rt d) | _ => none
def vDrop (f : F) (es : List Nat) : Env → Option Out := fun ρ0 => let ρ := frz es ρ0; (f ρ).bind fun _ => some (.nx ρ)
def vIfS (f : F) (es : List Nat) (a b : Env → Option Out) : Env → Option Out := fun ρ0 => let ρ := frz es ρ0; (f ρ).bind fun x => (truD x).bind fun k => if k then a ρ else b ρ
def vFor (fi : Fs) (es : List Nat) (tg : Tg) (fb : Env → Option Out) : Env → Option Out := fun ρ0 => let ρ := frz es ρ0; (fi ρ).bind fun l => goFor (fun d r => (bindT tg d r).bind fun r1 => fb r1) l ρ
def vNev : Env → Option Out := fun _ => none
def vSkip : Env → Option Out := fun ρ => some (.nx ρ)
section
variable {X : Cx} {T : Tb} {pos p p2 : Pos} {a b c e : Expr} {es rest : List Expr} {fa fb fc : F} {ga gb : Fs} {ea eb ec es' : List Nat} {i j : Nat} {x : Str} {fz : Bool} {is : List Nat}
theorem S_nil : PSs X [] (tS T fz vSkip) := s_nil
theorem S_cons {st : Stmt} {r : List Stmt} {f g : Env → Option Out} (h1 : PS X st (tS T fz f)) (h2 : PSs X r (tS T fz g)) : PSs X (st :: r) (tS T fz (vSeq f g)) := s_cons h1 h2
theorem S_nev {st : Stmt} : PS X st (tS T fz vNev) := s_never
theorem S_asg {k : Kd} {f : F} (hN : X.N.Nodup) (ho : okt X i x = true) (he : PE X e (tX T k f ea)) (hk : k ≠ .pk) (hs : swapsWith e (some (.Name x p)) pos.line X.env = pure false) (hes : ea = es') : PS X (.Assign [.Name x p] e pos) (tS T fz (vAsg k f es' i)) := by
  subst hes
  exact s_asg hk hN (okt_ok ho).n (okt_ok ho).l he hs (okt_ok ho).f
theorem S_asgT {f : F} {tg : Expr} (he : PE X e (tX T .vl f ea)) (hg : PG X tg (tG T (.tp is))) (hs : swapsWithSole [tg] e pos.line X.env = pure false) (hw : swappedStores [tg] e X.env = pure none) (h1 : (assignEach [tg] X.env).map (·.2) = [assign tg X.env]) (hes : ea = es') : PS X (.Assign [tg] e pos) (tS T fz (vAsgT f es' is)) := by
  subst hes
  exact s_asgT he hg hs hw h1
theorem S_asgL {f : F} {elts : List Expr} {k : Nat} {tpos : Pos} (hK : X.K = T.K) (hc : X.calm = true) (he : PE X e (tX T .vl f ea)) (hg : PGs X elts (tGs T is)) (hn : (assignEach elts X.env).length = is.length) (hst : (assignEach elts X.env).findIdx? (·.1) = none)
    (hs : swapsWithSole [.Tuple elts k tpos] e pos.line X.env = pure false) (hw : swappedStores [.Tuple elts k tpos] e X.env = pure none) (h1 : (assignEach [.Tuple elts k tpos] X.env).map (·.2) = [assign (.Tuple elts k tpos) X.env]) (hes : ea = es') : PS X (.Assign [.Tuple elts k tpos] e pos) (tS T fz (vAsgL f es' is)) := by
  subst hes
  exact s_asgL hK hc he hg hn hst hs hw h1
theorem S_star {f : F} {y : Str} {px py pz tpos : Pos} {k : Nat} (hK : X.K = T.K) (hc : X.calm = true) (hN : X.N.Nodup) (hi : okt X i x = true) (hj : okt X j y = true) (he : PE X e (tX T .vl f ea)) (hs : swapsWithSole [.Tuple [.Name x px, .Starred (.Name y py) pz] k tpos] e pos.line X.env = pure false)
    (hw : swappedStores [.Tuple [.Name x px, .Starred (.Name y py) pz] k tpos] e X.env = pure none) (h1 : (assignEach [.Tuple [.Name x px, .Starred (.Name y py) pz] k tpos] X.env).map (·.2) = [assign (.Tuple [.Name x px, .Starred (.Name y py) pz] k tpos) X.env]) (hes : ea = es') : PS X (.Assign [.Tuple [.Name x px, .Starred (.Name y py) pz] k tpos] e pos) (tS T fz (vStar f es' i j)) := by
  subst hes
  exact s_star hK he (pg_star hc hN (okt_ok hi).n (okt_ok hi).l (okt_ok hi).f (okt_ok hj).n (okt_ok hj).l (okt_ok hj).f) hs hw h1
theorem S_par {y : Str} {px py pt : Pos} {kt k2 pt2} {k1 k3 : Kd} {f1 f2 : F} (hk1 : k1 ≠ .pk) (hk3 : k3 ≠ .pk) (hc : X.calm = true) (hN : X.N.Nodup) (hi : X.N[i]? = some x) (hj : X.N[j]? = some y) (hij : i ≠ j) (hx : isl (lk X.env.scope x) = true) (hy : isl (lk X.env.scope y) = true) (ha : PE X a (tX T k1 f1 ea)) (hb : PE X b (tX T k3 f2 eb))
    (hst : starEach [a, b] X.env = [(false, eval a X.env), (false, eval b X.env)]) (hst2 : starEach [b] X.env = [(false, eval b X.env)]) (hw : swappedStores [.Tuple [.Name x px, .Name y py] kt pt] (.Tuple [a, b] k2 pt2) X.env = pure (some [x, y])) (hs : swapsWithSole [.Tuple [.Name x px, .Name y py] kt pt] (.Tuple [a, b] k2 pt2) pos.line X.env = pure false) (hes : ea ++ eb = es') :
    PS X (.Assign [.Tuple [.Name x px, .Name y py] kt pt] (.Tuple [a, b] k2 pt2) pos) (tS T fz (vPar k1 f1 k3 f2 es' i j)) := by
  subst hes
  exact s_par hk1 hk3 hc hN hi hj hij (isl_ok hx) (isl_ok hy) ha hb hst hst2 hw hs
theorem S_app {px pa pc : Pos} (h : okv X i x = true) (he : PE X e (tX T .vl fa ea)) (hst : starEach [e] X.env = [(false, eval e X.env)]) (hl : (pa.endLine == pc.line) = true) (hes : ea = es') : PS X (.Expr (.Call (.Attribute (.Name x px) "append" pa) [e] [] pc) pos) (tS T fz (vApp fa es' i)) := by
  subst hes
  exact s_app (okv_ok h).n (okv_ok h).v (okv_ok h).d (okv_ok h).c he hst hl
theorem S_ext {px pa pc : Pos} (h : okv X i x = true) (he : PE X e (tX T .vl fa ea)) (hst : starEach [e] X.env = [(false, eval e X.env)]) (hl : (pa.endLine == pc.line) = true) (hes : ea = es') : PS X (.Expr (.Call (.Attribute (.Name x px) "extend" pa) [e] [] pc) pos) (tS T fz (vExt fa es' i)) := by
  subst hes
  exact s_ext (okv_ok h).n (okv_ok h).v (okv_ok h).d (okv_ok h).c he hst hl
theorem S_rvs {px pa pc : Pos} (h : okv X i x = true) (hl : (pa.endLine == pc.line) = true) : PS X (.Expr (.Call (.Attribute (.Name x px) "reverse" pa) [] [] pc) pos) (tS T fz (vRvs i)) := s_rvs (okv_ok h).n (okv_ok h).v (okv_ok h).d (okv_ok h).c hl
theorem S_dput {px p' : Pos} (hu : X.A.units + 1 < cLine) (h : okv X i x = true) (hk : PE X a (tX T .vl fa ea)) (he : PE X b (tX T .vl fb eb)) (hs : swapsWith b (some (.Subscript (.Name x px) a p')) pos.line X.env = pure false) (hes : eb ++ ea = es') : PS X (.Assign [.Subscript (.Name x px) a p'] b pos) (tS T fz (vDput fa fb es' i)) := by
  subst hes
  exact s_dput hu (okv_ok h).n (okv_ok h).v (okv_ok h).d (okv_ok h).c hk he hs
theorem S_ret (he : PE X e (tX T .vl fa ea)) (hes : ea = es') : PS X (.Return (some e) pos) (tS T false (vRet fa es')) := by
  subst hes
  exact s_ret rfl he
theorem S_retF (he : PE X e (tX T .fr fa ea)) (hes : ea = es') : PS X (.Return (some e) pos) (tS T true (vRet fa es')) := by
  subst hes
  exact s_ret rfl he
theorem S_retO (h : okv X i x = true) : PS X (.Return (some (.Name x p)) pos) (tS T true (vRetO i)) := s_retO (okv_ok h).n (okv_ok h).v (okv_ok h).d (okv_ok h).c
theorem S_drop {k : Kd} (he : PE X e (tX T k fa ea)) (hs : swapsWith e none pos.line X.env = pure false) (hes : ea = es') : PS X (.Expr e pos) (tS T fz (vDrop fa es')) := by
  subst hes
  exact s_drop he hs
theorem S_if {sa sb : List Stmt} {ha hb : Env → Option Out} (hc : PT X c (tXt T fc ec)) (h1 : PSs X sa (tS T fz ha)) (h2 : PSs X sb (tS T fz hb)) (hes : ec = es') : PS X (.If c sa sb pos) (tS T fz (vIfS fc es' ha hb)) := by
  subst hes
  exact s_if hc h1 h2
theorem S_for {tg : Tg} {tgx iter : Expr} {body : List Stmt} {fi : Fs} {fb : Env → Option Out} (hp : PassesOwn (model X.prog X.w) X.A X.env X.xe) (hc : X.calm = true) (hi : PI X tgx iter (tXi T fi ea)) (hg : PG X tgx (tG T tg)) (hb : PSs X body (tS T fz fb)) (hs : ∀ x, foldedSetIterable iter X.env x = pure x) (hes : ea = es') :
    PS X (.For tgx iter body [] pos) (tS T fz (vFor fi es' tg fb)) := by
  subst hes
  exact s_for hp hc hi hg hb hs
theorem S_lc {elt tgx iter : Expr} {ifs : List Expr} {scope : Scope} {tg : Tg} {fi : Fs} {ft : Env → Option Bool} {fe : F} {et : List Nat} (own : List (Str × Nat)) {spos : Pos} (hc : X.calm = true) (hN : X.N.Nodup) (hy : X.N[i]? = some x) (hyl : isl (lk X.env.scope x) = true) (hsw : swapsWith (.ListComp elt [⟨tgx, iter, ifs, 0⟩] scope pos) (some (.Name x p)) spos.line X.env = pure true)
    (hi : PI X tgx iter (tXj T fi ea)) (ok : blkC X.N X.env.scope scope own = true) (hv : ∀ i ∈ tg.own, i ∈ own.map (·.2)) (hg : Blk X scope fun Y => PG Y tgx (tG T tg)) (ht : Blk X scope fun Y => PTs Y ifs (tXb T ft et)) (he : Blk X scope fun Y => PE Y elt (tX T .vl fe eb)) (hs : ∀ x, foldedSetIterable iter X.env x = pure x) (hes : ea ++ out (own.map (·.2)) (et ++ eb) = es') :
    PS X (.Assign [.Name x p] (.ListComp elt [⟨tgx, iter, ifs, 0⟩] scope pos) spos) (tS T fz (vAsg .fr (vLc fi tg (own.map (·.2)) ft fe) es' i)) := by
  subst hes
  exact s_lc own hc hN hy (isl_ok hyl) hsw hi ok hv hg ht he hs
theorem S_dc {kx vx tgx iter : Expr} {scope : Scope} {tg : Tg} {fi : Fs} {fk fv : F} {ek : List Nat} (own : List (Str × Nat)) {spos : Pos} (hc : X.calm = true) (hN : X.N.Nodup) (hy : X.N[i]? = some x) (hyl : isl (lk X.env.scope x) = true) (hsw : swapsWith (.DictComp kx vx [⟨tgx, iter, [], 0⟩] scope pos) (some (.Name x p)) spos.line X.env = pure true)
    (hi : PI X tgx iter (tXi T fi ea)) (ok : blkC X.N X.env.scope scope own = true) (hv : ∀ i ∈ tg.own, i ∈ own.map (·.2)) (hg : Blk X scope fun Y => PG Y tgx (tG T tg)) (hk : Blk X scope fun Y => PE Y kx (tX T .vl fk ek)) (he : Blk X scope fun Y => PE Y vx (tX T .vl fv eb)) (hs : ∀ x, foldedSetIterable iter X.env x = pure x) (hes : ea ++ out (own.map (·.2)) (ek ++ eb) = es') :
    PS X (.Assign [.Name x p] (.DictComp kx vx [⟨tgx, iter, [], 0⟩] scope pos) spos) (tS T fz (vAsg .fr (vDc fi tg (own.map (·.2)) fk fv) es' i)) := by
  subst hes
  exact s_dc own hc hN hy (isl_ok hyl) hsw hi ok hv hg hk he hs
end
end PD
end
section
set_option Elab.async false
set_option linter.all false
set_option maxRecDepth 100000
set_option maxHeartbeats 4000000
/-! PDP: a def from its walk. -/
namespace PD
open PySem PyProof.Rows L2 Evl
def runG (n k : Nat) (fr : Bool) (g : Env → Option Out) (ds : List D) : Option D :=
  if ds.length = k ∧ k ≤ n then (g (startE n ds)).bind fun o => match o with
    | .nx _ => if fr then none else some .non
    | .rt d => some d
  else none
theorem startE_get {n : Nat} {ds : List D} {i : Nat} {x : Bool × D} (h : (startE n ds)[i]? = some (some x)) : x.1 = false ∧ ds[i]? = some x.2 := by
  unfold startE at h
  by_cases hi : i < ds.length
  · rw [List.getElem?_append_left (by simpa using hi), List.getElem?_map] at h
    cases hd : ds[i]? with
    | none => rw [hd] at h; cases h
    | some d => rw [hd] at h; cases h; exact ⟨rfl, rfl⟩
  · rw [List.getElem?_append_right (by simpa using hi)] at h
    rw [List.getElem?_replicate] at h
    split at h <;> cases h
theorem sim_start {T : Tb} {Hf H : Hp} {N : List Str} {vs : List V} {ds : List D} (e : Ex Hf H) (r : Rps T Hf vs ds) (hl : ds.length ≤ N.length) : Sim T Hf H Hf H (start N vs) (startE N.length ds) := by
  have hv := r.length
  refine ⟨e, Ex.refl _, Ex.refl _, fun _ _ _ h => h, ?_, fun i d h => ?_, fun i d h => ?_, fun i j d d' a _ h => ?_⟩
  · simp [L2.start, startE, hv]
  · obtain ⟨_, h2⟩ := startE_get h
    obtain ⟨v, h3, h4⟩ := r.get h2
    refine ⟨v, ?_, h4⟩
    have hi := (List.getElem?_eq_some_iff.mp h3).1
    unfold L2.start
    rw [List.getElem?_append_left (by simpa using hi), List.getElem?_map, h3]; rfl
  · exact absurd (startE_get h).1 (by simp)
  · exact absurd (startE_get h).1 (by simp)
theorem fn_ok {P : Program} {w : World} {K : PySem.W.Frag} {mg : Str → Option Value} {base : Heap} {T : Tb} {x qual : Str} {params : Arguments} {body : List Stmt} {scope : Scope} {dvs : List V} {kws : List (Str × V)} {f : Addr} {fd : FuncData} {N ps : List Str} {k : Nat} {fr : Bool} {g : Env → Option Out}
    (F : FunD K x qual params body scope dvs kws f fd) (S : FnScope N ps scope)
    (hb : ∀ (cdv : Value) (A : Around) (outer : List PySem.Env) (s : Shared) (H : Hp) (E : XK), Room k (A.deeper (envOfC qual scope s.heap.objs.size f cdv)) → PSs (cxOf L2.CX0 P w K mg base N qual scope f cdv A outer s H E).nox body (tS T fr g)) :
    FnOk P w K mg base L2.CX0 (k + 1) f fd ps (spF T (runG N.length ps.length fr g) fr) := by
  refine F.ok S (fun vs H Q E h => ?_) fun cdv A outer s H vs Q E hr h => ⟨tS T fr g, PSs.nox (hb cdv A outer s H E hr), ?_⟩
  · obtain ⟨Hf, ds, r, _, h1, h2, _⟩ := h
    unfold runG at h2
    split at h2
    · rename_i hh; rw [h1.length]; exact hh.1
    · cases h2
  · obtain ⟨Hf, ds, r, e, h1, h2, q⟩ := h
    unfold runG at h2
    split at h2
    rotate_left
    · cases h2
    rename_i hh
    obtain ⟨o, e1, e2⟩ := ob h2
    refine ⟨Hf, H, Hf, startE N.length ds, o, sim_start e h1 (by rw [hh.1]; exact hh.2), e1, ?_⟩
    cases o with
    | nx ρ' =>
      intro Hf' H' σ' s' _
      cases fr with
      | true => cases e2
      | false =>
        cases e2
        exact q Hf' H' .non s'.ef s'.e0 s'.e1 s'.sep rfl
    | rt d =>
      cases e2
      intro Hf' H' v gg rr
      exact q Hf' H' v gg.y gg.x gg.z gg.p rr
theorem fn_none {P : Program} {w : World} {K : PySem.W.Frag} {mg : Str → Option Value} {base : Heap} {T : Tb} {f : Addr} {fd : FuncData} {ps : List Str} {k : Nat} {fr : Bool} {M : List D → Option D} (hM : ∀ ds, M ds = none) : FnOk P w K mg base L2.CX0 k f fd ps (spF T M fr) := by
  refine ⟨fun vs H Q E h => ?_, fun A outer s H args us vs Q E hr he hb hv h => ?_⟩ <;>
  · obtain ⟨Hf, ds, r, _, _, h2, _⟩ := h
    rw [hM] at h2; cases h2

structure HasMk (P : Program) (w : World) (K : PySem.W.Frag) (mg : Str → Option Value) (base : Heap) (T : Tb) (lv : Nat) (c : Nat) (M : List D → Option (List D)) (x : Str) : Prop where
  ex : ∃ k f fd ps, T.cl c = some k ∧ (∀ ds ls, M ds = some ls → ls.length = k.fs.length) ∧ Mk K k.C f ∧ FnOk P w K mg base L2.CX0 lv f fd ps (spI T c M) ∧ mg x = some (.ref k.C) ∧ Binds K fd ps []
structure HasMe (P : Program) (w : World) (K : PySem.W.Frag) (mg : Str → Option Value) (base : Heap) (T : Tb) (lv : Nat) (c : Nat) (M : List D → Option D) (m : Str) : Prop where
  ex : ∃ k f fd ps, T.cl c = some k ∧ Cls K k.C ∧ Meth K k.C m f ∧ FnOk P w K mg base L2.CX0 lv f fd ps (spF T M false) ∧ Binds K fd ps [] ∧ m ∉ k.fs
structure HasFv (mg : Str → Option Value) (T : Tb) (i : Nat) (x : Str) : Prop where
  ex : ∃ a, mg x = some (.ref a) ∧ T.fn i = some a
structure HasDy (P : Program) (w : World) (K : PySem.W.Frag) (mg : Str → Option Value) (base : Heap) (T : Tb) (lv : Nat) (C : Nat → List D → Option D) : Prop where
  ex : ∀ a i, T.fn i = some a → ∃ fd ps, FnOk P w K mg base L2.CX0 lv a fd ps (spF T (C i) false) ∧ PySem.W.keepIn K (.ref a) = true ∧ Binds K fd ps []
section
variable {X : Cx} {T : Tb} {pos p p2 : Pos} {a b c e : Expr} {es rest : List Expr} {fa fb fc : F} {ga gb : Fs} {ea eb ec : List Nat} {i : Nat} {x : Str} {lv n : Nat} {C : Nat → List D → Option D}
theorem e_mk {M : List D → Option (List D)} (h : HasMk X.prog X.w X.K X.mg X.base T lv n M x) (hr : Room (lv + 1) X.A) (hg : Gl X x) (ha : PA X (e :: es) (tXs T gb eb)) (h2 : (x == ("__debug__" : Str)) = false) (hs : starEach (e :: es) X.env = (false, eval e X.env) :: starEach es X.env) (hs2 : ((backTo pos (starEach es X.env)).any fun x => x.fst) = false) :
    PE X (.Call (.Name x p) (e :: es) [] pos) (tX T .vl (vMk n M gb) eb) := by
  obtain ⟨k, f, fd, ps, h1, h3, h4, F, hm, hb⟩ := h.ex
  exact x_make h1 h3 h4 F hr hg hm hb ha h2 hs hs2
theorem e_me {M : List D → Option D} {apos : Pos} {pl : Sem Bool} (hK : X.K = T.K) (h : HasMe X.prog X.w X.K X.mg X.base T lv n M x) (hr : Room lv X.A) (ha : PE X a (tX T .vl fa ea))
    (ht : eval (.Call (.Attribute a x apos) [] [] pos) X.env = (do
      let ov ← eval a X.env
      standAt apos.atName
      let (f, first) ← holding [ov] (getMethod ov x pl)
      callWith pos f first (backTo pos (starEach [] X.env)) (backToKw pos (keywordEach [] X.env)))) :
    PE X (.Call (.Attribute a x apos) [] [] pos) (tX T .vl (vMeth M n fa) ea) := by
  obtain ⟨k, f, fd, ps, h1, h3, h4, F, hb, hn⟩ := h.ex
  exact x_meth0 hK ha h1 h3 h4 F hr hb hn ht
theorem e_fv (h : HasFv X.mg T i x) (hg : Gl X x) (hd : (x == ("__debug__" : Str)) = false) : PE X (.Name x pos) (tX T .vl (vK (.fnv i)) []) := by
  obtain ⟨f, h1, h2⟩ := h.ex
  exact x_fnv hg h1 h2 hd
theorem e_dyn (A : HasDy X.prog X.w X.K X.mg X.base T lv C) (hr : Room lv X.A) (hf : PE X a (tX T .vl fa ea)) (ha : PA X (e :: es) (tXs T gb eb))
    (ht : eval (.Call a (e :: es) [] pos) X.env = (do callWith pos (← eval a X.env) [] (backTo pos (starEach (e :: es) X.env)) (backToKw pos (keywordEach [] X.env))))
    (he : starEach (e :: es) X.env = (false, eval e X.env) :: starEach es X.env) (hpl : (backTo pos (starEach es X.env)).any (·.1) = false) :
    PE X (.Call a (e :: es) [] pos) (tX T .vl (vDyn C fa gb) (ea ++ eb)) := x_callV hf A.ex hr ha ht he hpl
/-! ### {"k": v, ..} -/
structure PDs (X : Cx) (T : Tb) (pos : Pos) (keys : List (Option Expr)) (values : List Expr) (ks : List (List Nat)) (ps : List ((PD.Env → Option D) × List Nat)) : Prop where
  h : PPs X pos keys values (prs T ks ps)
theorem q_nil : PDs X T pos [] [] [] [] := ⟨pps_nil⟩
theorem q_cons {v : Expr} {keys : List (Option Expr)} {values : List Expr} {s : List Nat} {ks : List (List Nat)} {j} {ps : List ((PD.Env → Option D) × List Nat)} (hx : x = sS s) (hv : PE X v (tX T .vl fa ea)) (hr : PDs X T pos keys values ks ps) : PDs X T pos (some (.Constant (.str x) j p) :: keys) (v :: values) (s :: ks) ((fa, ea) :: ps) := by
  subst hx
  exact ⟨pps_cons pe_str hv hr.h⟩
theorem e_dct {keys : List (Option Expr)} {values : List Expr} {ks : List (List Nat)} {ps : List ((PD.Env → Option D) × List Nat)} (h : PDs X T pos keys values ks ps) (hall : (keys.all fun x => x.isSome) = true) (hl : keys.length = values.length) (h0 : keys ≠ []) (h15 : keys.length ≤ 15) : PE X (.Dict keys values pos) (tX T .fr (vDct ks ps) (escp ps)) := x_dct h.h hall hl h0 h15
end

/-- a, b = x, y in the plain order: what is new stays the names' own -/
theorem S_parO {X : Cx} {T : Tb} {fz : Bool} {pos : Pos} {a b : Expr} {x y : Str} {i j : Nat} {ea eb es' : List Nat} {px py pt : Pos} {kt k2 pt2} {k1 k3 : Kd} {f1 f2 : F} (hk1 : k1 ≠ .pk) (hk3 : k3 ≠ .pk) (hc : X.calm = true) (hN : X.N.Nodup) (hi : okt X i x = true) (hj : okt X j y = true) (ha : PE X a (tX T k1 f1 ea)) (hb : PE X b (tX T k3 f2 eb))
    (hst : starEach [a, b] X.env = [(false, eval a X.env), (false, eval b X.env)]) (hst2 : starEach [b] X.env = [(false, eval b X.env)]) (hw : swappedStores [.Tuple [.Name x px, .Name y py] kt pt] (.Tuple [a, b] k2 pt2) X.env = pure none) (hs : swapsWithSole [.Tuple [.Name x px, .Name y py] kt pt] (.Tuple [a, b] k2 pt2) pos.line X.env = pure false)
    (h1 : (assignEach [.Tuple [.Name x px, .Name y py] kt pt] X.env).map (·.2) = [assign (.Tuple [.Name x px, .Name y py] kt pt) X.env]) (h2 : (assignEach [.Name x px, .Name y py] X.env).map (·.2) = assign (.Name x px) X.env :: (assignEach [.Name y py] X.env).map (·.2)) (h3 : (assignEach [.Name y py] X.env).map (·.2) = assign (.Name y py) X.env :: (assignEach [] X.env).map (·.2)) (hn : (assignEach [.Name x px, .Name y py] X.env).length = 2) (hf : (assignEach [.Name x px, .Name y py] X.env).findIdx? (·.1) = none) (hes : ea ++ eb = es') :
    PS X (.Assign [.Tuple [.Name x px, .Name y py] kt pt] (.Tuple [a, b] k2 pt2) pos) (tS T fz (vPar k1 f1 k3 f2 es' i j)) := by
  subst hes
  refine PSm (ps_asg (pe_tup (pa_cons ha (pa_cons hb pa_nil hst2) (by rw [hst, hst2]))) (pg_tup (n := 2) hc (pgs_cons (pg_name hN (okt_ok hi).n (okt_ok hi).l (okt_ok hi).f) (pgs_cons (pg_name hN (okt_ok hj).n (okt_ok hj).l (okt_ok hj).f) pgs_nil h3) h2) hn hf) hs hw h1) fun Dn σ H ⟨F0, H0, Hf, ρ0, o, s0, e, q⟩ => ?_
  obtain ⟨Hf1, x0, s⟩ := s0.frzs (ea ++ eb)
  have fzz := frz_Fz (ea ++ eb) ρ0
  obtain ⟨d1, q1, z1⟩ := PD.ob e
  obtain ⟨d2, q2, z2⟩ := PD.ob z1
  obtain ⟨r1, q3, z3⟩ := PD.ob z2
  obtain ⟨r2, q4, z4⟩ := PD.ob z3
  clear e z1 z2 z3
  cases z4
  unfold setE at q3 q4
  split at q3
  rotate_left
  · cases q3
  rename_i hi'
  cases q3
  split at q4
  rotate_left
  · cases q4
  rename_i hj'
  cases q4
  refine ⟨F0, H0, Hf1, _, d1, s, fzz.left, q1, fun Hf2 H2 v g2 r2 => ?_⟩
  refine ⟨F0, H0, Hf2, _, d2, s.gr g2, fzz.right, q2, fun Hf3 H3 u g3 r3 => ⟨by show 2 ≤ sizeLine; decide, fun p hp => ?_⟩⟩
  refine ⟨p, [v, u], rfl, st_of upd_same, rfl, v, [u], rfl, u, [], rfl, rfl, ?_⟩
  have s2 := (s.setK g2 r2 hk1 hi').setK g3 r3 hk3 hj'
  exact q Hf3 _ _ (s2.new hp) ((x0.trans g2.y).trans g3.y)
end PD
end
section
set_option Elab.async false
set_option linter.all false
set_option maxRecDepth 100000
set_option maxHeartbeats 4000000
/-! PDQ: what the walks yield, reckoned. -/
namespace PD
section
variable {f g : Env → Option Out} {fa fb : F} {fi : Fs} {es : List Nat} {i j : Nat} {ρ ρ' : Env} {b : Bool} {d : D}
theorem q_seq (h : f ρ = some (.nx ρ')) : vSeq f g ρ = g ρ' := by unfold vSeq; rw [h]; rfl
theorem q_seqR (h : f ρ = some (.rt d)) : vSeq f g ρ = some (.rt d) := by unfold vSeq; rw [h]; rfl
theorem q_if (h : fa (frz es ρ) = some (.bl b)) : vIfS fa es f g ρ = if b then f (frz es ρ) else g (frz es ρ) := by unfold vIfS; simp only [h, Option.bind_some, truD]
theorem q_ext {l m : List D} (h : fa (frz es ρ) = some (.lst m)) (hl : (frz es ρ)[i]? = some (some (true, .lst l))) (hz : l.length + m.length ≤ lim) : vExt fa es i ρ = some (.nx ((frz es ρ).set i (some (true, .lst (l ++ m))))) := by
  unfold vExt
  simp only [h, Option.bind_some, lstD, hl, hz, if_true]
theorem q_app {l : List D} (h : fa (frz es ρ) = some d) (hl : (frz es ρ)[i]? = some (some (true, .lst l))) (hz : l.length < lim) : vApp fa es i ρ = some (.nx ((frz es ρ).set i (some (true, .lst (l ++ [d]))))) := by
  unfold vApp
  simp only [h, Option.bind_some, hl, hz, if_true]
theorem q_asg {k : Kd} (h : fa (frz es ρ) = some d) (hi : i < (frz es ρ).length) : vAsg k fa es i ρ = some (.nx ((frz es ρ).set i (some (k == .fr, d)))) := by
  unfold vAsg
  simp only [h, Option.bind_some, setE, hi, if_true]
theorem q_ret (h : fa (frz es ρ) = some d) : vRet fa es ρ = some (.rt d) := by
  unfold vRet
  simp only [h, Option.bind_some]
theorem q_for {l : List D} {tg : Tg} (h : fi (frz es ρ) = some l) : vFor fi es tg f ρ = goFor (fun d r => (bindT tg d r).bind fun r1 => f r1) l (frz es ρ) := by
  unfold vFor
  simp only [h, Option.bind_some]
/-- row by row, what each adds -/
inductive Acc {α : Type} (P : D → List α → Prop) : List D → List α → Prop
  | nil : Acc P [] []
  | cons {r : D} {m : List α} {l : List D} {ms : List α} (h : P r m) (t : Acc P l ms) : Acc P (r :: l) (m ++ ms)
theorem Acc.all {α : Type} {P : D → List α → Prop} {h : D → List α} : ∀ {l : List D}, (∀ r ∈ l, P r (h r)) → Acc P l (l.flatMap h)
  | [], _ => .nil
  | r :: l, hs => by rw [List.flatMap_cons]; exact .cons (hs r (by simp)) (Acc.all fun x hx => hs x (by simp [hx]))
theorem Acc.app {α : Type} {P : D → List α → Prop} : ∀ {l l' : List D} {m m' : List α}, Acc P l m → Acc P l' m' → Acc P (l ++ l') (m ++ m')
  | _, _, _, _, .nil, h => by simpa using h
  | _, _, _, _, .cons (r := r) (m := m) h t, h' => by
    rw [List.cons_append, List.append_assoc]
    exact .cons h (t.app h')
theorem Acc.one {α : Type} {P : D → List α → Prop} {r : D} {m : List α} (h : P r m) : Acc P [r] m := by
  have := Acc.cons h (Acc.nil (P := P)); rwa [List.append_nil] at this
theorem Acc.imp {α : Type} {P Q : D → List α → Prop} (f : ∀ {r m}, P r m → Q r m) : ∀ {l : List D} {m : List α}, Acc P l m → Acc Q l m
  | _, _, .nil => .nil
  | _, _, .cons h t => .cons (f h) (t.imp f)
theorem go_acc {J : Type} {step : D → Env → Option Out} {E : List D → J → Env} {P : D → List D → Prop} (hs : ∀ r m, P r m → ∀ acc j, acc.length + m.length ≤ lim → ∃ j', step r (E acc j) = some (.nx (E (acc ++ m) j'))) :
    ∀ {l ms : List D}, Acc P l ms → ∀ {acc : List D} {j : J}, acc.length + ms.length ≤ lim → ∃ j', goFor step l (E acc j) = some (.nx (E (acc ++ ms) j'))
  | _, _, .nil, acc, j, _ => ⟨j, by simp [goFor]⟩
  | _, _, .cons (r := r) (m := m) (l := l) (ms := ms) h t, acc, j, hz => by
    rw [List.length_append] at hz
    obtain ⟨j1, h1⟩ := hs r m h acc j (by omega)
    obtain ⟨j2, h2⟩ := go_acc hs t (acc := acc ++ m) (j := j1) (by rw [List.length_append]; omega)
    refine ⟨j2, ?_⟩
    show ((step r (E acc j)).bind fun o => match o with | .nx ρ' => goFor step l ρ' | .rt x => some (.rt x)) = _
    rw [h1]
    show goFor step l (E (acc ++ m) j1) = _
    rw [h2, List.append_assoc]
theorem go_accH {J : Type} {step : D → Env → Option Out} {E : List D → J → Env} {h : D → List D} {l : List D} (hs : ∀ r ∈ l, ∀ acc j, acc.length + (h r).length ≤ lim → ∃ j', step r (E acc j) = some (.nx (E (acc ++ h r) j'))) {acc : List D} {j : J} (hz : acc.length + (l.flatMap h).length ≤ lim) :
    ∃ j', goFor step l (E acc j) = some (.nx (E (acc ++ l.flatMap h) j')) :=
  go_acc (P := fun r m => r ∈ l ∧ m = h r) (fun r m hr acc j hz => by obtain ⟨h1, rfl⟩ := hr; exact hs r h1 acc j hz) (Acc.all fun r hr => ⟨hr, rfl⟩) hz
theorem allM_acc {f : D → Option (List D)} {P : D → List D → Prop} (hs : ∀ q m, P q m → f q = some m) : ∀ {l ms : List D}, Acc P l ms → ∃ ls, allM f l = some ls ∧ ls.flatten = ms
  | _, _, .nil => ⟨[], rfl, rfl⟩
  | _, _, .cons (r := r) (m := m) (l := l) h t => by
    obtain ⟨ls, e1, e2⟩ := allM_acc hs t
    refine ⟨m :: ls, ?_, by rw [List.flatten_cons, e2]⟩
    show ((f r).bind fun x => (allM f l).bind fun r => some (x :: r)) = _
    rw [hs r m h, e1]; rfl
/-- a comprehension, item by item -/
theorem goLc_all {f : D → Option (Option D)} {h : D → D} : ∀ {l : List D}, (∀ d ∈ l, f d = some (some (h d))) → goLc f l = some (l.map h)
  | [], _ => rfl
  | d :: l, hs => by
    show ((f d).bind fun o => (goLc f l).bind fun r => some (match o with | none => r | some x => x :: r)) = _
    rw [hs d (by simp), goLc_all (l := l) fun x hx => hs x (by simp [hx])]
    rfl
theorem goLc_flt {f : D → Option (Option D)} {p : D → Bool} {h : D → D} : ∀ {l : List D}, (∀ d ∈ l, f d = some (if p d then some (h d) else none)) → goLc f l = some ((l.filter p).map h)
  | [], _ => rfl
  | d :: l, hs => by
    show ((f d).bind fun o => (goLc f l).bind fun r => some (match o with | none => r | some x => x :: r)) = _
    rw [hs d (by simp), goLc_flt (l := l) fun x hx => hs x (by simp [hx])]
    cases hp : p d <;> simp [hp]
theorem allM_all {α : Type} {f : D → Option α} {h : D → α} : ∀ {l : List D}, (∀ d ∈ l, f d = some (h d)) → allM f l = some (l.map h)
  | [], _ => rfl
  | d :: l, hs => by
    show ((f d).bind fun x => (allM f l).bind fun r => some (x :: r)) = _
    rw [hs d (by simp), allM_all (l := l) fun x hx => hs x (by simp [hx])]
    rfl
end
end PD
end
section
set_option Elab.async false
set_option linter.all false
set_option maxRecDepth 100000
set_option maxHeartbeats 4000000
/-! The walks of law k04's text (printed by gen/k04.py over gen/walk.py). -/
namespace K04
open PySem PyProof.Rows L2 PD
def top (i : Nat) : Stmt := PySem.Challenge.pw_modulehall_k04_whole_scopes.main.body.getD i (.Pass ⟨0, 0, 0, 0⟩)
def mths : Stmt → List Stmt
  | .ClassDef (body := b) .. => b
  | _ => []
def mth (i j : Nat) : Stmt := (mths (top i)).getD j (.Pass ⟨0, 0, 0, 0⟩)
theorem boot_int_ : bootBuiltins "int" = some (.type Ty.int.nm) := by decide +kernel
theorem boot_bool_ : bootBuiltins "bool" = some (.type Ty.bool.nm) := by decide +kernel
theorem boot_str_ : bootBuiltins "str" = some (.type Ty.str.nm) := by decide +kernel
theorem boot_tuple_ : bootBuiltins "tuple" = some (.type Ty.tuple.nm) := by decide +kernel
theorem u1 {k : Nat} {A : Around} (r : Room k A) : A.units + 1 < cLine := by have := r.un; omega
theorem u3 {k : Nat} {A : Around} (r : Room k A) : A.units + 3 < cLine := by have := r.un; omega
/-- Around's fields -/
def GS : Sg := ⟨fun _ => [[100, 101, 101, 112], [98, 108, 111, 99, 107], [100, 101, 102, 115], [105, 115, 95, 111, 119, 110]], fun _ => false⟩
def mkA : List D → Option (List D)
  | [.int i, b, c] => some [.int i, b, c, .bl (decide (i = 1))]
  | _ => none
structure Gx (P : Program) (w : World) (K : PySem.W.Frag) (mg : Str → Option Value) (base : Heap) (T : Tb) (C : Nat → List D → Option D) (lv : Nat) : Prop where
  b_all : mg "all" = none
  b_any : mg "any" = none
  b_bool : mg "bool" = none
  b_enumerate : mg "enumerate" = none
  b_int : mg "int" = none
  b_isinstance : mg "isinstance" = none
  b_len : mg "len" = none
  b_list : mg "list" = none
  b_range : mg "range" = none
  b_set : mg "set" = none
  b_sorted : mg "sorted" = none
  b_str : mg "str" = none
  b_sum : mg "sum" = none
  b_tuple : mg "tuple" = none
  c_ALL : GStr mg "ALL" [42]
  c_DEEPEST : GInt mg "DEEPEST" 4
  c_LETTERS : GStr mg "LETTERS" [97, 98, 99, 100, 101, 102, 103, 104, 105, 106, 107, 108, 109, 110, 111, 112, 113, 114, 115, 116, 117, 118, 119, 120, 121, 122]
  c_LONGEST : GInt mg "LONGEST" 8
  c_MOST_DOTS : GInt mg "MOST_DOTS" 3
  c_MOST_GIVEN : GInt mg "MOST_GIVEN" 3
  c_MOST_NAMES : GInt mg "MOST_NAMES" 6
  c_MOST_NUMBER : GInt mg "MOST_NUMBER" 9999
  c_MOST_ROWS : GInt mg "MOST_ROWS" 40
  f__law_binds : Has P w K mg base T lv (C 36) false "_law_binds" []
  f__law_cell_at : Has P w K mg base T lv (C 29) false "_law_cell_at" []
  f__law_count : Has P w K mg base T lv (C 40) false "_law_count" []
  f__law_flat : Has P w K mg base T lv (C 34) false "_law_flat" []
  f__law_more : Has P w K mg base T lv (C 39) false "_law_more" []
  f__law_more_samples : Has P w K mg base T lv (C 31) false "_law_more_samples" []
  f__law_named : Has P w K mg base T lv (C 33) false "_law_named" []
  f__law_read : Has P w K mg base T lv (C 37) false "_law_read" []
  f__law_reads : Has P w K mg base T lv (C 38) false "_law_reads" []
  f__law_rows : Has P w K mg base T lv (C 32) false "_law_rows" []
  f__law_samples : Has P w K mg base T lv (C 30) false "_law_samples" []
  f__law_telling : Has P w K mg base T lv (C 35) false "_law_telling" []
  f_are_names : Has P w K mg base T lv (C 3) false "are_names" []
  f_are_pairs : Has P w K mg base T lv (C 5) false "are_pairs" []
  f_are_rows : Has P w K mg base T lv (C 12) false "are_rows" []
  f_bindings_by_top : Has P w K mg base T lv (C 25) false "bindings_by_top" []
  f_blocks_in : Has P w K mg base T lv (C 18) false "blocks_in" []
  f_bound : Has P w K mg base T lv (C 21) true "bound" []
  f_check_rows : Has P w K mg base T lv (C 20) false "check_rows" []
  f_expressions_in : Has P w K mg base T lv (C 27) false "expressions_in" []
  f_is_def : Has P w K mg base T lv (C 11) false "is_def" []
  f_is_expression : Has P w K mg base T lv (C 4) false "is_expression" []
  f_is_from : Has P w K mg base T lv (C 6) false "is_from" []
  f_is_name : Has P w K mg base T lv (C 1) false "is_name" []
  f_is_number : Has P w K mg base T lv (C 0) false "is_number" []
  f_is_path : Has P w K mg base T lv (C 2) false "is_path" []
  f_is_plain_or_named : Has P w K mg base T lv (C 17) false "is_plain_or_named" []
  f_is_plain_row : Has P w K mg base T lv (C 8) false "is_plain_row" []
  f_is_row : Has P w K mg base T lv (C 10) false "is_row" []
  f_is_within : Has P w K mg base T lv (C 7) false "is_within" []
  f_many_rows : Has P w K mg base T lv (C 19) false "many_rows" []
  f_module_bindings : Has P w K mg base T lv (C 23) true "module_bindings" []
  f_names_bound : Has P w K mg base T lv (C 15) false "names_bound" []
  f_names_in : Has P w K mg base T lv (C 26) true "names_in" []
  f_names_read : Has P w K mg base T lv (C 28) false "names_read" []
  f_own_names : Has P w K mg base T lv (C 16) false "own_names" []
  f_reached : Has P w K mg base T lv (C 22) true "reached" []
  f_rows_by_top : Has P w K mg base T lv (C 24) false "rows_by_top" []
  f_rows_of_block : Has P w K mg base T lv (C 13) false "rows_of_block" []
  f_told_names : Has P w K mg base T lv (C 14) false "told_names" []
  g_rows_of_block : Has P w K mg base T lv (C 13) false "rows_of_block" [.int 0]
  v_is_name : HasFv mg T 1 "is_name"
  v_is_path : HasFv mg T 2 "is_path"
  v_is_said : HasFv mg T 9 "is_said"
  dyn : HasDy P w K mg base T lv C
  k_Around : HasMk P w K mg base T 1 0 mkA "Around"
  m_deeper : HasMe P w K mg base T lv 0 (C 42) "deeper"
  cls : ∀ c k, T.cl c = some k → Cls T.K k.C ∧ k.fs = (GS.fl c).map sS ∧ ∀ f ∈ k.fs, NoAttr T.K k.C f
abbrev Xf (N : List Str) (q : Str) (st : Stmt) (P : Program) (w : World) (K : PySem.W.Frag) (mg : Str → Option Value) (base : Heap) (f : Addr) (cdv : Value) (A : Around) (outer : List PySem.Env) (s : Shared) (H : Hp) (E : XK) : Cx := (cxOf L2.CX0 P w K mg base N q (defScope st) f cdv A outer s H E).nox
section
variable {P : Program} {w : World} {K : PySem.W.Frag} {mg : Str → Option Value} {base : Heap} {T : Tb} {C : Nat → List D → Option D} {lv : Nat} {f : Addr} {cdv : Value} {A : Around} {outer : List PySem.Env} {s : Shared} {H : Hp} {E : XK}
def n_is_number : List Str := ["thing"]
def d_is_number (C : Nat → List D → Option D) : PD.Env → Option Out := vSeq (vRet (vAnd (v1 (dIsi .int) (vVar 0)) (v1 dNot (v1 (dIsi .bool) (vVar 0)))) []) vSkip
theorem b_is_number (hK : K = T.K) (G : Gx P w K mg base T C lv) (hr : Room lv (A.deeper (envOfC "is_number" (defScope (top 13)) s.heap.objs.size f cdv))) (hr2 : Room 2 (A.deeper (envOfC "is_number" (defScope (top 13)) s.heap.objs.size f cdv))) (hN : (n_is_number).Nodup) : PSs (Xf n_is_number "is_number" (top 13) P w K mg base f cdv A outer s H E) (defBody (top 13)) (tS T false (d_is_number C)) :=
 (S_cons (S_ret (e_and (e_isi (t := .int) hK (e_pk (i := 0) rfl) boot_int_ rfl G.b_isinstance rfl G.b_int (by decide) rfl rfl) (e_one (e_not (e_isi (t := .bool) hK (e_pk (i := 0) rfl) boot_bool_ rfl G.b_isinstance rfl G.b_bool (by decide) rfl rfl)))) rfl)
 S_nil)
def n_is_name : List Str := ["thing", "sign"]
def d_is_name (C : Nat → List D → Option D) : PD.Env → Option Out := vSeq (vIfS (vOr (v1 dNot (v1 (dIsi .str) (vVar 0))) (v1 dNot (vChain (cmpd .le) (cmpd .le) (vK (.int 1)) (v1 dLen (vVar 0)) (vK (.int 8))))) [] (vSeq (vRet (vK (.bl false)) []) vSkip) (vSkip)) (vSeq (vRet (v1 dAll (vLc (vIs (vVar 0)) (.nm 1) [1] (vT0) (v2 (cmpd .isIn) (vVar 1) (vK (.str [97, 98, 99, 100, 101, 102, 103, 104, 105, 106, 107, 108, 109, 110, 111, 112, 113, 114, 115, 116, 117, 118, 119, 120, 121, 122]))))) [0]) vSkip)
theorem b_is_name (hK : K = T.K) (G : Gx P w K mg base T C lv) (hr : Room lv (A.deeper (envOfC "is_name" (defScope (top 14)) s.heap.objs.size f cdv))) (hr2 : Room 2 (A.deeper (envOfC "is_name" (defScope (top 14)) s.heap.objs.size f cdv))) (hN : (n_is_name).Nodup) : PSs (Xf n_is_name "is_name" (top 14) P w K mg base f cdv A outer s H E) (defBody (top 14)) (tS T false (d_is_name C)) :=
 (S_cons (S_if (t_bool (w_or (t_not (t_val (e_isi (t := .str) hK (e_pk (i := 0) rfl) boot_str_ rfl G.b_isinstance rfl G.b_str (by decide) rfl rfl) (fun _ => rfl))) (w_one (t_not (t_lele (pv e_int) (pv (e_len hK (e_pk (i := 0) rfl) rfl rfl G.b_len)) (pv (e_gint G.c_LONGEST rfl rfl)) rfl))))) (S_cons (S_ret e_bl rfl)
 S_nil) S_nil rfl)
 (S_cons (S_ret (e_all hK (pf (x_lc [("sign", 1)] rfl hN (ij (j_s (e_var (i := 0) rfl))) rfl (by decide) (fun _ _ _ _ _ => (k_nm hN (i := 1) rfl)) (fun _ _ _ _ _ => b_0) (fun _ _ _ _ _ => (e_in (e_pk (i := 1) rfl) (pv (e_gstr G.c_LETTERS rfl rfl)) hK (u1 hr) rfl)) (fun _ => rfl))) rfl rfl G.b_all rfl) rfl)
 S_nil))
def n_is_path : List Str := ["thing", "name"]
def d_is_path (C : Nat → List D → Option D) : PD.Env → Option Out := vSeq (vRet (vAnd (v1 (dIsi .tuple) (vVar 0)) (vAnd (vChain (cmpd .le) (cmpd .le) (vK (.int 1)) (v1 dLen (vVar 0)) (vK (.int 4))) (v1 dAll (vLc (vIt (vVar 0)) (.nm 1) [1] (vT0) (vCall C 1 (vCons (vVar 1) vNil)))))) [0]) vSkip
theorem b_is_path (hK : K = T.K) (G : Gx P w K mg base T C lv) (hr : Room lv (A.deeper (envOfC "is_path" (defScope (top 15)) s.heap.objs.size f cdv))) (hr2 : Room 2 (A.deeper (envOfC "is_path" (defScope (top 15)) s.heap.objs.size f cdv))) (hN : (n_is_path).Nodup) : PSs (Xf n_is_path "is_path" (top 15) P w K mg base f cdv A outer s H E) (defBody (top 15)) (tS T false (d_is_path C)) :=
 (S_cons (S_ret (e_and (e_isi (t := .tuple) hK (e_pk (i := 0) rfl) boot_tuple_ rfl G.b_isinstance rfl G.b_tuple (by decide) rfl rfl) (e_and (e_lele (pv e_int) (pv (e_len hK (e_pk (i := 0) rfl) rfl rfl G.b_len)) (pv (e_gint G.c_DEEPEST rfl rfl)) rfl) (e_one (e_all hK (pf (x_lc [("name", 1)] rfl hN (ij (j_t hK (e_var (i := 0) rfl))) rfl (by decide) (fun _ _ _ _ _ => (k_nm hN (i := 1) rfl)) (fun _ _ _ _ _ => b_0) (fun _ _ _ _ _ => (e_call G.f_is_name hr rfl (l_cons (e_var (i := 1) rfl) l_nil rfl) rfl rfl rfl)) (fun _ => rfl))) rfl rfl G.b_all rfl)))) rfl)
 S_nil)
def n_are_names : List Str := ["thing", "least", "name"]
def d_are_names (C : Nat → List D → Option D) : PD.Env → Option Out := vSeq (vIfS (vOr (v1 dNot (v1 (dIsi .tuple) (vVar 0))) (v1 dNot (vChain (cmpd .le) (cmpd .le) (vVar 1) (v1 dLen (vVar 0)) (vK (.int 6))))) [] (vSeq (vRet (vK (.bl false)) []) vSkip) (vSkip)) (vSeq (vRet (vAnd (v1 dAll (vLc (vIt (vVar 0)) (.nm 2) [2] (vT0) (vCall C 1 (vCons (vVar 2) vNil)))) (v2 (cmpd .eq) (vLenS (vSc (vIt (vVar 0)) (.nm 2) [2] (vVar 2))) (v1 dLen (vVar 0)))) [0, 0]) vSkip)
theorem b_are_names (hK : K = T.K) (G : Gx P w K mg base T C lv) (hr : Room lv (A.deeper (envOfC "are_names" (defScope (top 16)) s.heap.objs.size f cdv))) (hr2 : Room 2 (A.deeper (envOfC "are_names" (defScope (top 16)) s.heap.objs.size f cdv))) (hN : (n_are_names).Nodup) : PSs (Xf n_are_names "are_names" (top 16) P w K mg base f cdv A outer s H E) (defBody (top 16)) (tS T false (d_are_names C)) :=
 (S_cons (S_if (t_bool (w_or (t_not (t_val (e_isi (t := .tuple) hK (e_pk (i := 0) rfl) boot_tuple_ rfl G.b_isinstance rfl G.b_tuple (by decide) rfl rfl) (fun _ => rfl))) (w_one (t_not (t_lele (e_pk (i := 1) rfl) (pv (e_len hK (e_pk (i := 0) rfl) rfl rfl G.b_len)) (pv (e_gint G.c_MOST_NAMES rfl rfl)) rfl))))) (S_cons (S_ret e_bl rfl)
 S_nil) S_nil rfl)
 (S_cons (S_ret (e_and (e_all hK (pf (x_lc [("name", 2)] rfl hN (ij (j_t hK (e_var (i := 0) rfl))) rfl (by decide) (fun _ _ _ _ _ => (k_nm hN (i := 2) rfl)) (fun _ _ _ _ _ => b_0) (fun _ _ _ _ _ => (e_call G.f_is_name hr rfl (l_cons (e_var (i := 2) rfl) l_nil rfl) rfl rfl rfl)) (fun _ => rfl))) rfl rfl G.b_all rfl) (e_one (e_eq (pv (e_lenS rfl G.b_len (x_sc [("name", 2)] rfl hN (j_t hK (e_var (i := 0) rfl)) rfl (by decide) (fun _ _ _ _ _ => (k_nm hN (i := 2) rfl)) (fun _ _ _ _ _ => (e_var (i := 2) rfl)) (fun _ => rfl)) rfl)) (pv (e_len hK (e_pk (i := 0) rfl) rfl rfl G.b_len)) hK hr.units rfl))) rfl)
 S_nil))
def n_is_expression : List Str := ["thing", "within", "word", "rest", "one"]
def d_is_expression (C : Nat → List D → Option D) : PD.Env → Option Out := vSeq (vIfS (vOr (v1 dNot (v1 (dIsi .tuple) (vVar 0))) (vOr (v2 (cmpd .eq) (vVar 0) (vTup (vNil))) (vOr (v1 dNot (v1 (dIsi .str) (v2 dIdx (vVar 0) (vK (.int 0))))) (v2 (cmpd .eq) (vVar 1) (vK (.int 4)))))) [] (vSeq (vRet (vK (.bl false)) []) vSkip) (vSkip)) (vSeq (vStar (vVar 0) [0] 2 3) (vSeq (vIfS (v2 (cmpd .eq) (vVar 2) (vK (.str [110, 117, 109]))) [] (vSeq (vRet (vAnd (v2 (cmpd .eq) (v1 dLen (vVar 3)) (vK (.int 1))) (vAnd (vCall C 0 (vCons (v2 dIdx (vVar 3) (vK (.int 0))) vNil)) (vChain (cmpd .le) (cmpd .le) (v1 dNeg (vK (.int 9999))) (v2 dIdx (vVar 3) (vK (.int 0))) (vK (.int 9999))))) []) vSkip) (vSkip)) (vSeq (vIfS (v2 (cmpd .eq) (vVar 2) (vK (.str [110, 97, 109, 101]))) [] (vSeq (vRet (vAnd (v2 (cmpd .eq) (v1 dLen (vVar 3)) (vK (.int 1))) (vCall C 1 (vCons (v2 dIdx (vVar 3) (vK (.int 0))) vNil))) []) vSkip) (vSkip)) (vSeq (vIfS (vOr (v2 (cmpd .ne) (v1 dLen (vVar 3)) (vK (.int 2))) (vOr (v2 (cmpd .notIn) (vVar 2) (vTup (vCons (vK (.str [100, 111, 116])) (vCons (vK (.str [99, 97, 108, 108])) (vCons (vK (.str [112, 108, 117, 115])) (vCons (vK (.str [108, 101, 115, 115])) vNil)))))) (v1 dNot (vCall C 4 (vCons (v2 dIdx (vVar 3) (vK (.int 0))) (vCons (v2 (bopd .add) (vVar 1) (vK (.int 1))) vNil)))))) [] (vSeq (vRet (vK (.bl false)) []) vSkip) (vSkip)) (vSeq (vIfS (v2 (cmpd .eq) (vVar 2) (vK (.str [100, 111, 116]))) [] (vSeq (vRet (vCall C 1 (vCons (v2 dIdx (vVar 3) (vK (.int 1))) vNil)) []) vSkip) (vSkip)) (vSeq (vIfS (v2 (cmpd .ne) (vVar 2) (vK (.str [99, 97, 108, 108]))) [] (vSeq (vRet (vCall C 4 (vCons (v2 dIdx (vVar 3) (vK (.int 1))) (vCons (v2 (bopd .add) (vVar 1) (vK (.int 1))) vNil))) []) vSkip) (vSkip)) (vSeq (vIfS (vOr (v1 dNot (v1 (dIsi .tuple) (v2 dIdx (vVar 3) (vK (.int 1))))) (v2 (cmpd .gt) (v1 dLen (v2 dIdx (vVar 3) (vK (.int 1)))) (vK (.int 3)))) [] (vSeq (vRet (vK (.bl false)) []) vSkip) (vSkip)) (vSeq (vRet (v1 dAll (vLc (vIt (v2 dIdx (vVar 3) (vK (.int 1)))) (.nm 4) [4] (vT0) (vCall C 4 (vCons (vVar 4) (vCons (v2 (bopd .add) (vVar 1) (vK (.int 1))) vNil))))) []) vSkip))))))))
theorem b_is_expression (hK : K = T.K) (G : Gx P w K mg base T C lv) (hr : Room lv (A.deeper (envOfC "is_expression" (defScope (top 17)) s.heap.objs.size f cdv))) (hr2 : Room 2 (A.deeper (envOfC "is_expression" (defScope (top 17)) s.heap.objs.size f cdv))) (hN : (n_is_expression).Nodup) : PSs (Xf n_is_expression "is_expression" (top 17) P w K mg base f cdv A outer s H E) (defBody (top 17)) (tS T false (d_is_expression C)) :=
 (S_cons (S_if (t_bool (w_or (t_not (t_val (e_isi (t := .tuple) hK (e_pk (i := 0) rfl) boot_tuple_ rfl G.b_isinstance rfl G.b_tuple (by decide) rfl rfl) (fun _ => rfl))) (w_or (t_eq (e_pk (i := 0) rfl) (pv (e_tup l_nil)) hK hr.units rfl) (w_or (t_not (t_val (e_isi (t := .str) hK (pv (e_idx (e_pk (i := 0) rfl) (pv e_int) hK (fun _ _ => rfl))) boot_str_ rfl G.b_isinstance rfl G.b_str (by decide) rfl rfl) (fun _ => rfl))) (w_one (t_eq (e_pk (i := 1) rfl) (pv (e_gint G.c_DEEPEST rfl rfl)) hK hr.units rfl)))))) (S_cons (S_ret e_bl rfl)
 S_nil) S_nil rfl)
 (S_cons (S_star hK rfl hN (i := 2) (j := 3) rfl rfl (e_var (i := 0) rfl) rfl rfl rfl rfl)
 (S_cons (S_if (t_eq (e_pk (i := 2) rfl) (pv (e_str (s := [110, 117, 109]) rfl)) hK hr.units rfl) (S_cons (S_ret (e_and (e_eq (pv (e_len hK (e_pk (i := 3) rfl) rfl rfl G.b_len)) (pv e_int) hK hr.units rfl) (e_and (e_call G.f_is_number hr rfl (l_cons (e_idx (e_pk (i := 3) rfl) (pv e_int) hK (fun _ _ => rfl)) l_nil rfl) rfl rfl rfl) (e_one (e_lele (pv (e_neg (pv (e_gint G.c_MOST_NUMBER rfl rfl)))) (pv (e_idx (e_pk (i := 3) rfl) (pv e_int) hK (fun _ _ => rfl))) (pv (e_gint G.c_MOST_NUMBER rfl rfl)) rfl)))) rfl)
 S_nil) S_nil rfl)
 (S_cons (S_if (t_eq (e_pk (i := 2) rfl) (pv (e_str (s := [110, 97, 109, 101]) rfl)) hK hr.units rfl) (S_cons (S_ret (e_and (e_eq (pv (e_len hK (e_pk (i := 3) rfl) rfl rfl G.b_len)) (pv e_int) hK hr.units rfl) (e_one (e_call G.f_is_name hr rfl (l_cons (e_idx (e_pk (i := 3) rfl) (pv e_int) hK (fun _ _ => rfl)) l_nil rfl) rfl rfl rfl))) rfl)
 S_nil) S_nil rfl)
 (S_cons (S_if (t_bool (w_or (t_ne (pv (e_len hK (e_pk (i := 3) rfl) rfl rfl G.b_len)) (pv e_int) hK hr.units rfl) (w_or (t_nin (e_pk (i := 2) rfl) (pv (e_tup (l_cons (e_str (s := [100, 111, 116]) rfl) (l_cons (e_str (s := [99, 97, 108, 108]) rfl) (l_cons (e_str (s := [112, 108, 117, 115]) rfl) (l_cons (e_str (s := [108, 101, 115, 115]) rfl) l_nil rfl) rfl) rfl) rfl))) hK (u1 hr) rfl) (w_one (t_not (t_val (e_call G.f_is_expression hr rfl (l_cons (e_idx (e_pk (i := 3) rfl) (pv e_int) hK (fun _ _ => rfl)) (l_cons (e_add (e_pk (i := 1) rfl) (pv e_int)) l_nil rfl) rfl) rfl rfl rfl) (fun _ => rfl))))))) (S_cons (S_ret e_bl rfl)
 S_nil) S_nil rfl)
 (S_cons (S_if (t_eq (e_pk (i := 2) rfl) (pv (e_str (s := [100, 111, 116]) rfl)) hK hr.units rfl) (S_cons (S_ret (e_call G.f_is_name hr rfl (l_cons (e_idx (e_pk (i := 3) rfl) (pv e_int) hK (fun _ _ => rfl)) l_nil rfl) rfl rfl rfl) rfl)
 S_nil) S_nil rfl)
 (S_cons (S_if (t_ne (e_pk (i := 2) rfl) (pv (e_str (s := [99, 97, 108, 108]) rfl)) hK hr.units rfl) (S_cons (S_ret (e_call G.f_is_expression hr rfl (l_cons (e_idx (e_pk (i := 3) rfl) (pv e_int) hK (fun _ _ => rfl)) (l_cons (e_add (e_pk (i := 1) rfl) (pv e_int)) l_nil rfl) rfl) rfl rfl rfl) rfl)
 S_nil) S_nil rfl)
 (S_cons (S_if (t_bool (w_or (t_not (t_val (e_isi (t := .tuple) hK (pv (e_idx (e_pk (i := 3) rfl) (pv e_int) hK (fun _ _ => rfl))) boot_tuple_ rfl G.b_isinstance rfl G.b_tuple (by decide) rfl rfl) (fun _ => rfl))) (w_one (t_gt (pv (e_len hK (pv (e_idx (e_pk (i := 3) rfl) (pv e_int) hK (fun _ _ => rfl))) rfl rfl G.b_len)) (pv (e_gint G.c_MOST_GIVEN rfl rfl)) rfl)))) (S_cons (S_ret e_bl rfl)
 S_nil) S_nil rfl)
 (S_cons (S_ret (e_all hK (pf (x_lc [("one", 4)] rfl hN (ij (j_t hK (e_idx (e_pk (i := 3) rfl) (pv e_int) hK (fun _ _ => rfl)))) rfl (by decide) (fun _ _ _ _ _ => (k_nm hN (i := 4) rfl)) (fun _ _ _ _ _ => b_0) (fun _ _ _ _ _ => (e_call G.f_is_expression hr rfl (l_cons (e_var (i := 4) rfl) (l_cons (e_add (e_pk (i := 1) rfl) (pv e_int)) l_nil rfl) rfl) rfl rfl rfl)) (fun _ => rfl))) rfl rfl G.b_all rfl) rfl)
 S_nil)))))))))
def n_are_pairs : List Str := ["thing", "pair", "name"]
def d_are_pairs (C : Nat → List D → Option D) : PD.Env → Option Out := vSeq (vIfS (vOr (v1 dNot (v1 (dIsi .tuple) (vVar 0))) (v1 dNot (vChain (cmpd .le) (cmpd .le) (vK (.int 1)) (v1 dLen (vVar 0)) (vK (.int 6))))) [] (vSeq (vRet (vK (.bl false)) []) vSkip) (vSkip)) (vSeq (vIfS (v1 dNot (v1 dAll (vLc (vIt (vVar 0)) (.nm 1) [1] (vT0) (vAnd (v1 (dIsi .tuple) (vVar 1)) (v2 (cmpd .eq) (v1 dLen (vVar 1)) (vK (.int 2))))))) [0] (vSeq (vRet (vK (.bl false)) []) vSkip) (vSkip)) (vSeq (vRet (v1 dAll (vLc2 (vIt (vVar 0)) (.nm 1) [1, 2] (vT0) (vIt (vVar 1)) (.nm 2) [2] (vT0) (vCall C 1 (vCons (vVar 2) vNil)))) [0]) vSkip))
theorem b_are_pairs (hK : K = T.K) (G : Gx P w K mg base T C lv) (hr : Room lv (A.deeper (envOfC "are_pairs" (defScope (top 18)) s.heap.objs.size f cdv))) (hr2 : Room 2 (A.deeper (envOfC "are_pairs" (defScope (top 18)) s.heap.objs.size f cdv))) (hN : (n_are_pairs).Nodup) : PSs (Xf n_are_pairs "are_pairs" (top 18) P w K mg base f cdv A outer s H E) (defBody (top 18)) (tS T false (d_are_pairs C)) :=
 (S_cons (S_if (t_bool (w_or (t_not (t_val (e_isi (t := .tuple) hK (e_pk (i := 0) rfl) boot_tuple_ rfl G.b_isinstance rfl G.b_tuple (by decide) rfl rfl) (fun _ => rfl))) (w_one (t_not (t_lele (pv e_int) (pv (e_len hK (e_pk (i := 0) rfl) rfl rfl G.b_len)) (pv (e_gint G.c_MOST_NAMES rfl rfl)) rfl))))) (S_cons (S_ret e_bl rfl)
 S_nil) S_nil rfl)
 (S_cons (S_if (t_not (t_val (e_all hK (pf (x_lc [("pair", 1)] rfl hN (ij (j_t hK (e_var (i := 0) rfl))) rfl (by decide) (fun _ _ _ _ _ => (k_nm hN (i := 1) rfl)) (fun _ _ _ _ _ => b_0) (fun _ _ _ _ _ => (e_and (e_isi (t := .tuple) hK (e_pk (i := 1) rfl) boot_tuple_ rfl G.b_isinstance rfl G.b_tuple (by decide) rfl rfl) (e_one (e_eq (pv (e_len hK (e_pk (i := 1) rfl) rfl rfl G.b_len)) (pv e_int) hK hr.units rfl)))) (fun _ => rfl))) rfl rfl G.b_all rfl) (fun _ => rfl))) (S_cons (S_ret e_bl rfl)
 S_nil) S_nil rfl)
 (S_cons (S_ret (e_all hK (pf (x_lc2 [("pair", 1), ("name", 2)] rfl hN (ij (j_t hK (e_var (i := 0) rfl))) rfl (by decide) (by decide) (by decide) (fun _ _ _ _ _ => (k_nm hN (i := 1) rfl)) (fun _ _ _ _ _ => b_0) (fun _ _ _ _ _ => (j_t hK (e_var (i := 1) rfl))) (fun _ _ _ _ _ => (k_nm hN (i := 2) rfl)) (fun _ _ _ _ _ => b_0) (fun _ _ _ _ _ => (e_call G.f_is_name hr rfl (l_cons (e_var (i := 2) rfl) l_nil rfl) rfl rfl rfl)) (fun _ => rfl) (fun _ _ => rfl))) rfl rfl G.b_all rfl) rfl)
 S_nil)))
def n_is_from : List Str := ["thing", "around", "word", "dots", "path", "pairs"]
def d_is_from (C : Nat → List D → Option D) : PD.Env → Option Out := vSeq (vAsgT (vVar 0) [0] [2, 3, 4, 5]) (vSeq (vIfS (vOr (v1 dNot (vCall C 0 (vCons (vVar 3) vNil))) (v1 dNot (vChain (cmpd .le) (cmpd .le) (vK (.int 0)) (vVar 3) (vK (.int 3))))) [3] (vSeq (vRet (vK (.bl false)) []) vSkip) (vSkip)) (vSeq (vIfS (vAnd (v1 dNot (vCall C 2 (vCons (vVar 4) vNil))) (v1 dNot (vAnd (v1 (dIsi .tuple) (vVar 4)) (vAnd (v2 (cmpd .eq) (vVar 4) (vTup (vNil))) (v2 (cmpd .gt) (vVar 3) (vK (.int 0))))))) [4] (vSeq (vRet (vK (.bl false)) []) vSkip) (vSkip)) (vSeq (vIfS (v1 (dIsi .str) (vVar 5)) [] (vSeq (vRet (vAnd (v2 (cmpd .eq) (vVar 5) (vK (.str [42]))) (v2 (cmpd .eq) (vFld GS [98, 108, 111, 99, 107] (vVar 1)) (vK (.str [109, 111, 100, 117, 108, 101])))) []) vSkip) (vSkip)) (vSeq (vRet (vCall C 5 (vCons (vVar 5) vNil)) [5]) vSkip))))
theorem b_is_from (hK : K = T.K) (G : Gx P w K mg base T C lv) (hr : Room lv (A.deeper (envOfC "is_from" (defScope (top 20)) s.heap.objs.size f cdv))) (hr2 : Room 2 (A.deeper (envOfC "is_from" (defScope (top 20)) s.heap.objs.size f cdv))) (hN : (n_is_from).Nodup) : PSs (Xf n_is_from "is_from" (top 20) P w K mg base f cdv A outer s H E) (defBody (top 20)) (tS T false (d_is_from C)) :=
 (S_cons (S_asgT (e_var (i := 0) rfl) (k_tp hK rfl (k_c hN (i := 2) rfl (k_c hN (i := 3) rfl (k_c hN (i := 4) rfl (k_c hN (i := 5) rfl k_0 rfl) rfl) rfl) rfl) rfl rfl) rfl rfl rfl rfl)
 (S_cons (S_if (t_bool (w_or (t_not (t_val (e_call G.f_is_number hr rfl (l_cons (e_var (i := 3) rfl) l_nil rfl) rfl rfl rfl) (fun _ => rfl))) (w_one (t_not (t_lele (pv e_int) (e_pk (i := 3) rfl) (pv (e_gint G.c_MOST_DOTS rfl rfl)) rfl))))) (S_cons (S_ret e_bl rfl)
 S_nil) S_nil rfl)
 (S_cons (S_if (t_bool (w_and (t_not (t_val (e_call G.f_is_path hr rfl (l_cons (e_var (i := 4) rfl) l_nil rfl) rfl rfl rfl) (fun _ => rfl))) (w_one (t_not (t_bool (w_and (t_val (e_isi (t := .tuple) hK (e_pk (i := 4) rfl) boot_tuple_ rfl G.b_isinstance rfl G.b_tuple (by decide) rfl rfl) (fun _ => rfl)) (w_and (t_eq (e_pk (i := 4) rfl) (pv (e_tup l_nil)) hK hr.units rfl) (w_one (t_gt (e_pk (i := 3) rfl) (pv e_int) rfl))))))))) (S_cons (S_ret e_bl rfl)
 S_nil) S_nil rfl)
 (S_cons (S_if (t_val (e_isi (t := .str) hK (e_pk (i := 5) rfl) boot_str_ rfl G.b_isinstance rfl G.b_str (by decide) rfl rfl) (fun _ => rfl)) (S_cons (S_ret (e_and (e_eq (e_pk (i := 5) rfl) (pv (e_gstr G.c_ALL rfl rfl)) hK hr.units rfl) (e_one (e_eq (pv (e_fld hK G.cls (e_pk (i := 1) rfl) (f := [98, 108, 111, 99, 107]) rfl rfl)) (pv (e_str (s := [109, 111, 100, 117, 108, 101]) rfl)) hK hr.units rfl))) rfl)
 S_nil) S_nil rfl)
 (S_cons (S_ret (e_call G.f_are_pairs hr rfl (l_cons (e_var (i := 5) rfl) l_nil rfl) rfl rfl rfl) rfl)
 S_nil)))))
def n_is_within : List Str := ["thing", "around", "word", "rest"]
def d_is_within (C : Nat → List D → Option D) : PD.Env → Option Out := vSeq (vStar (vVar 0) [0] 2 3) (vSeq (vIfS (v2 (cmpd .eq) (vVar 2) (vK (.str [100, 101, 102]))) [] (vSeq (vRet (vAnd (v2 (cmpd .eq) (v1 dLen (vVar 3)) (vK (.int 3))) (vAnd (vCall C 1 (vCons (v2 dIdx (vVar 3) (vK (.int 0))) vNil)) (vAnd (vCall C 3 (vCons (v2 dIdx (vVar 3) (vK (.int 1))) (vCons (vK (.int 0)) vNil))) (v1 (dIsi .tuple) (v2 dIdx (vVar 3) (vK (.int 2))))))) []) vSkip) (vSkip)) (vSeq (vIfS (v2 (cmpd .eq) (vVar 2) (vK (.str [98, 111, 120]))) [] (vSeq (vRet (vAnd (v2 (cmpd .eq) (v1 dLen (vVar 3)) (vK (.int 2))) (vAnd (vCall C 1 (vCons (v2 dIdx (vVar 3) (vK (.int 0))) vNil)) (v1 (dIsi .tuple) (v2 dIdx (vVar 3) (vK (.int 1)))))) []) vSkip) (vSkip)) (vSeq (vIfS (v2 (cmpd .eq) (vVar 2) (vK (.str [119, 104, 101, 110]))) [] (vSeq (vIfS (vOr (v2 (cmpd .ne) (v1 dLen (vVar 3)) (vK (.int 3))) (v1 dNot (vCall C 4 (vCons (v2 dIdx (vVar 3) (vK (.int 0))) (vCons (vK (.int 0)) vNil))))) [] (vSeq (vRet (vK (.bl false)) []) vSkip) (vSkip)) (vSeq (vRet (vAnd (v1 (dIsi .tuple) (v2 dIdx (vVar 3) (vK (.int 1)))) (v1 (dIsi .tuple) (v2 dIdx (vVar 3) (vK (.int 2))))) []) vSkip)) (vSkip)) (vSeq (vRet (vAnd (v2 (cmpd .eq) (v1 dLen (vVar 3)) (vK (.int 2))) (vAnd (v1 (dIsi .tuple) (v2 dIdx (vVar 3) (vK (.int 0)))) (v1 (dIsi .tuple) (v2 dIdx (vVar 3) (vK (.int 1)))))) []) vSkip))))
theorem b_is_within (hK : K = T.K) (G : Gx P w K mg base T C lv) (hr : Room lv (A.deeper (envOfC "is_within" (defScope (top 21)) s.heap.objs.size f cdv))) (hr2 : Room 2 (A.deeper (envOfC "is_within" (defScope (top 21)) s.heap.objs.size f cdv))) (hN : (n_is_within).Nodup) : PSs (Xf n_is_within "is_within" (top 21) P w K mg base f cdv A outer s H E) (defBody (top 21)) (tS T false (d_is_within C)) :=
 (S_cons (S_star hK rfl hN (i := 2) (j := 3) rfl rfl (e_var (i := 0) rfl) rfl rfl rfl rfl)
 (S_cons (S_if (t_eq (e_pk (i := 2) rfl) (pv (e_str (s := [100, 101, 102]) rfl)) hK hr.units rfl) (S_cons (S_ret (e_and (e_eq (pv (e_len hK (e_pk (i := 3) rfl) rfl rfl G.b_len)) (pv e_int) hK hr.units rfl) (e_and (e_call G.f_is_name hr rfl (l_cons (e_idx (e_pk (i := 3) rfl) (pv e_int) hK (fun _ _ => rfl)) l_nil rfl) rfl rfl rfl) (e_and (e_call G.f_are_names hr rfl (l_cons (e_idx (e_pk (i := 3) rfl) (pv e_int) hK (fun _ _ => rfl)) (l_cons e_int l_nil rfl) rfl) rfl rfl rfl) (e_one (e_isi (t := .tuple) hK (pv (e_idx (e_pk (i := 3) rfl) (pv e_int) hK (fun _ _ => rfl))) boot_tuple_ rfl G.b_isinstance rfl G.b_tuple (by decide) rfl rfl))))) rfl)
 S_nil) S_nil rfl)
 (S_cons (S_if (t_eq (e_pk (i := 2) rfl) (pv (e_str (s := [98, 111, 120]) rfl)) hK hr.units rfl) (S_cons (S_ret (e_and (e_eq (pv (e_len hK (e_pk (i := 3) rfl) rfl rfl G.b_len)) (pv e_int) hK hr.units rfl) (e_and (e_call G.f_is_name hr rfl (l_cons (e_idx (e_pk (i := 3) rfl) (pv e_int) hK (fun _ _ => rfl)) l_nil rfl) rfl rfl rfl) (e_one (e_isi (t := .tuple) hK (pv (e_idx (e_pk (i := 3) rfl) (pv e_int) hK (fun _ _ => rfl))) boot_tuple_ rfl G.b_isinstance rfl G.b_tuple (by decide) rfl rfl)))) rfl)
 S_nil) S_nil rfl)
 (S_cons (S_if (t_eq (e_pk (i := 2) rfl) (pv (e_str (s := [119, 104, 101, 110]) rfl)) hK hr.units rfl) (S_cons (S_if (t_bool (w_or (t_ne (pv (e_len hK (e_pk (i := 3) rfl) rfl rfl G.b_len)) (pv e_int) hK hr.units rfl) (w_one (t_not (t_val (e_call G.f_is_expression hr rfl (l_cons (e_idx (e_pk (i := 3) rfl) (pv e_int) hK (fun _ _ => rfl)) (l_cons e_int l_nil rfl) rfl) rfl rfl rfl) (fun _ => rfl)))))) (S_cons (S_ret e_bl rfl)
 S_nil) S_nil rfl)
 (S_cons (S_ret (e_and (e_isi (t := .tuple) hK (pv (e_idx (e_pk (i := 3) rfl) (pv e_int) hK (fun _ _ => rfl))) boot_tuple_ rfl G.b_isinstance rfl G.b_tuple (by decide) rfl rfl) (e_one (e_isi (t := .tuple) hK (pv (e_idx (e_pk (i := 3) rfl) (pv e_int) hK (fun _ _ => rfl))) boot_tuple_ rfl G.b_isinstance rfl G.b_tuple (by decide) rfl rfl))) rfl)
 S_nil)) S_nil rfl)
 (S_cons (S_ret (e_and (e_eq (pv (e_len hK (e_pk (i := 3) rfl) rfl rfl G.b_len)) (pv e_int) hK hr.units rfl) (e_and (e_isi (t := .tuple) hK (pv (e_idx (e_pk (i := 3) rfl) (pv e_int) hK (fun _ _ => rfl))) boot_tuple_ rfl G.b_isinstance rfl G.b_tuple (by decide) rfl rfl) (e_one (e_isi (t := .tuple) hK (pv (e_idx (e_pk (i := 3) rfl) (pv e_int) hK (fun _ _ => rfl))) boot_tuple_ rfl G.b_isinstance rfl G.b_tuple (by decide) rfl rfl)))) rfl)
 S_nil)))))
def n_is_plain_row : List Str := ["thing", "around", "word", "rest", "many", "looks"]
def d_is_plain_row (C : Nat → List D → Option D) : PD.Env → Option Out := vSeq (vStar (vVar 0) [0] 2 3) (vSeq (vAsg .vl (v1 dLen (vVar 3)) [] 4) (vSeq (vIfS (v2 (cmpd .eq) (vVar 2) (vK (.str [108, 101, 116]))) [] (vSeq (vRet (vAnd (v2 (cmpd .eq) (vVar 4) (vK (.int 2))) (vAnd (vCall C 1 (vCons (v2 dIdx (vVar 3) (vK (.int 0))) vNil)) (vCall C 4 (vCons (v2 dIdx (vVar 3) (vK (.int 1))) (vCons (vK (.int 0)) vNil))))) []) vSkip) (vSkip)) (vSeq (vIfS (v2 (cmpd .eq) (vVar 2) (vK (.str [115, 101, 116]))) [] (vSeq (vRet (vAnd (v2 (cmpd .eq) (vVar 4) (vK (.int 3))) (vAnd (vCall C 4 (vCons (v2 dIdx (vVar 3) (vK (.int 0))) (vCons (vK (.int 0)) vNil))) (vAnd (vCall C 1 (vCons (v2 dIdx (vVar 3) (vK (.int 1))) vNil)) (vCall C 4 (vCons (v2 dIdx (vVar 3) (vK (.int 2))) (vCons (vK (.int 0)) vNil)))))) []) vSkip) (vSkip)) (vSeq (vIfS (v2 (cmpd .isIn) (vVar 2) (vTup (vCons (vK (.str [100, 114, 111, 112])) (vCons (vK (.str [115, 97, 121])) (vCons (vK (.str [97, 103, 97, 105, 110])) vNil))))) [] (vSeq (vAsg .fr (vDct [[100, 114, 111, 112], [97, 103, 97, 105, 110], [115, 97, 121]] [(vK (.fnv 1), []), (vK (.fnv 2), []), (vK (.fnv 9), [])]) [] 5) (vSeq (vRet (vAnd (v2 (cmpd .eq) (vVar 4) (vK (.int 1))) (vDyn C (v2 dDix (vVar 5) (vVar 2)) (vCons (v2 dIdx (vVar 3) (vK (.int 0))) vNil))) []) vSkip)) (vSkip)) (vSeq (vIfS (v2 (cmpd .isIn) (vVar 2) (vTup (vCons (vK (.str [117, 115, 101])) (vCons (vK (.str [108, 97, 122, 121])) vNil)))) [] (vSeq (vRet (vAnd (v2 (cmpd .eq) (vVar 4) (vK (.int 2))) (vAnd (vCall C 2 (vCons (v2 dIdx (vVar 3) (vK (.int 0))) vNil)) (vOr (vCall C 1 (vCons (v2 dIdx (vVar 3) (vK (.int 1))) vNil)) (vAnd (v1 dIsN (v2 dIdx (vVar 3) (vK (.int 1)))) (v2 (cmpd .eq) (vVar 2) (vK (.str [117, 115, 101]))))))) []) vSkip) (vSkip)) (vSeq (vIfS (v2 (cmpd .eq) (vVar 2) (vK (.str [102, 97, 114]))) [] (vSeq (vRet (vAnd (v2 (cmpd .eq) (vVar 4) (vK (.int 4))) (vAnd (vCall C 1 (vCons (v2 dIdx (vVar 3) (vK (.int 0))) vNil)) (vAnd (vCall C 2 (vCons (v2 dIdx (vVar 3) (vK (.int 1))) vNil)) (vAnd (vCall C 1 (vCons (v2 dIdx (vVar 3) (vK (.int 2))) vNil)) (vCall C 1 (vCons (v2 dIdx (vVar 3) (vK (.int 3))) vNil)))))) []) vSkip) (vSkip)) (vSeq (vIfS (v2 (cmpd .eq) (vVar 2) (vK (.str [102, 114, 111, 109]))) [] (vSeq (vRet (vAnd (v2 (cmpd .eq) (vVar 4) (vK (.int 3))) (vCall C 6 (vCons (vVar 0) (vCons (vVar 1) vNil)))) [0, 1]) vSkip) (vSkip)) (vSeq (vIfS (v2 (cmpd .eq) (vVar 2) (vK (.str [103, 105, 118, 101]))) [] (vSeq (vRet (vAnd (v2 (cmpd .eq) (vVar 4) (vK (.int 1))) (vAnd (v2 (cmpd .eq) (vFld GS [98, 108, 111, 99, 107] (vVar 1)) (vK (.str [100, 101, 102]))) (vCall C 4 (vCons (v2 dIdx (vVar 3) (vK (.int 0))) (vCons (vK (.int 0)) vNil))))) []) vSkip) (vSkip)) (vSeq (vIfS (v2 (cmpd .isIn) (vVar 2) (vTup (vCons (vK (.str [116, 111, 112])) (vCons (vK (.str [111, 117, 116, 101, 114])) vNil)))) [] (vSeq (vRet (vAnd (v2 (cmpd .eq) (vVar 4) (vK (.int 1))) (vAnd (v2 (cmpd .eq) (vFld GS [98, 108, 111, 99, 107] (vVar 1)) (vK (.str [100, 101, 102]))) (vCall C 3 (vCons (v2 dIdx (vVar 3) (vK (.int 0))) (vCons (vK (.int 1)) vNil))))) []) vSkip) (vSkip)) (vSeq (vRet (vAnd (v2 (cmpd .isIn) (vVar 2) (vTup (vCons (vK (.str [115, 104, 111, 119])) (vCons (vK (.str [104, 105, 100, 101])) vNil)))) (vAnd (v2 (cmpd .eq) (vVar 4) (vK (.int 1))) (vAnd (vFld GS [105, 115, 95, 111, 119, 110] (vVar 1)) (vCall C 3 (vCons (v2 dIdx (vVar 3) (vK (.int 0))) (vCons (vK (.int 1)) vNil)))))) []) vSkip))))))))))
theorem b_is_plain_row (hK : K = T.K) (G : Gx P w K mg base T C lv) (hr : Room lv (A.deeper (envOfC "is_plain_row" (defScope (top 22)) s.heap.objs.size f cdv))) (hr2 : Room 2 (A.deeper (envOfC "is_plain_row" (defScope (top 22)) s.heap.objs.size f cdv))) (hN : (n_is_plain_row).Nodup) : PSs (Xf n_is_plain_row "is_plain_row" (top 22) P w K mg base f cdv A outer s H E) (defBody (top 22)) (tS T false (d_is_plain_row C)) :=
 (S_cons (S_star hK rfl hN (i := 2) (j := 3) rfl rfl (e_var (i := 0) rfl) rfl rfl rfl rfl)
 (S_cons (S_asg hN (i := 4) rfl (e_len hK (e_pk (i := 3) rfl) rfl rfl G.b_len) (by decide) rfl rfl)
 (S_cons (S_if (t_eq (e_pk (i := 2) rfl) (pv (e_str (s := [108, 101, 116]) rfl)) hK hr.units rfl) (S_cons (S_ret (e_and (e_eq (e_pk (i := 4) rfl) (pv e_int) hK hr.units rfl) (e_and (e_call G.f_is_name hr rfl (l_cons (e_idx (e_pk (i := 3) rfl) (pv e_int) hK (fun _ _ => rfl)) l_nil rfl) rfl rfl rfl) (e_one (e_call G.f_is_expression hr rfl (l_cons (e_idx (e_pk (i := 3) rfl) (pv e_int) hK (fun _ _ => rfl)) (l_cons e_int l_nil rfl) rfl) rfl rfl rfl)))) rfl)
 S_nil) S_nil rfl)
 (S_cons (S_if (t_eq (e_pk (i := 2) rfl) (pv (e_str (s := [115, 101, 116]) rfl)) hK hr.units rfl) (S_cons (S_ret (e_and (e_eq (e_pk (i := 4) rfl) (pv e_int) hK hr.units rfl) (e_and (e_call G.f_is_expression hr rfl (l_cons (e_idx (e_pk (i := 3) rfl) (pv e_int) hK (fun _ _ => rfl)) (l_cons e_int l_nil rfl) rfl) rfl rfl rfl) (e_and (e_call G.f_is_name hr rfl (l_cons (e_idx (e_pk (i := 3) rfl) (pv e_int) hK (fun _ _ => rfl)) l_nil rfl) rfl rfl rfl) (e_one (e_call G.f_is_expression hr rfl (l_cons (e_idx (e_pk (i := 3) rfl) (pv e_int) hK (fun _ _ => rfl)) (l_cons e_int l_nil rfl) rfl) rfl rfl rfl))))) rfl)
 S_nil) S_nil rfl)
 (S_cons (S_if (t_in (e_pk (i := 2) rfl) (pv (e_tup (l_cons (e_str (s := [100, 114, 111, 112]) rfl) (l_cons (e_str (s := [115, 97, 121]) rfl) (l_cons (e_str (s := [97, 103, 97, 105, 110]) rfl) l_nil rfl) rfl) rfl))) hK (u1 hr) rfl) (S_cons (S_asg hN (i := 5) rfl (e_dct (q_cons (s := [100, 114, 111, 112]) rfl (e_fv G.v_is_name rfl rfl) (q_cons (s := [97, 103, 97, 105, 110]) rfl (e_fv G.v_is_path rfl rfl) (q_cons (s := [115, 97, 121]) rfl (e_fv G.v_is_said rfl rfl) q_nil))) rfl rfl (by simp) (by decide)) (by decide) rfl rfl)
 (S_cons (S_ret (e_and (e_eq (e_pk (i := 4) rfl) (pv e_int) hK hr.units rfl) (e_one (e_dyn G.dyn hr (e_dix (e_pk (i := 5) rfl) (e_pk (i := 2) rfl) (u1 hr) (fun _ _ => rfl)) (l_cons (e_idx (e_pk (i := 3) rfl) (pv e_int) hK (fun _ _ => rfl)) l_nil rfl) rfl rfl rfl))) rfl)
 S_nil)) S_nil rfl)
 (S_cons (S_if (t_in (e_pk (i := 2) rfl) (pv (e_tup (l_cons (e_str (s := [117, 115, 101]) rfl) (l_cons (e_str (s := [108, 97, 122, 121]) rfl) l_nil rfl) rfl))) hK (u1 hr) rfl) (S_cons (S_ret (e_and (e_eq (e_pk (i := 4) rfl) (pv e_int) hK hr.units rfl) (e_and (e_call G.f_is_path hr rfl (l_cons (e_idx (e_pk (i := 3) rfl) (pv e_int) hK (fun _ _ => rfl)) l_nil rfl) rfl rfl rfl) (e_one (e_or (e_call G.f_is_name hr rfl (l_cons (e_idx (e_pk (i := 3) rfl) (pv e_int) hK (fun _ _ => rfl)) l_nil rfl) rfl rfl rfl) (e_one (e_and (e_isN (pv (e_idx (e_pk (i := 3) rfl) (pv e_int) hK (fun _ _ => rfl)))) (e_one (e_eq (e_pk (i := 2) rfl) (pv (e_str (s := [117, 115, 101]) rfl)) hK hr.units rfl)))))))) rfl)
 S_nil) S_nil rfl)
 (S_cons (S_if (t_eq (e_pk (i := 2) rfl) (pv (e_str (s := [102, 97, 114]) rfl)) hK hr.units rfl) (S_cons (S_ret (e_and (e_eq (e_pk (i := 4) rfl) (pv e_int) hK hr.units rfl) (e_and (e_call G.f_is_name hr rfl (l_cons (e_idx (e_pk (i := 3) rfl) (pv e_int) hK (fun _ _ => rfl)) l_nil rfl) rfl rfl rfl) (e_and (e_call G.f_is_path hr rfl (l_cons (e_idx (e_pk (i := 3) rfl) (pv e_int) hK (fun _ _ => rfl)) l_nil rfl) rfl rfl rfl) (e_and (e_call G.f_is_name hr rfl (l_cons (e_idx (e_pk (i := 3) rfl) (pv e_int) hK (fun _ _ => rfl)) l_nil rfl) rfl rfl rfl) (e_one (e_call G.f_is_name hr rfl (l_cons (e_idx (e_pk (i := 3) rfl) (pv e_int) hK (fun _ _ => rfl)) l_nil rfl) rfl rfl rfl)))))) rfl)
 S_nil) S_nil rfl)
 (S_cons (S_if (t_eq (e_pk (i := 2) rfl) (pv (e_str (s := [102, 114, 111, 109]) rfl)) hK hr.units rfl) (S_cons (S_ret (e_and (e_eq (e_pk (i := 4) rfl) (pv e_int) hK hr.units rfl) (e_one (e_call G.f_is_from hr rfl (l_cons (e_var (i := 0) rfl) (l_cons (e_var (i := 1) rfl) l_nil rfl) rfl) rfl rfl rfl))) rfl)
 S_nil) S_nil rfl)
 (S_cons (S_if (t_eq (e_pk (i := 2) rfl) (pv (e_str (s := [103, 105, 118, 101]) rfl)) hK hr.units rfl) (S_cons (S_ret (e_and (e_eq (e_pk (i := 4) rfl) (pv e_int) hK hr.units rfl) (e_and (e_eq (pv (e_fld hK G.cls (e_pk (i := 1) rfl) (f := [98, 108, 111, 99, 107]) rfl rfl)) (pv (e_str (s := [100, 101, 102]) rfl)) hK hr.units rfl) (e_one (e_call G.f_is_expression hr rfl (l_cons (e_idx (e_pk (i := 3) rfl) (pv e_int) hK (fun _ _ => rfl)) (l_cons e_int l_nil rfl) rfl) rfl rfl rfl)))) rfl)
 S_nil) S_nil rfl)
 (S_cons (S_if (t_in (e_pk (i := 2) rfl) (pv (e_tup (l_cons (e_str (s := [116, 111, 112]) rfl) (l_cons (e_str (s := [111, 117, 116, 101, 114]) rfl) l_nil rfl) rfl))) hK (u1 hr) rfl) (S_cons (S_ret (e_and (e_eq (e_pk (i := 4) rfl) (pv e_int) hK hr.units rfl) (e_and (e_eq (pv (e_fld hK G.cls (e_pk (i := 1) rfl) (f := [98, 108, 111, 99, 107]) rfl rfl)) (pv (e_str (s := [100, 101, 102]) rfl)) hK hr.units rfl) (e_one (e_call G.f_are_names hr rfl (l_cons (e_idx (e_pk (i := 3) rfl) (pv e_int) hK (fun _ _ => rfl)) (l_cons e_int l_nil rfl) rfl) rfl rfl rfl)))) rfl)
 S_nil) S_nil rfl)
 (S_cons (S_ret (e_and (e_in (e_pk (i := 2) rfl) (pv (e_tup (l_cons (e_str (s := [115, 104, 111, 119]) rfl) (l_cons (e_str (s := [104, 105, 100, 101]) rfl) l_nil rfl) rfl))) hK (u1 hr) rfl) (e_and (e_eq (e_pk (i := 4) rfl) (pv e_int) hK hr.units rfl) (e_and (e_fld hK G.cls (e_pk (i := 1) rfl) (f := [105, 115, 95, 111, 119, 110]) rfl rfl) (e_one (e_call G.f_are_names hr rfl (l_cons (e_idx (e_pk (i := 3) rfl) (pv e_int) hK (fun _ _ => rfl)) (l_cons e_int l_nil rfl) rfl) rfl rfl rfl))))) rfl)
 S_nil)))))))))))
def n_is_said : List Str := ["thing"]
def d_is_said (C : Nat → List D → Option D) : PD.Env → Option Out := vSeq (vRet (vCall C 4 (vCons (vVar 0) (vCons (vK (.int 0)) vNil))) [0]) vSkip
theorem b_is_said (hK : K = T.K) (G : Gx P w K mg base T C lv) (hr : Room lv (A.deeper (envOfC "is_said" (defScope (top 23)) s.heap.objs.size f cdv))) (hr2 : Room 2 (A.deeper (envOfC "is_said" (defScope (top 23)) s.heap.objs.size f cdv))) (hN : (n_is_said).Nodup) : PSs (Xf n_is_said "is_said" (top 23) P w K mg base f cdv A outer s H E) (defBody (top 23)) (tS T false (d_is_said C)) :=
 (S_cons (S_ret (e_call G.f_is_expression hr rfl (l_cons (e_var (i := 0) rfl) (l_cons e_int l_nil rfl) rfl) rfl rfl rfl) rfl)
 S_nil)
def n_is_row : List Str := ["thing", "around"]
def d_is_row (C : Nat → List D → Option D) : PD.Env → Option Out := vSeq (vIfS (vOr (v1 dNot (v1 (dIsi .tuple) (vVar 0))) (vOr (v2 (cmpd .eq) (vVar 0) (vTup (vNil))) (v1 dNot (v1 (dIsi .str) (v2 dIdx (vVar 0) (vK (.int 0))))))) [] (vSeq (vRet (vK (.bl false)) []) vSkip) (vSkip)) (vSeq (vIfS (v2 (cmpd .notIn) (v2 dIdx (vVar 0) (vK (.int 0))) (vTup (vCons (vK (.str [100, 101, 102])) (vCons (vK (.str [98, 111, 120])) (vCons (vK (.str [119, 104, 101, 110])) (vCons (vK (.str [116, 114, 121])) vNil)))))) [] (vSeq (vRet (vCall C 8 (vCons (vVar 0) (vCons (vVar 1) vNil))) [0, 1]) vSkip) (vSkip)) (vSeq (vIfS (v1 dNot (vCall C 7 (vCons (vVar 0) (vCons (vVar 1) vNil)))) [0, 1] (vSeq (vRet (vK (.bl false)) []) vSkip) (vSkip)) (vSeq (vIfS (v2 (cmpd .isIn) (v2 dIdx (vVar 0) (vK (.int 0))) (vTup (vCons (vK (.str [119, 104, 101, 110])) (vCons (vK (.str [116, 114, 121])) vNil)))) [] (vSeq (vRet (vAnd (vCall C 12 (vCons (v2 dIdx (vVar 0) (v1 dNeg (vK (.int 2)))) (vCons (vMeth (C 42) 0 (vVar 1)) vNil))) (vCall C 12 (vCons (v2 dIdx (vVar 0) (v1 dNeg (vK (.int 1)))) (vCons (vMeth (C 42) 0 (vVar 1)) vNil)))) [1, 1]) vSkip) (vSkip)) (vSeq (vIfS (v2 (cmpd .eq) (v2 dIdx (vVar 0) (vK (.int 0))) (vK (.str [98, 111, 120]))) [] (vSeq (vRet (vCall C 12 (vCons (v2 dIdx (vVar 0) (vK (.int 2))) (vCons (vMk 0 mkA (vCons (v2 (bopd .add) (vFld GS [100, 101, 101, 112] (vVar 1)) (vK (.int 1))) (vCons (vK (.str [98, 111, 120])) (vCons (vFld GS [100, 101, 102, 115] (vVar 1)) vNil)))) vNil))) []) vSkip) (vSkip)) (vSeq (vRet (vCall C 11 (vCons (vVar 0) (vCons (vVar 1) vNil))) [0, 1]) vSkip)))))
theorem b_is_row (hK : K = T.K) (G : Gx P w K mg base T C lv) (hr : Room lv (A.deeper (envOfC "is_row" (defScope (top 24)) s.heap.objs.size f cdv))) (hr2 : Room 2 (A.deeper (envOfC "is_row" (defScope (top 24)) s.heap.objs.size f cdv))) (hN : (n_is_row).Nodup) : PSs (Xf n_is_row "is_row" (top 24) P w K mg base f cdv A outer s H E) (defBody (top 24)) (tS T false (d_is_row C)) :=
 (S_cons (S_if (t_bool (w_or (t_not (t_val (e_isi (t := .tuple) hK (e_pk (i := 0) rfl) boot_tuple_ rfl G.b_isinstance rfl G.b_tuple (by decide) rfl rfl) (fun _ => rfl))) (w_or (t_eq (e_pk (i := 0) rfl) (pv (e_tup l_nil)) hK hr.units rfl) (w_one (t_not (t_val (e_isi (t := .str) hK (pv (e_idx (e_pk (i := 0) rfl) (pv e_int) hK (fun _ _ => rfl))) boot_str_ rfl G.b_isinstance rfl G.b_str (by decide) rfl rfl) (fun _ => rfl))))))) (S_cons (S_ret e_bl rfl)
 S_nil) S_nil rfl)
 (S_cons (S_if (t_nin (pv (e_idx (e_pk (i := 0) rfl) (pv e_int) hK (fun _ _ => rfl))) (pv (e_tup (l_cons (e_str (s := [100, 101, 102]) rfl) (l_cons (e_str (s := [98, 111, 120]) rfl) (l_cons (e_str (s := [119, 104, 101, 110]) rfl) (l_cons (e_str (s := [116, 114, 121]) rfl) l_nil rfl) rfl) rfl) rfl))) hK (u1 hr) rfl) (S_cons (S_ret (e_call G.f_is_plain_row hr rfl (l_cons (e_var (i := 0) rfl) (l_cons (e_var (i := 1) rfl) l_nil rfl) rfl) rfl rfl rfl) rfl)
 S_nil) S_nil rfl)
 (S_cons (S_if (t_not (t_val (e_call G.f_is_within hr rfl (l_cons (e_var (i := 0) rfl) (l_cons (e_var (i := 1) rfl) l_nil rfl) rfl) rfl rfl rfl) (fun _ => rfl))) (S_cons (S_ret e_bl rfl)
 S_nil) S_nil rfl)
 (S_cons (S_if (t_in (pv (e_idx (e_pk (i := 0) rfl) (pv e_int) hK (fun _ _ => rfl))) (pv (e_tup (l_cons (e_str (s := [119, 104, 101, 110]) rfl) (l_cons (e_str (s := [116, 114, 121]) rfl) l_nil rfl) rfl))) hK (u1 hr) rfl) (S_cons (S_ret (e_and (e_call G.f_are_rows hr rfl (l_cons (e_idx (e_pk (i := 0) rfl) (pv (e_neg (pv e_int))) hK (fun _ _ => rfl)) (l_cons (e_me hK G.m_deeper hr (e_var (i := 1) rfl) rfl) l_nil rfl) rfl) rfl rfl rfl) (e_one (e_call G.f_are_rows hr rfl (l_cons (e_idx (e_pk (i := 0) rfl) (pv (e_neg (pv e_int))) hK (fun _ _ => rfl)) (l_cons (e_me hK G.m_deeper hr (e_var (i := 1) rfl) rfl) l_nil rfl) rfl) rfl rfl rfl))) rfl)
 S_nil) S_nil rfl)
 (S_cons (S_if (t_eq (pv (e_idx (e_pk (i := 0) rfl) (pv e_int) hK (fun _ _ => rfl))) (pv (e_str (s := [98, 111, 120]) rfl)) hK hr.units rfl) (S_cons (S_ret (e_call G.f_are_rows hr rfl (l_cons (e_idx (e_pk (i := 0) rfl) (pv e_int) hK (fun _ _ => rfl)) (l_cons (e_mk G.k_Around hr2 rfl (l_cons (e_add (pv (e_fld hK G.cls (e_pk (i := 1) rfl) (f := [100, 101, 101, 112]) rfl rfl)) (pv e_int)) (l_cons (e_str (s := [98, 111, 120]) rfl) (l_cons (e_fld hK G.cls (e_pk (i := 1) rfl) (f := [100, 101, 102, 115]) rfl rfl) l_nil rfl) rfl) rfl) rfl rfl rfl) l_nil rfl) rfl) rfl rfl rfl) rfl)
 S_nil) S_nil rfl)
 (S_cons (S_ret (e_call G.f_is_def hr rfl (l_cons (e_var (i := 0) rfl) (l_cons (e_var (i := 1) rfl) l_nil rfl) rfl) rfl rfl rfl) rfl)
 S_nil))))))
def n_is_def : List Str := ["thing", "around", "word", "name", "given", "rows", "tops", "outers", "one", "some"]
def d_is_def (C : Nat → List D → Option D) : PD.Env → Option Out := vSeq (vAsgT (vVar 0) [0] [2, 3, 4, 5]) (vSeq (vIfS (v1 dNot (vCall C 12 (vCons (vVar 5) (vCons (vMk 0 mkA (vCons (v2 (bopd .add) (vFld GS [100, 101, 101, 112] (vVar 1)) (vK (.int 1))) (vCons (vK (.str [100, 101, 102])) (vCons (v2 dCat (vFld GS [100, 101, 102, 115] (vVar 1)) (vLst (vCons (vCall C 16 (vCons (vVar 4) (vCons (vVar 5) vNil))) vNil))) vNil)))) vNil)))) [5, 4, 5] (vSeq (vRet (vK (.bl false)) []) vSkip) (vSkip)) (vSeq (vAsgT (vTup (vCons (vCall C 14 (vCons (vVar 5) (vCons (vK (.str [116, 111, 112])) vNil))) (vCons (vCall C 14 (vCons (vVar 5) (vCons (vK (.str [111, 117, 116, 101, 114])) vNil))) vNil))) [5, 5] [6, 7]) (vSeq (vIfS (vOr (v1 dAny (vLc (vIl (vVar 7)) (.nm 8) [8] (vT0) (vOr (v2 (cmpd .isIn) (vVar 8) (vVar 4)) (v2 (cmpd .isIn) (vVar 8) (vVar 6))))) (v1 dAny (vLc (vIl (vVar 6)) (.nm 8) [8] (vT0) (v2 (cmpd .isIn) (vVar 8) (vVar 4))))) [] (vSeq (vRet (vK (.bl false)) []) vSkip) (vSkip)) (vSeq (vRet (v1 dAll (vLc (vIl (vVar 7)) (.nm 8) [8] (vT0) (v1 dAny (vLc (vIl (vFld GS [100, 101, 102, 115] (vVar 1))) (.nm 9) [9] (vT0) (v2 (cmpd .isIn) (vVar 8) (vVar 9)))))) []) vSkip))))
theorem b_is_def (hK : K = T.K) (G : Gx P w K mg base T C lv) (hr : Room lv (A.deeper (envOfC "is_def" (defScope (top 25)) s.heap.objs.size f cdv))) (hr2 : Room 2 (A.deeper (envOfC "is_def" (defScope (top 25)) s.heap.objs.size f cdv))) (hN : (n_is_def).Nodup) : PSs (Xf n_is_def "is_def" (top 25) P w K mg base f cdv A outer s H E) (defBody (top 25)) (tS T false (d_is_def C)) :=
 (S_cons (S_asgT (e_var (i := 0) rfl) (k_tp hK rfl (k_c hN (i := 2) rfl (k_c hN (i := 3) rfl (k_c hN (i := 4) rfl (k_c hN (i := 5) rfl k_0 rfl) rfl) rfl) rfl) rfl rfl) rfl rfl rfl rfl)
 (S_cons (S_if (t_not (t_val (e_call G.f_are_rows hr rfl (l_cons (e_var (i := 5) rfl) (l_cons (e_mk G.k_Around hr2 rfl (l_cons (e_add (pv (e_fld hK G.cls (e_pk (i := 1) rfl) (f := [100, 101, 101, 112]) rfl rfl)) (pv e_int)) (l_cons (e_str (s := [100, 101, 102]) rfl) (l_cons (vf (e_cat (pv (e_fld hK G.cls (e_pk (i := 1) rfl) (f := [100, 101, 102, 115]) rfl rfl)) (pf (e_lst (l_cons (e_call G.f_own_names hr rfl (l_cons (e_var (i := 4) rfl) (l_cons (e_var (i := 5) rfl) l_nil rfl) rfl) rfl rfl rfl) l_nil rfl))))) l_nil rfl) rfl) rfl) rfl rfl rfl) l_nil rfl) rfl) rfl rfl rfl) (fun _ => rfl))) (S_cons (S_ret e_bl rfl)
 S_nil) S_nil rfl)
 (S_cons (S_asgT (e_tup (l_cons (e_call G.f_told_names hr rfl (l_cons (e_var (i := 5) rfl) (l_cons (e_str (s := [116, 111, 112]) rfl) l_nil rfl) rfl) rfl rfl rfl) (l_cons (e_call G.f_told_names hr rfl (l_cons (e_var (i := 5) rfl) (l_cons (e_str (s := [111, 117, 116, 101, 114]) rfl) l_nil rfl) rfl) rfl rfl rfl) l_nil rfl) rfl)) (k_tp hK rfl (k_c hN (i := 6) rfl (k_c hN (i := 7) rfl k_0 rfl) rfl) rfl rfl) rfl rfl rfl rfl)
 (S_cons (S_if (t_bool (w_or (t_val (e_any hK (pf (x_lc [("one", 8)] rfl hN (j_lp (e_pk (i := 7) rfl)) rfl (by decide) (fun _ _ _ _ _ => (k_nm hN (i := 8) rfl)) (fun _ _ _ _ _ => b_0) (fun _ _ _ _ _ => (e_or (e_in (e_pk (i := 8) rfl) (e_pk (i := 4) rfl) hK (u1 hr) rfl) (e_one (e_in (e_pk (i := 8) rfl) (e_pk (i := 6) rfl) hK (u1 hr) rfl)))) (fun _ => rfl))) rfl rfl G.b_any rfl) (fun _ => rfl)) (w_one (t_val (e_any hK (pf (x_lc [("one", 8)] rfl hN (j_lp (e_pk (i := 6) rfl)) rfl (by decide) (fun _ _ _ _ _ => (k_nm hN (i := 8) rfl)) (fun _ _ _ _ _ => b_0) (fun _ _ _ _ _ => (e_in (e_pk (i := 8) rfl) (e_pk (i := 4) rfl) hK (u1 hr) rfl)) (fun _ => rfl))) rfl rfl G.b_any rfl) (fun _ => rfl))))) (S_cons (S_ret e_bl rfl)
 S_nil) S_nil rfl)
 (S_cons (S_ret (e_all hK (pf (x_lc [("one", 8)] rfl hN (j_lp (e_pk (i := 7) rfl)) rfl (by decide) (fun _ _ _ _ _ => (k_nm hN (i := 8) rfl)) (fun _ _ _ _ _ => b_0) (fun _ _ _ _ _ => (e_any hK (pf (x_lc [("some", 9)] rfl hN (ij (j_l hK (e_fld hK G.cls (e_pk (i := 1) rfl) (f := [100, 101, 102, 115]) rfl rfl))) rfl (by decide) (fun _ _ _ _ _ => (k_nm hN (i := 9) rfl)) (fun _ _ _ _ _ => b_0) (fun _ _ _ _ _ => (e_in (e_pk (i := 8) rfl) (e_pk (i := 9) rfl) hK (u1 hr) rfl)) (fun _ => rfl))) rfl rfl G.b_any rfl)) (fun _ => rfl))) rfl rfl G.b_all rfl) rfl)
 S_nil)))))
def n_are_rows : List Str := ["thing", "around", "row"]
def d_are_rows (C : Nat → List D → Option D) : PD.Env → Option Out := vSeq (vIfS (vOr (v1 dNot (v1 (dIsi .tuple) (vVar 0))) (vAnd (v2 (cmpd .ne) (vVar 0) (vTup (vNil))) (v2 (cmpd .gt) (vFld GS [100, 101, 101, 112] (vVar 1)) (vK (.int 4))))) [] (vSeq (vRet (vK (.bl false)) []) vSkip) (vSkip)) (vSeq (vRet (v1 dAll (vLc (vIt (vVar 0)) (.nm 2) [2] (vT0) (vCall C 10 (vCons (vVar 2) (vCons (vVar 1) vNil))))) [0, 1]) vSkip)
theorem b_are_rows (hK : K = T.K) (G : Gx P w K mg base T C lv) (hr : Room lv (A.deeper (envOfC "are_rows" (defScope (top 26)) s.heap.objs.size f cdv))) (hr2 : Room 2 (A.deeper (envOfC "are_rows" (defScope (top 26)) s.heap.objs.size f cdv))) (hN : (n_are_rows).Nodup) : PSs (Xf n_are_rows "are_rows" (top 26) P w K mg base f cdv A outer s H E) (defBody (top 26)) (tS T false (d_are_rows C)) :=
 (S_cons (S_if (t_bool (w_or (t_not (t_val (e_isi (t := .tuple) hK (e_pk (i := 0) rfl) boot_tuple_ rfl G.b_isinstance rfl G.b_tuple (by decide) rfl rfl) (fun _ => rfl))) (w_one (t_bool (w_and (t_ne (e_pk (i := 0) rfl) (pv (e_tup l_nil)) hK hr.units rfl) (w_one (t_gt (pv (e_fld hK G.cls (e_pk (i := 1) rfl) (f := [100, 101, 101, 112]) rfl rfl)) (pv (e_gint G.c_DEEPEST rfl rfl)) rfl))))))) (S_cons (S_ret e_bl rfl)
 S_nil) S_nil rfl)
 (S_cons (S_ret (e_all hK (pf (x_lc [("row", 2)] rfl hN (ij (j_t hK (e_var (i := 0) rfl))) rfl (by decide) (fun _ _ _ _ _ => (k_nm hN (i := 2) rfl)) (fun _ _ _ _ _ => b_0) (fun _ _ _ _ _ => (e_call G.f_is_row hr rfl (l_cons (e_var (i := 2) rfl) (l_cons (e_var (i := 1) rfl) l_nil rfl) rfl) rfl rfl rfl)) (fun _ => rfl))) rfl rfl G.b_all rfl) rfl)
 S_nil))
def n_rows_of_block : List Str := ["rows", "deep", "found", "row", "some"]
def d_rows_of_block_f2 (C : Nat → List D → Option D) : PD.Env → Option Out := vSeq (vExt (vIf (v1 (dIsi .tuple) (vVar 4)) (vCall C 13 (vCons (vVar 4) (vCons (v2 (bopd .add) (vVar 1) (vK (.int 1))) vNil))) (vLst (vNil))) [4] 2) vSkip
def d_rows_of_block_f1 (C : Nat → List D → Option D) : PD.Env → Option Out := vSeq (vApp (vVar 3) [3] 2) (vSeq (vIfS (vAnd (v2 (cmpd .lt) (vVar 1) (vK (.int 4))) (vAnd (v1 (dIsi .tuple) (vVar 3)) (vAnd (v2 (cmpd .ne) (vVar 3) (vTup (vNil))) (v1 (dIsi .str) (v2 dIdx (vVar 3) (vK (.int 0))))))) [] (vSeq (vFor (vIt (vIf (v2 (cmpd .isIn) (v2 dIdx (vVar 3) (vK (.int 0))) (vTup (vCons (vK (.str [119, 104, 101, 110])) (vCons (vK (.str [116, 114, 121])) vNil)))) (vSlc dSlT (vVar 3) (vSo (v1 dNeg (vK (.int 2)))) (vNo)) (vTup (vNil)))) [] (.nm 4) (d_rows_of_block_f2 C)) vSkip) (vSkip)) vSkip)
def d_rows_of_block (C : Nat → List D → Option D) : PD.Env → Option Out := vSeq (vAsg .fr (vLst (vNil)) [] 2) (vSeq (vFor (vIt (vVar 0)) [0] (.nm 3) (d_rows_of_block_f1 C)) (vSeq (vRet (vVar 2) [2]) vSkip))
theorem b_rows_of_block (hK : K = T.K) (G : Gx P w K mg base T C lv) (hr : Room lv (A.deeper (envOfC "rows_of_block" (defScope (top 27)) s.heap.objs.size f cdv))) (hr2 : Room 2 (A.deeper (envOfC "rows_of_block" (defScope (top 27)) s.heap.objs.size f cdv))) (hN : (n_rows_of_block).Nodup) : PSs (Xf n_rows_of_block "rows_of_block" (top 27) P w K mg base f cdv A outer s H E) (defBody (top 27)) (tS T false (d_rows_of_block C)) :=
 (S_cons (S_asg hN (i := 2) rfl (e_lst l_nil) (by decide) rfl rfl)
 (S_cons (S_for PassesOwn.never rfl (j_t hK (e_var (i := 0) rfl)) (k_nm hN (i := 3) rfl) (S_cons (S_app (i := 2) rfl (e_var (i := 3) rfl) rfl rfl rfl)
 (S_cons (S_if (t_bool (w_and (t_lt (e_pk (i := 1) rfl) (pv (e_gint G.c_DEEPEST rfl rfl)) rfl) (w_and (t_val (e_isi (t := .tuple) hK (e_pk (i := 3) rfl) boot_tuple_ rfl G.b_isinstance rfl G.b_tuple (by decide) rfl rfl) (fun _ => rfl)) (w_and (t_ne (e_pk (i := 3) rfl) (pv (e_tup l_nil)) hK hr.units rfl) (w_one (t_val (e_isi (t := .str) hK (pv (e_idx (e_pk (i := 3) rfl) (pv e_int) hK (fun _ _ => rfl))) boot_str_ rfl G.b_isinstance rfl G.b_str (by decide) rfl rfl) (fun _ => rfl))))))) (S_cons (S_for PassesOwn.never rfl (j_t hK (e_if (t_in (pv (e_idx (e_pk (i := 3) rfl) (pv e_int) hK (fun _ _ => rfl))) (pv (e_tup (l_cons (e_str (s := [119, 104, 101, 110]) rfl) (l_cons (e_str (s := [116, 114, 121]) rfl) l_nil rfl) rfl))) hK (u1 hr) rfl) (e_slT hK (e_pk (i := 3) rfl) (o_so (e_neg (pv e_int))) o_no) (e_tup l_nil))) (k_nm hN (i := 4) rfl) (S_cons (S_ext (i := 2) rfl (e_if (t_val (e_isi (t := .tuple) hK (e_pk (i := 4) rfl) boot_tuple_ rfl G.b_isinstance rfl G.b_tuple (by decide) rfl rfl) (fun _ => rfl)) (e_call G.f_rows_of_block hr rfl (l_cons (e_var (i := 4) rfl) (l_cons (e_add (e_pk (i := 1) rfl) (pv e_int)) l_nil rfl) rfl) rfl rfl rfl) (vf (e_lst l_nil))) rfl rfl rfl)
 S_nil) (fun _ => rfl) rfl)
 S_nil) S_nil rfl)
 S_nil)) (fun _ => rfl) rfl)
 (S_cons (S_ret (e_var (i := 2) rfl) rfl)
 S_nil)))
def n_told_names : List Str := ["rows", "told", "found", "row", "name"]
def d_told_names_f1 (C : Nat → List D → Option D) : PD.Env → Option Out := vSeq (vIfS (vAnd (v1 (dIsi .tuple) (vVar 3)) (vAnd (v2 (cmpd .eq) (v1 dLen (vVar 3)) (vK (.int 2))) (vAnd (v1 (dIsi .str) (v2 dIdx (vVar 3) (vK (.int 0)))) (v2 (cmpd .eq) (v2 dIdx (vVar 3) (vK (.int 0))) (vVar 1))))) [] (vSeq (vExt (vIf (v1 (dIsi .tuple) (v2 dIdx (vVar 3) (vK (.int 1)))) (vLc (vIt (v2 dIdx (vVar 3) (vK (.int 1)))) (.nm 4) [4] (vT0) (vVar 4)) (vLst (vNil))) [] 2) vSkip) (vSkip)) vSkip
def d_told_names (C : Nat → List D → Option D) : PD.Env → Option Out := vSeq (vAsg .fr (vLst (vNil)) [] 2) (vSeq (vFor (vIl (vCallD C 13 (vCons (vVar 0) vNil) [.int 0])) [0] (.nm 3) (d_told_names_f1 C)) (vSeq (vRet (vVar 2) [2]) vSkip))
theorem b_told_names (hK : K = T.K) (G : Gx P w K mg base T C lv) (hr : Room lv (A.deeper (envOfC "told_names" (defScope (top 28)) s.heap.objs.size f cdv))) (hr2 : Room 2 (A.deeper (envOfC "told_names" (defScope (top 28)) s.heap.objs.size f cdv))) (hN : (n_told_names).Nodup) : PSs (Xf n_told_names "told_names" (top 28) P w K mg base f cdv A outer s H E) (defBody (top 28)) (tS T false (d_told_names C)) :=
 (S_cons (S_asg hN (i := 2) rfl (e_lst l_nil) (by decide) rfl rfl)
 (S_cons (S_for PassesOwn.never rfl (j_l hK (e_callD (m := 0) G.g_rows_of_block hr rfl (l_cons (e_var (i := 0) rfl) l_nil rfl) rfl rfl rfl)) (k_nm hN (i := 3) rfl) (S_cons (S_if (t_bool (w_and (t_val (e_isi (t := .tuple) hK (e_pk (i := 3) rfl) boot_tuple_ rfl G.b_isinstance rfl G.b_tuple (by decide) rfl rfl) (fun _ => rfl)) (w_and (t_eq (pv (e_len hK (e_pk (i := 3) rfl) rfl rfl G.b_len)) (pv e_int) hK hr.units rfl) (w_and (t_val (e_isi (t := .str) hK (pv (e_idx (e_pk (i := 3) rfl) (pv e_int) hK (fun _ _ => rfl))) boot_str_ rfl G.b_isinstance rfl G.b_str (by decide) rfl rfl) (fun _ => rfl)) (w_one (t_eq (pv (e_idx (e_pk (i := 3) rfl) (pv e_int) hK (fun _ _ => rfl))) (e_pk (i := 1) rfl) hK hr.units rfl)))))) (S_cons (S_ext (i := 2) rfl (e_if (t_val (e_isi (t := .tuple) hK (pv (e_idx (e_pk (i := 3) rfl) (pv e_int) hK (fun _ _ => rfl))) boot_tuple_ rfl G.b_isinstance rfl G.b_tuple (by decide) rfl rfl) (fun _ => rfl)) (vf (x_lc [("name", 4)] rfl hN (ij (j_t hK (e_idx (e_pk (i := 3) rfl) (pv e_int) hK (fun _ _ => rfl)))) rfl (by decide) (fun _ _ _ _ _ => (k_nm hN (i := 4) rfl)) (fun _ _ _ _ _ => b_0) (fun _ _ _ _ _ => (e_var (i := 4) rfl)) (fun _ => rfl))) (vf (e_lst l_nil))) rfl rfl rfl)
 S_nil) S_nil rfl)
 S_nil) (fun _ => rfl) rfl)
 (S_cons (S_ret (e_var (i := 2) rfl) rfl)
 S_nil)))
def n_names_bound : List Str := ["row", "word", "pair"]
def d_names_bound (C : Nat → List D → Option D) : PD.Env → Option Out := vSeq (vAsg .vl (v2 dIdx (vVar 0) (vK (.int 0))) [] 1) (vSeq (vIfS (v2 (cmpd .isIn) (vVar 1) (vTup (vCons (vK (.str [108, 101, 116])) (vCons (vK (.str [100, 114, 111, 112])) (vCons (vK (.str [100, 101, 102])) (vCons (vK (.str [98, 111, 120])) vNil)))))) [] (vSeq (vRet (vLst (vCons (v2 dIdx (vVar 0) (vK (.int 1))) vNil)) []) vSkip) (vSkip)) (vSeq (vIfS (v2 (cmpd .eq) (vVar 1) (vK (.str [117, 115, 101]))) [] (vSeq (vRet (vLst (vCons (vIf (v1 dIsN (v2 dIdx (vVar 0) (vK (.int 2)))) (v2 dIdx (v2 dIdx (vVar 0) (vK (.int 1))) (vK (.int 0))) (v2 dIdx (vVar 0) (vK (.int 2)))) vNil)) []) vSkip) (vSkip)) (vSeq (vIfS (v2 (cmpd .eq) (vVar 1) (vK (.str [108, 97, 122, 121]))) [] (vSeq (vRet (vLst (vCons (v2 dIdx (vVar 0) (vK (.int 2))) vNil)) []) vSkip) (vSkip)) (vSeq (vIfS (v2 (cmpd .eq) (vVar 1) (vK (.str [102, 97, 114]))) [] (vSeq (vRet (vLst (vCons (v2 dIdx (vVar 0) (vK (.int 4))) vNil)) []) vSkip) (vSkip)) (vSeq (vIfS (vAnd (v2 (cmpd .eq) (vVar 1) (vK (.str [102, 114, 111, 109]))) (v1 dNot (v1 (dIsi .str) (v2 dIdx (vVar 0) (vK (.int 3)))))) [] (vSeq (vRet (vLc (vIt (v2 dIdx (vVar 0) (vK (.int 3)))) (.nm 2) [2] (vT0) (v2 dIdx (vVar 2) (vK (.int 1)))) []) vSkip) (vSkip)) (vSeq (vRet (vLst (vNil)) []) vSkip))))))
theorem b_names_bound (hK : K = T.K) (G : Gx P w K mg base T C lv) (hr : Room lv (A.deeper (envOfC "names_bound" (defScope (top 29)) s.heap.objs.size f cdv))) (hr2 : Room 2 (A.deeper (envOfC "names_bound" (defScope (top 29)) s.heap.objs.size f cdv))) (hN : (n_names_bound).Nodup) : PSs (Xf n_names_bound "names_bound" (top 29) P w K mg base f cdv A outer s H E) (defBody (top 29)) (tS T false (d_names_bound C)) :=
 (S_cons (S_asg hN (i := 1) rfl (e_idx (e_pk (i := 0) rfl) (pv e_int) hK (fun _ _ => rfl)) (by decide) rfl rfl)
 (S_cons (S_if (t_in (e_pk (i := 1) rfl) (pv (e_tup (l_cons (e_str (s := [108, 101, 116]) rfl) (l_cons (e_str (s := [100, 114, 111, 112]) rfl) (l_cons (e_str (s := [100, 101, 102]) rfl) (l_cons (e_str (s := [98, 111, 120]) rfl) l_nil rfl) rfl) rfl) rfl))) hK (u1 hr) rfl) (S_cons (S_ret (vf (e_lst (l_cons (e_idx (e_pk (i := 0) rfl) (pv e_int) hK (fun _ _ => rfl)) l_nil rfl))) rfl)
 S_nil) S_nil rfl)
 (S_cons (S_if (t_eq (e_pk (i := 1) rfl) (pv (e_str (s := [117, 115, 101]) rfl)) hK hr.units rfl) (S_cons (S_ret (vf (e_lst (l_cons (e_if (t_isN (pv (e_idx (e_pk (i := 0) rfl) (pv e_int) hK (fun _ _ => rfl)))) (e_idx (pv (e_idx (e_pk (i := 0) rfl) (pv e_int) hK (fun _ _ => rfl))) (pv e_int) hK (fun _ _ => rfl)) (e_idx (e_pk (i := 0) rfl) (pv e_int) hK (fun _ _ => rfl))) l_nil rfl))) rfl)
 S_nil) S_nil rfl)
 (S_cons (S_if (t_eq (e_pk (i := 1) rfl) (pv (e_str (s := [108, 97, 122, 121]) rfl)) hK hr.units rfl) (S_cons (S_ret (vf (e_lst (l_cons (e_idx (e_pk (i := 0) rfl) (pv e_int) hK (fun _ _ => rfl)) l_nil rfl))) rfl)
 S_nil) S_nil rfl)
 (S_cons (S_if (t_eq (e_pk (i := 1) rfl) (pv (e_str (s := [102, 97, 114]) rfl)) hK hr.units rfl) (S_cons (S_ret (vf (e_lst (l_cons (e_idx (e_pk (i := 0) rfl) (pv e_int) hK (fun _ _ => rfl)) l_nil rfl))) rfl)
 S_nil) S_nil rfl)
 (S_cons (S_if (t_bool (w_and (t_eq (e_pk (i := 1) rfl) (pv (e_str (s := [102, 114, 111, 109]) rfl)) hK hr.units rfl) (w_one (t_not (t_val (e_isi (t := .str) hK (pv (e_idx (e_pk (i := 0) rfl) (pv e_int) hK (fun _ _ => rfl))) boot_str_ rfl G.b_isinstance rfl G.b_str (by decide) rfl rfl) (fun _ => rfl)))))) (S_cons (S_ret (vf (x_lc [("pair", 2)] rfl hN (ij (j_t hK (e_idx (e_pk (i := 0) rfl) (pv e_int) hK (fun _ _ => rfl)))) rfl (by decide) (fun _ _ _ _ _ => (k_nm hN (i := 2) rfl)) (fun _ _ _ _ _ => b_0) (fun _ _ _ _ _ => (e_idx (e_pk (i := 2) rfl) (pv e_int) hK (fun _ _ => rfl))) (fun _ => rfl))) rfl)
 S_nil) S_nil rfl)
 (S_cons (S_ret (vf (e_lst l_nil)) rfl)
 S_nil)))))))
def n_own_names : List Str := ["given", "rows", "found", "name", "row", "told"]
def d_own_names_f2 (C : Nat → List D → Option D) : PD.Env → Option Out := vSeq (vDput (vVar 3) (vK (.bl true)) [3] 2) vSkip
def d_own_names_f1 (C : Nat → List D → Option D) : PD.Env → Option Out := vSeq (vIfS (vAnd (v1 (dIsi .tuple) (vVar 4)) (vAnd (v2 (cmpd .ne) (vVar 4) (vTup (vNil))) (vAnd (v1 (dIsi .str) (v2 dIdx (vVar 4) (vK (.int 0)))) (vCall C 17 (vCons (vVar 4) vNil))))) [4] (vSeq (vFor (vIl (vCall C 15 (vCons (vVar 4) vNil))) [4] (.nm 3) (d_own_names_f2 C)) vSkip) (vSkip)) vSkip
def d_own_names (C : Nat → List D → Option D) : PD.Env → Option Out := vSeq (vAsg .fr (vDc (vIt (vVar 0)) (.nm 3) [3] (vVar 3) (vK (.bl true))) [0] 2) (vSeq (vFor (vIl (vCallD C 13 (vCons (vVar 1) vNil) [.int 0])) [1] (.nm 4) (d_own_names_f1 C)) (vSeq (vAsg .fr (v2 dCat (vCall C 14 (vCons (vVar 1) (vCons (vK (.str [116, 111, 112])) vNil))) (vCall C 14 (vCons (vVar 1) (vCons (vK (.str [111, 117, 116, 101, 114])) vNil)))) [1, 1] 5) (vSeq (vRet (vLcd 2 (.nm 3) [3] (vT1 (v2 (cmpd .notIn) (vVar 3) (vVar 5))) (vVar 3)) []) vSkip)))
theorem b_own_names (hK : K = T.K) (G : Gx P w K mg base T C lv) (hr : Room lv (A.deeper (envOfC "own_names" (defScope (top 30)) s.heap.objs.size f cdv))) (hr2 : Room 2 (A.deeper (envOfC "own_names" (defScope (top 30)) s.heap.objs.size f cdv))) (hN : (n_own_names).Nodup) : PSs (Xf n_own_names "own_names" (top 30) P w K mg base f cdv A outer s H E) (defBody (top 30)) (tS T false (d_own_names C)) :=
 (S_cons (S_dc [("name", 3)] rfl hN (i := 2) rfl rfl rfl (j_t hK (e_var (i := 0) rfl)) rfl (by decide) (fun _ _ _ _ _ => (k_nm hN (i := 3) rfl)) (fun _ _ _ _ _ => (e_var (i := 3) rfl)) (fun _ _ _ _ _ => e_bl) (fun _ => rfl) rfl)
 (S_cons (S_for PassesOwn.never rfl (j_l hK (e_callD (m := 0) G.g_rows_of_block hr rfl (l_cons (e_var (i := 1) rfl) l_nil rfl) rfl rfl rfl)) (k_nm hN (i := 4) rfl) (S_cons (S_if (t_bool (w_and (t_val (e_isi (t := .tuple) hK (e_pk (i := 4) rfl) boot_tuple_ rfl G.b_isinstance rfl G.b_tuple (by decide) rfl rfl) (fun _ => rfl)) (w_and (t_ne (e_pk (i := 4) rfl) (pv (e_tup l_nil)) hK hr.units rfl) (w_and (t_val (e_isi (t := .str) hK (pv (e_idx (e_pk (i := 4) rfl) (pv e_int) hK (fun _ _ => rfl))) boot_str_ rfl G.b_isinstance rfl G.b_str (by decide) rfl rfl) (fun _ => rfl)) (w_one (t_val (e_call G.f_is_plain_or_named hr rfl (l_cons (e_var (i := 4) rfl) l_nil rfl) rfl rfl rfl) (fun _ => rfl))))))) (S_cons (S_for PassesOwn.never rfl (j_l hK (e_call G.f_names_bound hr rfl (l_cons (e_var (i := 4) rfl) l_nil rfl) rfl rfl rfl)) (k_nm hN (i := 3) rfl) (S_cons (S_dput (u1 hr) (i := 2) rfl (e_var (i := 3) rfl) e_bl rfl rfl)
 S_nil) (fun _ => rfl) rfl)
 S_nil) S_nil rfl)
 S_nil) (fun _ => rfl) rfl)
 (S_cons (S_asg hN (i := 5) rfl (e_cat (pv (e_call G.f_told_names hr rfl (l_cons (e_var (i := 1) rfl) (l_cons (e_str (s := [116, 111, 112]) rfl) l_nil rfl) rfl) rfl rfl rfl)) (pv (e_call G.f_told_names hr rfl (l_cons (e_var (i := 1) rfl) (l_cons (e_str (s := [111, 117, 116, 101, 114]) rfl) l_nil rfl) rfl) rfl rfl rfl))) (by decide) rfl rfl)
 (S_cons (S_ret (vf (x_lcd [("name", 3)] rfl hN (i := 2) rfl (vis_ok rfl) rfl rfl rfl (by decide) (fun _ _ _ _ _ => (k_nm hN (i := 3) rfl)) (fun _ _ _ _ _ => (b_1 (t_nin (e_pk (i := 3) rfl) (e_pk (i := 5) rfl) hK (u1 hr) rfl))) (fun _ _ _ _ _ => (e_var (i := 3) rfl)))) rfl)
 S_nil))))
def n_is_plain_or_named : List Str := ["row"]
def d_is_plain_or_named (C : Nat → List D → Option D) : PD.Env → Option Out := vSeq (vIfS (v2 (cmpd .isIn) (v2 dIdx (vVar 0) (vK (.int 0))) (vTup (vCons (vK (.str [100, 101, 102])) (vCons (vK (.str [98, 111, 120])) vNil)))) [] (vSeq (vRet (vCall C 7 (vCons (vVar 0) (vCons (vK .non) vNil))) [0]) vSkip) (vSkip)) (vSeq (vRet (vCall C 8 (vCons (vVar 0) (vCons (vMk 0 mkA (vCons (vK (.int 1)) (vCons (vK (.str [109, 111, 100, 117, 108, 101])) (vCons (vLst (vNil)) vNil)))) vNil))) [0]) vSkip)
theorem b_is_plain_or_named (hK : K = T.K) (G : Gx P w K mg base T C lv) (hr : Room lv (A.deeper (envOfC "is_plain_or_named" (defScope (top 31)) s.heap.objs.size f cdv))) (hr2 : Room 2 (A.deeper (envOfC "is_plain_or_named" (defScope (top 31)) s.heap.objs.size f cdv))) (hN : (n_is_plain_or_named).Nodup) : PSs (Xf n_is_plain_or_named "is_plain_or_named" (top 31) P w K mg base f cdv A outer s H E) (defBody (top 31)) (tS T false (d_is_plain_or_named C)) :=
 (S_cons (S_if (t_in (pv (e_idx (e_pk (i := 0) rfl) (pv e_int) hK (fun _ _ => rfl))) (pv (e_tup (l_cons (e_str (s := [100, 101, 102]) rfl) (l_cons (e_str (s := [98, 111, 120]) rfl) l_nil rfl) rfl))) hK (u1 hr) rfl) (S_cons (S_ret (e_call G.f_is_within hr rfl (l_cons (e_var (i := 0) rfl) (l_cons e_non l_nil rfl) rfl) rfl rfl rfl) rfl)
 S_nil) S_nil rfl)
 (S_cons (S_ret (e_call G.f_is_plain_row hr rfl (l_cons (e_var (i := 0) rfl) (l_cons (e_mk G.k_Around hr2 rfl (l_cons e_int (l_cons (e_str (s := [109, 111, 100, 117, 108, 101]) rfl) (l_cons (vf (e_lst l_nil)) l_nil rfl) rfl) rfl) rfl rfl rfl) l_nil rfl) rfl) rfl rfl rfl) rfl)
 S_nil))
def n_blocks_in : List Str := ["row"]
def d_blocks_in (C : Nat → List D → Option D) : PD.Env → Option Out := vSeq (vIfS (v2 (cmpd .isIn) (v2 dIdx (vVar 0) (vK (.int 0))) (vTup (vCons (vK (.str [119, 104, 101, 110])) (vCons (vK (.str [116, 114, 121])) vNil)))) [] (vSeq (vRet (vLst (vCons (v2 dIdx (vVar 0) (v1 dNeg (vK (.int 2)))) (vCons (v2 dIdx (vVar 0) (v1 dNeg (vK (.int 1)))) vNil))) []) vSkip) (vSkip)) (vSeq (vRet (vIf (v2 (cmpd .isIn) (v2 dIdx (vVar 0) (vK (.int 0))) (vTup (vCons (vK (.str [100, 101, 102])) (vCons (vK (.str [98, 111, 120])) vNil)))) (vLst (vCons (v2 dIdx (vVar 0) (v1 dNeg (vK (.int 1)))) vNil)) (vLst (vNil))) []) vSkip)
theorem b_blocks_in (hK : K = T.K) (G : Gx P w K mg base T C lv) (hr : Room lv (A.deeper (envOfC "blocks_in" (defScope (top 32)) s.heap.objs.size f cdv))) (hr2 : Room 2 (A.deeper (envOfC "blocks_in" (defScope (top 32)) s.heap.objs.size f cdv))) (hN : (n_blocks_in).Nodup) : PSs (Xf n_blocks_in "blocks_in" (top 32) P w K mg base f cdv A outer s H E) (defBody (top 32)) (tS T false (d_blocks_in C)) :=
 (S_cons (S_if (t_in (pv (e_idx (e_pk (i := 0) rfl) (pv e_int) hK (fun _ _ => rfl))) (pv (e_tup (l_cons (e_str (s := [119, 104, 101, 110]) rfl) (l_cons (e_str (s := [116, 114, 121]) rfl) l_nil rfl) rfl))) hK (u1 hr) rfl) (S_cons (S_ret (vf (e_lst (l_cons (e_idx (e_pk (i := 0) rfl) (pv (e_neg (pv e_int))) hK (fun _ _ => rfl)) (l_cons (e_idx (e_pk (i := 0) rfl) (pv (e_neg (pv e_int))) hK (fun _ _ => rfl)) l_nil rfl) rfl))) rfl)
 S_nil) S_nil rfl)
 (S_cons (S_ret (e_if (t_in (pv (e_idx (e_pk (i := 0) rfl) (pv e_int) hK (fun _ _ => rfl))) (pv (e_tup (l_cons (e_str (s := [100, 101, 102]) rfl) (l_cons (e_str (s := [98, 111, 120]) rfl) l_nil rfl) rfl))) hK (u1 hr) rfl) (vf (e_lst (l_cons (e_idx (e_pk (i := 0) rfl) (pv (e_neg (pv e_int))) hK (fun _ _ => rfl)) l_nil rfl))) (vf (e_lst l_nil))) rfl)
 S_nil))
def n_many_rows : List Str := ["rows", "row", "some"]
def d_many_rows (C : Nat → List D → Option D) : PD.Env → Option Out := vSeq (vRet (v2 (bopd .add) (v1 dLen (vVar 0)) (v1 dSum (vLc2 (vIt (vVar 0)) (.nm 1) [1, 2] (vT0) (vIl (vCall C 18 (vCons (vVar 1) vNil))) (.nm 2) [2] (vT0) (vCall C 19 (vCons (vVar 2) vNil))))) [0]) vSkip
theorem b_many_rows (hK : K = T.K) (G : Gx P w K mg base T C lv) (hr : Room lv (A.deeper (envOfC "many_rows" (defScope (top 33)) s.heap.objs.size f cdv))) (hr2 : Room 2 (A.deeper (envOfC "many_rows" (defScope (top 33)) s.heap.objs.size f cdv))) (hN : (n_many_rows).Nodup) : PSs (Xf n_many_rows "many_rows" (top 33) P w K mg base f cdv A outer s H E) (defBody (top 33)) (tS T false (d_many_rows C)) :=
 (S_cons (S_ret (e_add (pv (e_len hK (e_pk (i := 0) rfl) rfl rfl G.b_len)) (pv (e_sum hK (pf (x_lc2 [("row", 1), ("some", 2)] rfl hN (ij (j_t hK (e_var (i := 0) rfl))) rfl (by decide) (by decide) (by decide) (fun _ _ _ _ _ => (k_nm hN (i := 1) rfl)) (fun _ _ _ _ _ => b_0) (fun _ _ _ _ _ => (j_l hK (e_call G.f_blocks_in hr rfl (l_cons (e_var (i := 1) rfl) l_nil rfl) rfl rfl rfl))) (fun _ _ _ _ _ => (k_nm hN (i := 2) rfl)) (fun _ _ _ _ _ => b_0) (fun _ _ _ _ _ => (e_call G.f_many_rows hr rfl (l_cons (e_var (i := 2) rfl) l_nil rfl) rfl rfl rfl)) (fun _ => rfl) (fun _ _ => rfl))) rfl rfl G.b_sum rfl))) rfl)
 S_nil)
def n_check_rows : List Str := ["thing", "told", "at", "row", "word", "names", "one"]
def d_check_rows_f1 (C : Nat → List D → Option D) : PD.Env → Option Out := vSeq (vIfS (v1 dNot (vCall C 10 (vCons (vVar 3) (vCons (vMk 0 mkA (vCons (vK (.int 1)) (vCons (vK (.str [109, 111, 100, 117, 108, 101])) (vCons (vLst (vNil)) vNil)))) vNil)))) [3] (vSeq (vNev) vSkip) (vSkip)) (vSeq (vIfS (v2 (cmpd .isIn) (v2 dIdx (vVar 3) (vK (.int 0))) (vTup (vCons (vK (.str [115, 104, 111, 119])) (vCons (vK (.str [104, 105, 100, 101])) vNil)))) [] (vSeq (vIfS (v1 dAny (vLc (vIl (vVar 1)) (.tp [4, 5]) [4, 5] (vT0) (v2 (cmpd .eq) (vVar 4) (v2 dIdx (vVar 3) (vK (.int 0)))))) [] (vSeq (vNev) vSkip) (vSkip)) (vSeq (vIfS (v1 dAny (vLc2 (vIl (vVar 1)) (.tp [4, 5]) [4, 5, 6] (vT0) (vIt (v2 dIdx (vVar 3) (vK (.int 1)))) (.nm 6) [6] (vT0) (v2 (cmpd .isIn) (vVar 6) (vVar 5)))) [] (vSeq (vNev) vSkip) (vSkip)) (vSeq (vApp (vTup (vCons (v2 dIdx (vVar 3) (vK (.int 0))) (vCons (v2 dIdx (vVar 3) (vK (.int 1))) vNil))) [] 1) vSkip))) (vSkip)) vSkip)
def d_check_rows (C : Nat → List D → Option D) : PD.Env → Option Out := vSeq (vIfS (v1 dNot (v1 (dIsi .tuple) (vVar 0))) [] (vSeq (vNev) vSkip) (vSkip)) (vSeq (vAsg .fr (vLst (vNil)) [] 1) (vSeq (vFor (vIen (vVar 0)) [0] (.tp [2, 3]) (d_check_rows_f1 C)) (vSeq (vIfS (v2 (cmpd .gt) (vCall C 19 (vCons (vVar 0) vNil)) (vK (.int 40))) [0] (vSeq (vNev) vSkip) (vSkip)) vSkip)))
theorem b_check_rows (hK : K = T.K) (G : Gx P w K mg base T C lv) (hr : Room lv (A.deeper (envOfC "check_rows" (defScope (top 34)) s.heap.objs.size f cdv))) (hr2 : Room 2 (A.deeper (envOfC "check_rows" (defScope (top 34)) s.heap.objs.size f cdv))) (hN : (n_check_rows).Nodup) : PSs (Xf n_check_rows "check_rows" (top 34) P w K mg base f cdv A outer s H E) (defBody (top 34)) (tS T false (d_check_rows C)) :=
 (S_cons (S_if (t_not (t_val (e_isi (t := .tuple) hK (e_pk (i := 0) rfl) boot_tuple_ rfl G.b_isinstance rfl G.b_tuple (by decide) rfl rfl) (fun _ => rfl))) (S_cons S_nev
 S_nil) S_nil rfl)
 (S_cons (S_asg hN (i := 1) rfl (e_lst l_nil) (by decide) rfl rfl)
 (S_cons (S_for PassesOwn.never rfl (j_en hK (e_var (i := 0) rfl) rfl G.b_enumerate rfl) (k_tp hK rfl (k_c hN (i := 2) rfl (k_c hN (i := 3) rfl k_0 rfl) rfl) rfl rfl) (S_cons (S_if (t_not (t_val (e_call G.f_is_row hr rfl (l_cons (e_var (i := 3) rfl) (l_cons (e_mk G.k_Around hr2 rfl (l_cons e_int (l_cons (e_str (s := [109, 111, 100, 117, 108, 101]) rfl) (l_cons (vf (e_lst l_nil)) l_nil rfl) rfl) rfl) rfl rfl rfl) l_nil rfl) rfl) rfl rfl rfl) (fun _ => rfl))) (S_cons S_nev
 S_nil) S_nil rfl)
 (S_cons (S_if (t_in (pv (e_idx (e_pk (i := 3) rfl) (pv e_int) hK (fun _ _ => rfl))) (pv (e_tup (l_cons (e_str (s := [115, 104, 111, 119]) rfl) (l_cons (e_str (s := [104, 105, 100, 101]) rfl) l_nil rfl) rfl))) hK (u1 hr) rfl) (S_cons (S_if (t_val (e_any hK (pf (x_lc [("word", 4), ("names", 5)] rfl hN (j_lp (e_pk (i := 1) rfl)) rfl (by decide) (fun _ _ _ _ _ => (k_tp hK rfl (k_c hN (i := 4) rfl (k_c hN (i := 5) rfl k_0 rfl) rfl) rfl rfl)) (fun _ _ _ _ _ => b_0) (fun _ _ _ _ _ => (e_eq (e_pk (i := 4) rfl) (pv (e_idx (e_pk (i := 3) rfl) (pv e_int) hK (fun _ _ => rfl))) hK hr.units rfl)) (fun _ => rfl))) rfl rfl G.b_any rfl) (fun _ => rfl)) (S_cons S_nev
 S_nil) S_nil rfl)
 (S_cons (S_if (t_val (e_any hK (pf (x_lc2 [("word", 4), ("names", 5), ("one", 6)] rfl hN (j_lp (e_pk (i := 1) rfl)) rfl (by decide) (by decide) (by decide) (fun _ _ _ _ _ => (k_tp hK rfl (k_c hN (i := 4) rfl (k_c hN (i := 5) rfl k_0 rfl) rfl) rfl rfl)) (fun _ _ _ _ _ => b_0) (fun _ _ _ _ _ => (j_t hK (e_idx (e_pk (i := 3) rfl) (pv e_int) hK (fun _ _ => rfl)))) (fun _ _ _ _ _ => (k_nm hN (i := 6) rfl)) (fun _ _ _ _ _ => b_0) (fun _ _ _ _ _ => (e_in (e_pk (i := 6) rfl) (e_pk (i := 5) rfl) hK (u1 hr) rfl)) (fun _ => rfl) (fun _ _ => rfl))) rfl rfl G.b_any rfl) (fun _ => rfl)) (S_cons S_nev
 S_nil) S_nil rfl)
 (S_cons (S_app (i := 1) rfl (e_tup (l_cons (e_idx (e_pk (i := 3) rfl) (pv e_int) hK (fun _ _ => rfl)) (l_cons (e_idx (e_pk (i := 3) rfl) (pv e_int) hK (fun _ _ => rfl)) l_nil rfl) rfl)) rfl rfl rfl)
 S_nil))) S_nil rfl)
 S_nil)) (fun _ => rfl) rfl)
 (S_cons (S_if (t_gt (pv (e_call G.f_many_rows hr rfl (l_cons (e_var (i := 0) rfl) l_nil rfl) rfl rfl rfl)) (pv (e_gint G.c_MOST_ROWS rfl rfl)) rfl) (S_cons S_nev
 S_nil) S_nil rfl)
 S_nil))))
def n_bound : List Str := ["rows"]
def d_bound (C : Nat → List D → Option D) : PD.Env → Option Out := vSeq (vDrop (vCall C 20 (vCons (vVar 0) vNil)) [0]) (vSeq (vRet (vCall C 23 (vCons (vVar 0) vNil)) [0]) vSkip)
theorem b_bound (hK : K = T.K) (G : Gx P w K mg base T C lv) (hr : Room lv (A.deeper (envOfC "bound" (defScope (top 36)) s.heap.objs.size f cdv))) (hr2 : Room 2 (A.deeper (envOfC "bound" (defScope (top 36)) s.heap.objs.size f cdv))) (hN : (n_bound).Nodup) : PSs (Xf n_bound "bound" (top 36) P w K mg base f cdv A outer s H E) (defBody (top 36)) (tS T true (d_bound C)) :=
 (S_cons (S_drop (e_call G.f_check_rows hr rfl (l_cons (e_var (i := 0) rfl) l_nil rfl) rfl rfl rfl) rfl rfl)
 (S_cons (S_retF (e_callF G.f_module_bindings hr rfl (l_cons (e_var (i := 0) rfl) l_nil rfl) rfl rfl rfl) rfl)
 S_nil))
def n_reached : List Str := ["rows", "name"]
def d_reached (C : Nat → List D → Option D) : PD.Env → Option Out := vSeq (vDrop (vCall C 20 (vCons (vVar 0) vNil)) [0]) (vSeq (vRet (vSortS (vSc (vIl (vCall C 28 (vCons (vVar 0) (vCons (vLst (vNil)) (vCons (vLst (vNil)) vNil))))) (.nm 1) [1] (vVar 1))) [0]) vSkip)
theorem b_reached (hK : K = T.K) (G : Gx P w K mg base T C lv) (hr : Room lv (A.deeper (envOfC "reached" (defScope (top 37)) s.heap.objs.size f cdv))) (hr2 : Room 2 (A.deeper (envOfC "reached" (defScope (top 37)) s.heap.objs.size f cdv))) (hN : (n_reached).Nodup) : PSs (Xf n_reached "reached" (top 37) P w K mg base f cdv A outer s H E) (defBody (top 37)) (tS T true (d_reached C)) :=
 (S_cons (S_drop (e_call G.f_check_rows hr rfl (l_cons (e_var (i := 0) rfl) l_nil rfl) rfl rfl rfl) rfl rfl)
 (S_cons (S_retF (e_sortS rfl (u3 hr) rfl G.b_sorted (x_sc [("name", 1)] rfl hN (j_l hK (e_call G.f_names_read hr rfl (l_cons (e_var (i := 0) rfl) (l_cons (vf (e_lst l_nil)) (l_cons (vf (e_lst l_nil)) l_nil rfl) rfl) rfl) rfl rfl rfl)) rfl (by decide) (fun _ _ _ _ _ => (k_nm hN (i := 1) rfl)) (fun _ _ _ _ _ => (e_var (i := 1) rfl)) (fun _ => rfl)) rfl) rfl)
 S_nil))
def n_module_bindings : List Str := ["rows", "found", "row", "some", "name"]
def d_module_bindings_f2 (C : Nat → List D → Option D) : PD.Env → Option Out := vSeq (vExt (vCall C 23 (vCons (vVar 3) vNil)) [3] 1) vSkip
def d_module_bindings_f1 (C : Nat → List D → Option D) : PD.Env → Option Out := vSeq (vIfS (v2 (cmpd .isIn) (v2 dIdx (vVar 2) (vK (.int 0))) (vTup (vCons (vK (.str [119, 104, 101, 110])) (vCons (vK (.str [116, 114, 121])) vNil)))) [] (vSeq (vFor (vIl (vCall C 18 (vCons (vVar 2) vNil))) [2] (.nm 3) (d_module_bindings_f2 C)) vSkip) (vSeq (vExt (vLc (vIl (vCall C 15 (vCons (vVar 2) vNil))) (.nm 4) [4] (vT0) (vTup (vCons (vVar 4) (vCons (v2 dIdx (vVar 2) (vK (.int 0))) vNil)))) [2] 1) (vSeq (vExt (vCall C 25 (vCons (vVar 2) vNil)) [2] 1) vSkip))) vSkip
def d_module_bindings (C : Nat → List D → Option D) : PD.Env → Option Out := vSeq (vAsg .fr (vLst (vNil)) [] 1) (vSeq (vFor (vIt (vVar 0)) [0] (.nm 2) (d_module_bindings_f1 C)) (vSeq (vRetO 1) vSkip))
theorem b_module_bindings (hK : K = T.K) (G : Gx P w K mg base T C lv) (hr : Room lv (A.deeper (envOfC "module_bindings" (defScope (top 38)) s.heap.objs.size f cdv))) (hr2 : Room 2 (A.deeper (envOfC "module_bindings" (defScope (top 38)) s.heap.objs.size f cdv))) (hN : (n_module_bindings).Nodup) : PSs (Xf n_module_bindings "module_bindings" (top 38) P w K mg base f cdv A outer s H E) (defBody (top 38)) (tS T true (d_module_bindings C)) :=
 (S_cons (S_asg hN (i := 1) rfl (e_lst l_nil) (by decide) rfl rfl)
 (S_cons (S_for PassesOwn.never rfl (j_t hK (e_var (i := 0) rfl)) (k_nm hN (i := 2) rfl) (S_cons (S_if (t_in (pv (e_idx (e_pk (i := 2) rfl) (pv e_int) hK (fun _ _ => rfl))) (pv (e_tup (l_cons (e_str (s := [119, 104, 101, 110]) rfl) (l_cons (e_str (s := [116, 114, 121]) rfl) l_nil rfl) rfl))) hK (u1 hr) rfl) (S_cons (S_for PassesOwn.never rfl (j_l hK (e_call G.f_blocks_in hr rfl (l_cons (e_var (i := 2) rfl) l_nil rfl) rfl rfl rfl)) (k_nm hN (i := 3) rfl) (S_cons (S_ext (i := 1) rfl (vf (e_callF G.f_module_bindings hr rfl (l_cons (e_var (i := 3) rfl) l_nil rfl) rfl rfl rfl)) rfl rfl rfl)
 S_nil) (fun _ => rfl) rfl)
 S_nil) (S_cons (S_ext (i := 1) rfl (vf (x_lc [("name", 4)] rfl hN (ij (j_l hK (e_call G.f_names_bound hr rfl (l_cons (e_var (i := 2) rfl) l_nil rfl) rfl rfl rfl))) rfl (by decide) (fun _ _ _ _ _ => (k_nm hN (i := 4) rfl)) (fun _ _ _ _ _ => b_0) (fun _ _ _ _ _ => (e_tup (l_cons (e_var (i := 4) rfl) (l_cons (e_idx (e_pk (i := 2) rfl) (pv e_int) hK (fun _ _ => rfl)) l_nil rfl) rfl))) (fun _ => rfl))) rfl rfl rfl)
 (S_cons (S_ext (i := 1) rfl (e_call G.f_bindings_by_top hr rfl (l_cons (e_var (i := 2) rfl) l_nil rfl) rfl rfl rfl) rfl rfl rfl)
 S_nil)) rfl)
 S_nil) (fun _ => rfl) rfl)
 (S_cons (S_retO (i := 1) rfl)
 S_nil)))
def n_rows_by_top : List Str := ["row", "found", "tops", "some", "inner"]
def d_rows_by_top_f2 (C : Nat → List D → Option D) : PD.Env → Option Out := vSeq (vApp (vTup (vCons (vVar 4) (vCons (vVar 2) vNil))) [4, 2] 1) (vSeq (vIfS (v2 (cmpd .isIn) (v2 dIdx (vVar 4) (vK (.int 0))) (vTup (vCons (vK (.str [100, 101, 102])) (vCons (vK (.str [98, 111, 120])) vNil)))) [] (vSeq (vExt (vCall C 24 (vCons (vVar 4) vNil)) [4] 1) vSkip) (vSkip)) vSkip)
def d_rows_by_top_f1 (C : Nat → List D → Option D) : PD.Env → Option Out := vSeq (vFor (vIl (vCallD C 13 (vCons (vVar 3) vNil) [.int 0])) [3] (.nm 4) (d_rows_by_top_f2 C)) vSkip
def d_rows_by_top (C : Nat → List D → Option D) : PD.Env → Option Out := vSeq (vAsg .fr (vLst (vNil)) [] 1) (vSeq (vAsg .vl (vIf (v2 (cmpd .eq) (v2 dIdx (vVar 0) (vK (.int 0))) (vK (.str [100, 101, 102]))) (vCall C 14 (vCons (v2 dIdx (vVar 0) (vK (.int 3))) (vCons (vK (.str [116, 111, 112])) vNil))) (vLst (vNil))) [] 2) (vSeq (vFor (vIl (vIf (v2 (cmpd .isIn) (v2 dIdx (vVar 0) (vK (.int 0))) (vTup (vCons (vK (.str [100, 101, 102])) (vCons (vK (.str [98, 111, 120])) vNil)))) (vCall C 18 (vCons (vVar 0) vNil)) (vLst (vNil)))) [0] (.nm 3) (d_rows_by_top_f1 C)) (vSeq (vRet (vVar 1) [1]) vSkip)))
theorem b_rows_by_top (hK : K = T.K) (G : Gx P w K mg base T C lv) (hr : Room lv (A.deeper (envOfC "rows_by_top" (defScope (top 39)) s.heap.objs.size f cdv))) (hr2 : Room 2 (A.deeper (envOfC "rows_by_top" (defScope (top 39)) s.heap.objs.size f cdv))) (hN : (n_rows_by_top).Nodup) : PSs (Xf n_rows_by_top "rows_by_top" (top 39) P w K mg base f cdv A outer s H E) (defBody (top 39)) (tS T false (d_rows_by_top C)) :=
 (S_cons (S_asg hN (i := 1) rfl (e_lst l_nil) (by decide) rfl rfl)
 (S_cons (S_asg hN (i := 2) rfl (e_if (t_eq (pv (e_idx (e_pk (i := 0) rfl) (pv e_int) hK (fun _ _ => rfl))) (pv (e_str (s := [100, 101, 102]) rfl)) hK hr.units rfl) (e_call G.f_told_names hr rfl (l_cons (e_idx (e_pk (i := 0) rfl) (pv e_int) hK (fun _ _ => rfl)) (l_cons (e_str (s := [116, 111, 112]) rfl) l_nil rfl) rfl) rfl rfl rfl) (vf (e_lst l_nil))) (by decide) rfl rfl)
 (S_cons (S_for PassesOwn.never rfl (j_l hK (e_if (t_in (pv (e_idx (e_pk (i := 0) rfl) (pv e_int) hK (fun _ _ => rfl))) (pv (e_tup (l_cons (e_str (s := [100, 101, 102]) rfl) (l_cons (e_str (s := [98, 111, 120]) rfl) l_nil rfl) rfl))) hK (u1 hr) rfl) (e_call G.f_blocks_in hr rfl (l_cons (e_var (i := 0) rfl) l_nil rfl) rfl rfl rfl) (vf (e_lst l_nil)))) (k_nm hN (i := 3) rfl) (S_cons (S_for PassesOwn.never rfl (j_l hK (e_callD (m := 0) G.g_rows_of_block hr rfl (l_cons (e_var (i := 3) rfl) l_nil rfl) rfl rfl rfl)) (k_nm hN (i := 4) rfl) (S_cons (S_app (i := 1) rfl (e_tup (l_cons (e_var (i := 4) rfl) (l_cons (e_var (i := 2) rfl) l_nil rfl) rfl)) rfl rfl rfl)
 (S_cons (S_if (t_in (pv (e_idx (e_pk (i := 4) rfl) (pv e_int) hK (fun _ _ => rfl))) (pv (e_tup (l_cons (e_str (s := [100, 101, 102]) rfl) (l_cons (e_str (s := [98, 111, 120]) rfl) l_nil rfl) rfl))) hK (u1 hr) rfl) (S_cons (S_ext (i := 1) rfl (e_call G.f_rows_by_top hr rfl (l_cons (e_var (i := 4) rfl) l_nil rfl) rfl rfl rfl) rfl rfl rfl)
 S_nil) S_nil rfl)
 S_nil)) (fun _ => rfl) rfl)
 S_nil) (fun _ => rfl) rfl)
 (S_cons (S_ret (e_var (i := 1) rfl) rfl)
 S_nil))))
def n_bindings_by_top : List Str := ["row", "inner", "tops", "name"]
def d_bindings_by_top (C : Nat → List D → Option D) : PD.Env → Option Out := vSeq (vRet (vLc2 (vIl (vCall C 24 (vCons (vVar 0) vNil))) (.tp [1, 2]) [1, 2, 3] (vT0) (vIl (vCall C 15 (vCons (vVar 1) vNil))) (.nm 3) [3] (vT1 (v2 (cmpd .isIn) (vVar 3) (vVar 2))) (vTup (vCons (vVar 3) (vCons (v2 dIdx (vVar 1) (vK (.int 0))) vNil)))) [0]) vSkip
theorem b_bindings_by_top (hK : K = T.K) (G : Gx P w K mg base T C lv) (hr : Room lv (A.deeper (envOfC "bindings_by_top" (defScope (top 40)) s.heap.objs.size f cdv))) (hr2 : Room 2 (A.deeper (envOfC "bindings_by_top" (defScope (top 40)) s.heap.objs.size f cdv))) (hN : (n_bindings_by_top).Nodup) : PSs (Xf n_bindings_by_top "bindings_by_top" (top 40) P w K mg base f cdv A outer s H E) (defBody (top 40)) (tS T false (d_bindings_by_top C)) :=
 (S_cons (S_ret (vf (x_lc2 [("inner", 1), ("tops", 2), ("name", 3)] rfl hN (ij (j_l hK (e_call G.f_rows_by_top hr rfl (l_cons (e_var (i := 0) rfl) l_nil rfl) rfl rfl rfl))) rfl (by decide) (by decide) (by decide) (fun _ _ _ _ _ => (k_tp hK rfl (k_c hN (i := 1) rfl (k_c hN (i := 2) rfl k_0 rfl) rfl) rfl rfl)) (fun _ _ _ _ _ => b_0) (fun _ _ _ _ _ => (j_l hK (e_call G.f_names_bound hr rfl (l_cons (e_var (i := 1) rfl) l_nil rfl) rfl rfl rfl))) (fun _ _ _ _ _ => (k_nm hN (i := 3) rfl)) (fun _ _ _ _ _ => (b_1 (t_in (e_pk (i := 3) rfl) (e_pk (i := 2) rfl) hK (u1 hr) rfl))) (fun _ _ _ _ _ => (e_tup (l_cons (e_var (i := 3) rfl) (l_cons (e_idx (e_pk (i := 1) rfl) (pv e_int) hK (fun _ _ => rfl)) l_nil rfl) rfl))) (fun _ => rfl) (fun _ _ => rfl))) rfl)
 S_nil)
def n_names_in : List Str := ["expression", "word", "rest", "found", "one", "name"]
def d_names_in (C : Nat → List D → Option D) : PD.Env → Option Out := vSeq (vStar (vVar 0) [0] 1 2) (vSeq (vIfS (v2 (cmpd .eq) (vVar 1) (vK (.str [110, 97, 109, 101]))) [] (vSeq (vRet (vLst (vCons (v2 dIdx (vVar 2) (vK (.int 0))) vNil)) []) vSkip) (vSkip)) (vSeq (vIfS (v2 (cmpd .eq) (vVar 1) (vK (.str [110, 117, 109]))) [] (vSeq (vRet (vLst (vNil)) []) vSkip) (vSkip)) (vSeq (vAsg .fr (vCall C 26 (vCons (v2 dIdx (vVar 2) (vK (.int 0))) vNil)) [] 3) (vSeq (vIfS (v2 (cmpd .eq) (vVar 1) (vK (.str [99, 97, 108, 108]))) [] (vSeq (vExt (vLc2 (vIt (v2 dIdx (vVar 2) (vK (.int 1)))) (.nm 4) [4, 5] (vT0) (vIl (vCall C 26 (vCons (vVar 4) vNil))) (.nm 5) [5] (vT0) (vVar 5)) [] 3) vSkip) (vSeq (vIfS (v2 (cmpd .ne) (vVar 1) (vK (.str [100, 111, 116]))) [] (vSeq (vExt (vCall C 26 (vCons (v2 dIdx (vVar 2) (vK (.int 1))) vNil)) [] 3) vSkip) (vSkip)) vSkip)) (vSeq (vRetO 3) vSkip)))))
theorem b_names_in (hK : K = T.K) (G : Gx P w K mg base T C lv) (hr : Room lv (A.deeper (envOfC "names_in" (defScope (top 41)) s.heap.objs.size f cdv))) (hr2 : Room 2 (A.deeper (envOfC "names_in" (defScope (top 41)) s.heap.objs.size f cdv))) (hN : (n_names_in).Nodup) : PSs (Xf n_names_in "names_in" (top 41) P w K mg base f cdv A outer s H E) (defBody (top 41)) (tS T true (d_names_in C)) :=
 (S_cons (S_star hK rfl hN (i := 1) (j := 2) rfl rfl (e_var (i := 0) rfl) rfl rfl rfl rfl)
 (S_cons (S_if (t_eq (e_pk (i := 1) rfl) (pv (e_str (s := [110, 97, 109, 101]) rfl)) hK hr.units rfl) (S_cons (S_retF (e_lst (l_cons (e_idx (e_pk (i := 2) rfl) (pv e_int) hK (fun _ _ => rfl)) l_nil rfl)) rfl)
 S_nil) S_nil rfl)
 (S_cons (S_if (t_eq (e_pk (i := 1) rfl) (pv (e_str (s := [110, 117, 109]) rfl)) hK hr.units rfl) (S_cons (S_retF (e_lst l_nil) rfl)
 S_nil) S_nil rfl)
 (S_cons (S_asg hN (i := 3) rfl (e_callF G.f_names_in hr rfl (l_cons (e_idx (e_pk (i := 2) rfl) (pv e_int) hK (fun _ _ => rfl)) l_nil rfl) rfl rfl rfl) (by decide) rfl rfl)
 (S_cons (S_if (t_eq (e_pk (i := 1) rfl) (pv (e_str (s := [99, 97, 108, 108]) rfl)) hK hr.units rfl) (S_cons (S_ext (i := 3) rfl (vf (x_lc2 [("one", 4), ("name", 5)] rfl hN (ij (j_t hK (e_idx (e_pk (i := 2) rfl) (pv e_int) hK (fun _ _ => rfl)))) rfl (by decide) (by decide) (by decide) (fun _ _ _ _ _ => (k_nm hN (i := 4) rfl)) (fun _ _ _ _ _ => b_0) (fun _ _ _ _ _ => (j_l hK (vf (e_callF G.f_names_in hr rfl (l_cons (e_var (i := 4) rfl) l_nil rfl) rfl rfl rfl)))) (fun _ _ _ _ _ => (k_nm hN (i := 5) rfl)) (fun _ _ _ _ _ => b_0) (fun _ _ _ _ _ => (e_var (i := 5) rfl)) (fun _ => rfl) (fun _ _ => rfl))) rfl rfl rfl)
 S_nil) (S_cons (S_if (t_ne (e_pk (i := 1) rfl) (pv (e_str (s := [100, 111, 116]) rfl)) hK hr.units rfl) (S_cons (S_ext (i := 3) rfl (vf (e_callF G.f_names_in hr rfl (l_cons (e_idx (e_pk (i := 2) rfl) (pv e_int) hK (fun _ _ => rfl)) l_nil rfl) rfl rfl rfl)) rfl rfl rfl)
 S_nil) S_nil rfl)
 S_nil) rfl)
 (S_cons (S_retO (i := 3) rfl)
 S_nil))))))
def n_expressions_in : List Str := ["row", "word"]
def d_expressions_in (C : Nat → List D → Option D) : PD.Env → Option Out := vSeq (vAsg .vl (v2 dIdx (vVar 0) (vK (.int 0))) [] 1) (vSeq (vIfS (v2 (cmpd .eq) (vVar 1) (vK (.str [108, 101, 116]))) [] (vSeq (vRet (vLst (vCons (v2 dIdx (vVar 0) (vK (.int 2))) vNil)) []) vSkip) (vSkip)) (vSeq (vIfS (v2 (cmpd .eq) (vVar 1) (vK (.str [115, 101, 116]))) [] (vSeq (vRet (vLst (vCons (v2 dIdx (vVar 0) (vK (.int 1))) (vCons (v2 dIdx (vVar 0) (vK (.int 3))) vNil))) []) vSkip) (vSkip)) (vSeq (vRet (vIf (v2 (cmpd .isIn) (vVar 1) (vTup (vCons (vK (.str [115, 97, 121])) (vCons (vK (.str [119, 104, 101, 110])) (vCons (vK (.str [103, 105, 118, 101])) vNil))))) (vLst (vCons (v2 dIdx (vVar 0) (vK (.int 1))) vNil)) (vLst (vNil))) []) vSkip)))
theorem b_expressions_in (hK : K = T.K) (G : Gx P w K mg base T C lv) (hr : Room lv (A.deeper (envOfC "expressions_in" (defScope (top 42)) s.heap.objs.size f cdv))) (hr2 : Room 2 (A.deeper (envOfC "expressions_in" (defScope (top 42)) s.heap.objs.size f cdv))) (hN : (n_expressions_in).Nodup) : PSs (Xf n_expressions_in "expressions_in" (top 42) P w K mg base f cdv A outer s H E) (defBody (top 42)) (tS T false (d_expressions_in C)) :=
 (S_cons (S_asg hN (i := 1) rfl (e_idx (e_pk (i := 0) rfl) (pv e_int) hK (fun _ _ => rfl)) (by decide) rfl rfl)
 (S_cons (S_if (t_eq (e_pk (i := 1) rfl) (pv (e_str (s := [108, 101, 116]) rfl)) hK hr.units rfl) (S_cons (S_ret (vf (e_lst (l_cons (e_idx (e_pk (i := 0) rfl) (pv e_int) hK (fun _ _ => rfl)) l_nil rfl))) rfl)
 S_nil) S_nil rfl)
 (S_cons (S_if (t_eq (e_pk (i := 1) rfl) (pv (e_str (s := [115, 101, 116]) rfl)) hK hr.units rfl) (S_cons (S_ret (vf (e_lst (l_cons (e_idx (e_pk (i := 0) rfl) (pv e_int) hK (fun _ _ => rfl)) (l_cons (e_idx (e_pk (i := 0) rfl) (pv e_int) hK (fun _ _ => rfl)) l_nil rfl) rfl))) rfl)
 S_nil) S_nil rfl)
 (S_cons (S_ret (e_if (t_in (e_pk (i := 1) rfl) (pv (e_tup (l_cons (e_str (s := [115, 97, 121]) rfl) (l_cons (e_str (s := [119, 104, 101, 110]) rfl) (l_cons (e_str (s := [103, 105, 118, 101]) rfl) l_nil rfl) rfl) rfl))) hK (u1 hr) rfl) (vf (e_lst (l_cons (e_idx (e_pk (i := 0) rfl) (pv e_int) hK (fun _ _ => rfl)) l_nil rfl))) (vf (e_lst l_nil))) rfl)
 S_nil))))
def n_names_read : List Str := ["rows", "defs", "tops", "found", "row", "name", "one", "some"]
def d_names_read_f2 (C : Nat → List D → Option D) : PD.Env → Option Out := vSeq (vIfS (vOr (v2 (cmpd .eq) (vVar 1) (vLst (vNil))) (vOr (v2 (cmpd .isIn) (vVar 5) (vVar 2)) (v1 dNot (v1 dAny (vLc (vIl (vVar 1)) (.nm 7) [7] (vT0) (v2 (cmpd .isIn) (vVar 5) (vVar 7))))))) [] (vSeq (vApp (vVar 5) [5] 3) vSkip) (vSkip)) vSkip
def d_names_read_f3 (C : Nat → List D → Option D) : PD.Env → Option Out := vSeq (vExt (vCall C 28 (vCons (vVar 7) (vCons (vVar 1) (vCons (vVar 2) vNil)))) [7, 1, 2] 3) vSkip
def d_names_read_f1 (C : Nat → List D → Option D) : PD.Env → Option Out := vSeq (vFor (vIl (vLc2 (vIl (vCall C 27 (vCons (vVar 4) vNil))) (.nm 6) [6, 5] (vT0) (vIl (vCall C 26 (vCons (vVar 6) vNil))) (.nm 5) [5] (vT0) (vVar 5))) [4] (.nm 5) (d_names_read_f2 C)) (vSeq (vIfS (v2 (cmpd .eq) (v2 dIdx (vVar 4) (vK (.int 0))) (vK (.str [100, 101, 102]))) [] (vSeq (vExt (vCall C 28 (vCons (v2 dIdx (vVar 4) (vK (.int 3))) (vCons (v2 dCat (vLst (vCons (vCall C 16 (vCons (v2 dIdx (vVar 4) (vK (.int 2))) (vCons (v2 dIdx (vVar 4) (vK (.int 3))) vNil))) vNil)) (vVar 1)) (vCons (vCall C 14 (vCons (v2 dIdx (vVar 4) (vK (.int 3))) (vCons (vK (.str [116, 111, 112])) vNil))) vNil)))) [] 3) vSkip) (vSeq (vFor (vIl (vCall C 18 (vCons (vVar 4) vNil))) [4] (.nm 7) (d_names_read_f3 C)) vSkip)) vSkip)
def d_names_read (C : Nat → List D → Option D) : PD.Env → Option Out := vSeq (vAsg .fr (vLst (vNil)) [] 3) (vSeq (vFor (vIt (vVar 0)) [0] (.nm 4) (d_names_read_f1 C)) (vSeq (vRet (vVar 3) [3]) vSkip))
theorem b_names_read (hK : K = T.K) (G : Gx P w K mg base T C lv) (hr : Room lv (A.deeper (envOfC "names_read" (defScope (top 43)) s.heap.objs.size f cdv))) (hr2 : Room 2 (A.deeper (envOfC "names_read" (defScope (top 43)) s.heap.objs.size f cdv))) (hN : (n_names_read).Nodup) : PSs (Xf n_names_read "names_read" (top 43) P w K mg base f cdv A outer s H E) (defBody (top 43)) (tS T false (d_names_read C)) :=
 (S_cons (S_asg hN (i := 3) rfl (e_lst l_nil) (by decide) rfl rfl)
 (S_cons (S_for PassesOwn.never rfl (j_t hK (e_var (i := 0) rfl)) (k_nm hN (i := 4) rfl) (S_cons (S_for PassesOwn.never rfl (j_l hK (vf (x_lc2 [("one", 6), ("name", 5)] rfl hN (ij (j_l hK (e_call G.f_expressions_in hr rfl (l_cons (e_var (i := 4) rfl) l_nil rfl) rfl rfl rfl))) rfl (by decide) (by decide) (by decide) (fun _ _ _ _ _ => (k_nm hN (i := 6) rfl)) (fun _ _ _ _ _ => b_0) (fun _ _ _ _ _ => (j_l hK (vf (e_callF G.f_names_in hr rfl (l_cons (e_var (i := 6) rfl) l_nil rfl) rfl rfl rfl)))) (fun _ _ _ _ _ => (k_nm hN (i := 5) rfl)) (fun _ _ _ _ _ => b_0) (fun _ _ _ _ _ => (e_var (i := 5) rfl)) (fun _ => rfl) (fun _ _ => rfl)))) (k_nm hN (i := 5) rfl) (S_cons (S_if (t_bool (w_or (t_eq (e_pk (i := 1) rfl) (pf (e_lst l_nil)) hK hr.units rfl) (w_or (t_in (e_pk (i := 5) rfl) (e_pk (i := 2) rfl) hK (u1 hr) rfl) (w_one (t_not (t_val (e_any hK (pf (x_lc [("some", 7)] rfl hN (j_lp (e_pk (i := 1) rfl)) rfl (by decide) (fun _ _ _ _ _ => (k_nm hN (i := 7) rfl)) (fun _ _ _ _ _ => b_0) (fun _ _ _ _ _ => (e_in (e_pk (i := 5) rfl) (e_pk (i := 7) rfl) hK (u1 hr) rfl)) (fun _ => rfl))) rfl rfl G.b_any rfl) (fun _ => rfl))))))) (S_cons (S_app (i := 3) rfl (e_var (i := 5) rfl) rfl rfl rfl)
 S_nil) S_nil rfl)
 S_nil) (fun _ => rfl) rfl)
 (S_cons (S_if (t_eq (pv (e_idx (e_pk (i := 4) rfl) (pv e_int) hK (fun _ _ => rfl))) (pv (e_str (s := [100, 101, 102]) rfl)) hK hr.units rfl) (S_cons (S_ext (i := 3) rfl (e_call G.f_names_read hr rfl (l_cons (e_idx (e_pk (i := 4) rfl) (pv e_int) hK (fun _ _ => rfl)) (l_cons (vf (e_cat (pf (e_lst (l_cons (e_call G.f_own_names hr rfl (l_cons (e_idx (e_pk (i := 4) rfl) (pv e_int) hK (fun _ _ => rfl)) (l_cons (e_idx (e_pk (i := 4) rfl) (pv e_int) hK (fun _ _ => rfl)) l_nil rfl) rfl) rfl rfl rfl) l_nil rfl))) (e_pk (i := 1) rfl))) (l_cons (e_call G.f_told_names hr rfl (l_cons (e_idx (e_pk (i := 4) rfl) (pv e_int) hK (fun _ _ => rfl)) (l_cons (e_str (s := [116, 111, 112]) rfl) l_nil rfl) rfl) rfl rfl rfl) l_nil rfl) rfl) rfl) rfl rfl rfl) rfl rfl rfl)
 S_nil) (S_cons (S_for PassesOwn.never rfl (j_l hK (e_call G.f_blocks_in hr rfl (l_cons (e_var (i := 4) rfl) l_nil rfl) rfl rfl rfl)) (k_nm hN (i := 7) rfl) (S_cons (S_ext (i := 3) rfl (e_call G.f_names_read hr rfl (l_cons (e_var (i := 7) rfl) (l_cons (e_var (i := 1) rfl) (l_cons (e_var (i := 2) rfl) l_nil rfl) rfl) rfl) rfl rfl rfl) rfl rfl rfl)
 S_nil) (fun _ => rfl) rfl)
 S_nil) rfl)
 S_nil)) (fun _ => rfl) rfl)
 (S_cons (S_ret (e_var (i := 3) rfl) rfl)
 S_nil)))
def n__law_cell_at : List Str := ["_law_script", "_law_at", "_law_cells", "_law_cell", "_law_spot", "_law_low", "_law_high", "_law_mixed"]
def d__law_cell_at (C : Nat → List D → Option D) : PD.Env → Option Out := vSeq (vAsg .fr (vIf (v2 (cmpd .ne) (vVar 0) (vLst (vNil))) (vSlc dSlL (vVar 0) (vNo) (vSo (vK (.int 63)))) (vLst (vCons (vK (.int 5)) vNil))) [] 2) (vSeq (vPar .vl (v2 (bopd .add) (v2 dIdx (vVar 2) (v2 (bopd .mod) (vVar 1) (v1 dLen (vVar 2)))) (v2 (bopd .mul) (vK (.int 13)) (v2 (bopd .fdiv) (vVar 1) (v1 dLen (vVar 2))))) .vl (vVar 1) [1] 3 4) (vSeq (vPar .vl (v2 (bopd .mod) (vVar 3) (vK (.int 1000003))) .vl (v2 (bopd .mod) (v2 (bopd .fdiv) (vVar 3) (vK (.int 1000003))) (vK (.int 999983))) [] 5 6) (vSeq (vAsg .vl (v2 (bopd .mod) (v2 (bopd .add) (v2 (bopd .add) (v2 (bopd .mul) (v2 (bopd .add) (vVar 5) (v2 (bopd .mul) (vK (.int 977)) (vVar 4))) (vK (.int 48271))) (v2 (bopd .mul) (vK (.int 31)) (vVar 6))) (v2 (bopd .mod) (v1 dSum (vVar 2)) (vK (.int 65521)))) (vK (.int 2147483647))) [] 7) (vSeq (vRet (v2 (bopd .add) (v2 (bopd .mul) (v2 (bopd .mod) (v2 (bopd .mul) (vVar 7) (v2 (bopd .add) (v2 (bopd .add) (vVar 7) (v2 (bopd .mul) (vK (.int 31)) (vVar 4))) (vK (.int 7)))) (vK (.int 2147483629))) (vK (.int 65537))) (vVar 6)) []) vSkip))))
theorem b__law_cell_at (hK : K = T.K) (G : Gx P w K mg base T C lv) (hr : Room lv (A.deeper (envOfC "_law_cell_at" (defScope (top 45)) s.heap.objs.size f cdv))) (hr2 : Room 2 (A.deeper (envOfC "_law_cell_at" (defScope (top 45)) s.heap.objs.size f cdv))) (hN : (n__law_cell_at).Nodup) : PSs (Xf n__law_cell_at "_law_cell_at" (top 45) P w K mg base f cdv A outer s H E) (defBody (top 45)) (tS T false (d__law_cell_at C)) :=
 (S_cons (S_asg hN (i := 2) rfl (e_if (t_ne (e_pk (i := 0) rfl) (pf (e_lst l_nil)) hK hr.units rfl) (e_slL hK (e_pk (i := 0) rfl) o_no (o_so e_int)) (e_lst (l_cons e_int l_nil rfl))) (by decide) rfl rfl)
 (S_cons (S_par (by decide) (by decide) rfl hN (i := 3) (j := 4) rfl rfl (by decide) rfl rfl (e_add (pv (e_idx (e_pk (i := 2) rfl) (pv (e_mod (e_pk (i := 1) rfl) (pv (e_len hK (e_pk (i := 2) rfl) rfl rfl G.b_len)))) hK (fun _ _ => rfl))) (pv (e_mul (pv e_int) (pv (e_fdiv (e_pk (i := 1) rfl) (pv (e_len hK (e_pk (i := 2) rfl) rfl rfl G.b_len))))))) (e_var (i := 1) rfl) rfl rfl rfl rfl rfl)
 (S_cons (S_par (by decide) (by decide) rfl hN (i := 5) (j := 6) rfl rfl (by decide) rfl rfl (e_mod (e_pk (i := 3) rfl) (pv e_int)) (e_mod (pv (e_fdiv (e_pk (i := 3) rfl) (pv e_int))) (pv e_int)) rfl rfl rfl rfl rfl)
 (S_cons (S_asg hN (i := 7) rfl (e_mod (pv (e_add (pv (e_add (pv (e_mul (pv (e_add (e_pk (i := 5) rfl) (pv (e_mul (pv e_int) (e_pk (i := 4) rfl))))) (pv e_int))) (pv (e_mul (pv e_int) (e_pk (i := 6) rfl))))) (pv (e_mod (pv (e_sum hK (e_pk (i := 2) rfl) rfl rfl G.b_sum rfl)) (pv e_int))))) (pv e_int)) (by decide) rfl rfl)
 (S_cons (S_ret (e_add (pv (e_mul (pv (e_mod (pv (e_mul (e_pk (i := 7) rfl) (pv (e_add (pv (e_add (e_pk (i := 7) rfl) (pv (e_mul (pv e_int) (e_pk (i := 4) rfl))))) (pv e_int))))) (pv e_int))) (pv e_int))) (e_pk (i := 6) rfl)) rfl)
 S_nil)))))
def n__law_samples : List Str := ["_law_x", "_law_y", "_law_z", "_law_f", "_law_a", "_law_b", "_law_m", "_law_name", "_law_one", "_law_two", "_law_call", "_law_ab", "_law_rows_here", "_law_told"]
def d__law_samples (C : Nat → List D → Option D) : PD.Env → Option Out := vSeq (vAsgL (vLc (vIs (vK (.str [120, 121, 122, 102, 97, 98, 109]))) (.nm 7) [7] (vT0) (vTup (vCons (vK (.str [110, 97, 109, 101])) (vCons (vVar 7) vNil)))) [] [0, 1, 2, 3, 4, 5, 6]) (vSeq (vAsgT (vTup (vCons (vTup (vCons (vK (.str [110, 117, 109])) (vCons (vK (.int 1)) vNil))) (vCons (vTup (vCons (vK (.str [110, 117, 109])) (vCons (vK (.int 2)) vNil))) (vCons (vTup (vCons (vK (.str [99, 97, 108, 108])) (vCons (vVar 3) (vCons (vTup (vNil)) vNil)))) (vCons (vTup (vCons (vK (.str [97])) (vCons (vK (.str [98])) vNil))) vNil))))) [3] [8, 9, 10, 11]) (vSeq (vAsg .fr (vLst (vCons (vTup (vCons (vK (.str [108, 101, 116])) (vCons (vK (.str [120])) (vCons (vVar 8) vNil)))) (vCons (vTup (vCons (vK (.str [108, 101, 116])) (vCons (vK (.str [120])) (vCons (vTup (vCons (vK (.str [112, 108, 117, 115])) (vCons (vVar 0) (vCons (vVar 9) vNil)))) vNil)))) (vCons (vTup (vCons (vK (.str [108, 101, 116])) (vCons (vK (.str [121])) (vCons (vTup (vCons (vK (.str [100, 111, 116])) (vCons (vVar 4) (vCons (vK (.str [120])) vNil)))) vNil)))) vNil)))) [8, 0, 9, 4] 12) (vSeq (vAsg .fr (v2 dCat (vVar 12) (vLst (vCons (vTup (vCons (vK (.str [108, 101, 116])) (vCons (vK (.str [122])) (vCons (vVar 10) vNil)))) vNil))) [10] 12) (vSeq (vAsg .fr (v2 dCat (vVar 12) (vLst (vCons (vTup (vCons (vK (.str [108, 101, 116])) (vCons (vK (.str [121])) (vCons (vTup (vCons (vK (.str [99, 97, 108, 108])) (vCons (vVar 3) (vCons (vTup (vCons (vVar 0) vNil)) vNil)))) vNil)))) (vCons (vTup (vCons (vK (.str [108, 101, 116])) (vCons (vK (.str [102])) (vCons (vTup (vCons (vK (.str [100, 111, 116])) (vCons (vVar 5) (vCons (vK (.str [102])) vNil)))) vNil)))) vNil)))) [3, 0, 5] 12) (vSeq (vAsg .fr (v2 dCat (vVar 12) (vLst (vCons (vTup (vCons (vK (.str [108, 101, 116])) (vCons (vK (.str [122])) (vCons (vTup (vCons (vK (.str [108, 101, 115, 115])) (vCons (vVar 0) (vCons (vVar 9) vNil)))) vNil)))) vNil))) [0, 9] 12) (vSeq (vAsg .fr (v2 dCat (vVar 12) (vLc (vIt (vTup (vCons (vVar 0) (vCons (vVar 1) (vCons (vVar 2) (vCons (vVar 3) (vCons (vVar 4) (vCons (vTup (vCons (vK (.str [100, 111, 116])) (vCons (vVar 4) (vCons (vK (.str [121])) vNil)))) (vCons (vTup (vCons (vK (.str [100, 111, 116])) (vCons (vVar 6) (vCons (vK (.str [122])) vNil)))) (vCons (vTup (vCons (vK (.str [112, 108, 117, 115])) (vCons (vVar 0) (vCons (vVar 1) vNil)))) vNil)))))))))) (.nm 13) [13] (vT0) (vTup (vCons (vK (.str [115, 97, 121])) (vCons (vVar 13) vNil))))) [0, 1, 2, 3, 4, 4, 6, 0, 1] 12) (vSeq (vAsg .fr (v2 dCat (vVar 12) (vLst (vCons (vTup (vCons (vK (.str [108, 101, 116])) (vCons (vK (.str [120])) (vCons (vTup (vCons (vK (.str [100, 111, 116])) (vCons (vTup (vCons (vK (.str [100, 111, 116])) (vCons (vVar 4) (vCons (vK (.str [98])) vNil)))) (vCons (vK (.str [120])) vNil)))) vNil)))) (vCons (vTup (vCons (vK (.str [115, 97, 121])) (vCons (vTup (vCons (vK (.str [99, 97, 108, 108])) (vCons (vVar 3) (vCons (vTup (vCons (vVar 8) vNil)) vNil)))) vNil))) (vCons (vTup (vCons (vK (.str [97, 103, 97, 105, 110])) (vCons (vVar 11) vNil))) vNil))))) [4, 3, 8, 11] 12) (vSeq (vAsg .fr (v2 dCat (vVar 12) (vLst (vCons (vTup (vCons (vK (.str [117, 115, 101])) (vCons (vTup (vCons (vK (.str [97])) vNil)) (vCons (vK .non) vNil)))) (vCons (vTup (vCons (vK (.str [117, 115, 101])) (vCons (vTup (vCons (vK (.str [98])) vNil)) (vCons (vK .non) vNil)))) (vCons (vTup (vCons (vK (.str [117, 115, 101])) (vCons (vVar 11) (vCons (vK .non) vNil)))) (vCons (vTup (vCons (vK (.str [117, 115, 101])) (vCons (vTup (vCons (vK (.str [97])) (vCons (vK (.str [109])) vNil))) (vCons (vK (.str [109])) vNil)))) vNil)))))) [11] 12) (vSeq (vAsg .fr (v2 dCat (vVar 12) (vLst (vCons (vTup (vCons (vK (.str [117, 115, 101])) (vCons (vTup (vCons (vK (.str [109])) vNil)) (vCons (vK .non) vNil)))) (vCons (vTup (vCons (vK (.str [117, 115, 101])) (vCons (vTup (vCons (vK (.str [109])) (vCons (vK (.str [98])) vNil))) (vCons (vK (.str [98])) vNil)))) (vCons (vTup (vCons (vK (.str [117, 115, 101])) (vCons (vTup (vCons (vK (.str [99])) vNil)) (vCons (vK .non) vNil)))) vNil))))) [] 12) (vSeq (vAsg .fr (v2 dCat (vVar 12) (vLst (vCons (vTup (vCons (vK (.str [117, 115, 101])) (vCons (v2 dCatT (vVar 11) (vTup (vCons (vK (.str [120])) vNil))) (vCons (vK (.str [120])) vNil)))) vNil))) [] 12) (vSeq (vAsg .fr (v2 dCat (vVar 12) (vLst (vCons (vTup (vCons (vK (.str [108, 97, 122, 121])) (vCons (vTup (vCons (vK (.str [98])) vNil)) (vCons (vK (.str [98])) vNil)))) (vCons (vTup (vCons (vK (.str [108, 97, 122, 121])) (vCons (vTup (vCons (vK (.str [97])) (vCons (vK (.str [109])) vNil))) (vCons (vK (.str [109])) vNil)))) (vCons (vTup (vCons (vK (.str [108, 97, 122, 121])) (vCons (vTup (vCons (vK (.str [109])) vNil)) (vCons (vK (.str [121])) vNil)))) (vCons (vTup (vCons (vK (.str [97, 103, 97, 105, 110])) (vCons (vTup (vCons (vK (.str [98])) vNil)) vNil))) vNil)))))) [] 12) (vSeq (vAsg .fr (v2 dCat (vVar 12) (vLst (vCons (vTup (vCons (vK (.str [102, 114, 111, 109])) (vCons (vK (.int 0)) (vCons (vTup (vCons (vK (.str [98])) vNil)) (vCons (vTup (vCons (vTup (vCons (vK (.str [102])) (vCons (vK (.str [102])) vNil))) (vCons (vTup (vCons (vK (.str [121])) (vCons (vK (.str [122])) vNil))) vNil))) vNil))))) (vCons (vTup (vCons (vK (.str [102, 114, 111, 109])) (vCons (vK (.int 0)) (vCons (vVar 11) (vCons (vK (.str [42])) vNil))))) vNil)))) [11] 12) (vSeq (vApp (vTup (vCons (vK (.str [102, 114, 111, 109])) (vCons (vK (.int 0)) (vCons (vTup (vCons (vK (.str [97])) vNil)) (vCons (vTup (vCons (vTup (vCons (vK (.str [120])) (vCons (vK (.str [120])) vNil))) vNil)) vNil))))) [] 12) (vSeq (vAsg .fr (v2 dCat (vVar 12) (vLst (vCons (vTup (vCons (vK (.str [102, 114, 111, 109])) (vCons (vK (.int 0)) (vCons (vTup (vCons (vK (.str [97])) vNil)) (vCons (vTup (vCons (vTup (vCons (vK (.str [98])) (vCons (vK (.str [120])) vNil))) vNil)) vNil))))) (vCons (vTup (vCons (vK (.str [102, 114, 111, 109])) (vCons (vK (.int 0)) (vCons (vTup (vCons (vK (.str [109])) vNil)) (vCons (vK (.str [42])) vNil))))) (vCons (vTup (vCons (vK (.str [102, 114, 111, 109])) (vCons (vK (.int 1)) (vCons (vTup (vNil)) (vCons (vTup (vCons (vTup (vCons (vK (.str [120])) (vCons (vK (.str [121])) vNil))) vNil)) vNil))))) vNil))))) [] 12) (vSeq (vAsg .fr (v2 dCat (vVar 12) (vLst (vCons (vTup (vCons (vK (.str [102, 114, 111, 109])) (vCons (vK (.int 1)) (vCons (vTup (vCons (vK (.str [98])) vNil)) (vCons (vTup (vCons (vTup (vCons (vK (.str [120])) (vCons (vK (.str [120])) vNil))) vNil)) vNil))))) (vCons (vTup (vCons (vK (.str [102, 114, 111, 109])) (vCons (vK (.int 1)) (vCons (vTup (vCons (vK (.str [109])) vNil)) (vCons (vK (.str [42])) vNil))))) vNil)))) [] 12) (vSeq (vAsg .fr (v2 dCat (vVar 12) (vLst (vCons (vTup (vCons (vK (.str [102, 114, 111, 109])) (vCons (vK (.int 2)) (vCons (vTup (vCons (vK (.str [109])) vNil)) (vCons (vTup (vCons (vTup (vCons (vK (.str [122])) (vCons (vK (.str [122])) vNil))) vNil)) vNil))))) vNil))) [] 12) (vSeq (vAsg .fr (v2 dCat (vVar 12) (vLst (vCons (vTup (vCons (vK (.str [102, 114, 111, 109])) (vCons (vK (.int 3)) (vCons (vTup (vCons (vK (.str [97])) vNil)) (vCons (vTup (vCons (vTup (vCons (vK (.str [120])) (vCons (vK (.str [120])) vNil))) vNil)) vNil))))) (vCons (vTup (vCons (vK (.str [102, 114, 111, 109])) (vCons (vK (.int 1)) (vCons (vTup (vNil)) (vCons (vTup (vCons (vTup (vCons (vK (.str [109])) (vCons (vK (.str [109])) vNil))) vNil)) vNil))))) (vCons (vTup (vCons (vK (.str [102, 114, 111, 109])) (vCons (vK (.int 0)) (vCons (vTup (vCons (vK (.str [98])) vNil)) (vCons (vK (.str [42])) vNil))))) vNil))))) [] 12) (vSeq (vAsg .fr (v2 dCat (vVar 12) (vLst (vCons (vTup (vCons (vK (.str [102, 114, 111, 109])) (vCons (vK (.int 0)) (vCons (vTup (vCons (vK (.str [97])) vNil)) (vCons (vTup (vCons (vTup (vCons (vK (.str [122])) (vCons (vK (.str [122])) vNil))) vNil)) vNil))))) (vCons (vTup (vCons (vK (.str [97, 103, 97, 105, 110])) (vCons (vTup (vCons (vK (.str [97])) vNil)) vNil))) (vCons (vTup (vCons (vK (.str [115, 101, 116])) (vCons (vVar 4) (vCons (vK (.str [120])) (vCons (vVar 9) vNil))))) vNil))))) [4, 9] 12) (vSeq (vAsg .fr (v2 dCat (vVar 12) (vLst (vCons (vTup (vCons (vK (.str [115, 101, 116])) (vCons (vVar 5) (vCons (vK (.str [122])) (vCons (vVar 0) vNil))))) vNil))) [5, 0] 12) (vSeq (vAsg .fr (v2 dCat (vVar 12) (vLst (vCons (vTup (vCons (vK (.str [115, 101, 116])) (vCons (vVar 6) (vCons (vK (.str [121])) (vCons (vVar 3) vNil))))) (vCons (vTup (vCons (vK (.str [100, 114, 111, 112])) (vCons (vK (.str [120])) vNil))) (vCons (vTup (vCons (vK (.str [100, 114, 111, 112])) (vCons (vK (.str [122])) vNil))) (vCons (vTup (vCons (vK (.str [108, 101, 116])) (vCons (vK (.str [102])) (vCons (vTup (vCons (vK (.str [100, 111, 116])) (vCons (vVar 2) (vCons (vK (.str [102])) vNil)))) vNil)))) vNil)))))) [6, 3, 2] 12) (vSeq (vApp (vTup (vCons (vK (.str [100, 101, 102])) (vCons (vK (.str [102])) (vCons (vTup (vNil)) (vCons (vTup (vCons (vTup (vCons (vK (.str [103, 105, 118, 101])) (vCons (vVar 0) vNil))) vNil)) vNil))))) [0] 12) (vSeq (vRet (v2 dCat (vVar 12) (vCall C 31 (vCons (vVar 0) (vCons (vVar 1) (vCons (vVar 2) vNil))))) [0, 1, 2]) vSkip))))))))))))))))))))))
theorem b__law_samples (hK : K = T.K) (G : Gx P w K mg base T C lv) (hr : Room lv (A.deeper (envOfC "_law_samples" (defScope (top 46)) s.heap.objs.size f cdv))) (hr2 : Room 2 (A.deeper (envOfC "_law_samples" (defScope (top 46)) s.heap.objs.size f cdv))) (hN : (n__law_samples).Nodup) : PSs (Xf n__law_samples "_law_samples" (top 46) P w K mg base f cdv A outer s H E) (defBody (top 46)) (tS T false (d__law_samples C)) :=
 (S_cons (S_asgL hK rfl (vf (x_lc [("_law_name", 7)] rfl hN (ij (j_s (e_str (s := [120, 121, 122, 102, 97, 98, 109]) rfl))) rfl (by decide) (fun _ _ _ _ _ => (k_nm hN (i := 7) rfl)) (fun _ _ _ _ _ => b_0) (fun _ _ _ _ _ => (e_tup (l_cons (e_str (s := [110, 97, 109, 101]) rfl) (l_cons (e_var (i := 7) rfl) l_nil rfl) rfl))) (fun _ => rfl))) (k_c hN (i := 0) rfl (k_c hN (i := 1) rfl (k_c hN (i := 2) rfl (k_c hN (i := 3) rfl (k_c hN (i := 4) rfl (k_c hN (i := 5) rfl (k_c hN (i := 6) rfl k_0 rfl) rfl) rfl) rfl) rfl) rfl) rfl) rfl rfl rfl rfl rfl rfl)
 (S_cons (S_asgT (e_tup (l_cons (e_tup (l_cons (e_str (s := [110, 117, 109]) rfl) (l_cons e_int l_nil rfl) rfl)) (l_cons (e_tup (l_cons (e_str (s := [110, 117, 109]) rfl) (l_cons e_int l_nil rfl) rfl)) (l_cons (e_tup (l_cons (e_str (s := [99, 97, 108, 108]) rfl) (l_cons (e_var (i := 3) rfl) (l_cons (e_tup l_nil) l_nil rfl) rfl) rfl)) (l_cons (e_tup (l_cons (e_str (s := [97]) rfl) (l_cons (e_str (s := [98]) rfl) l_nil rfl) rfl)) l_nil rfl) rfl) rfl) rfl)) (k_tp hK rfl (k_c hN (i := 8) rfl (k_c hN (i := 9) rfl (k_c hN (i := 10) rfl (k_c hN (i := 11) rfl k_0 rfl) rfl) rfl) rfl) rfl rfl) rfl rfl rfl rfl)
 (S_cons (S_asg hN (i := 12) rfl (e_lst (l_cons (e_tup (l_cons (e_str (s := [108, 101, 116]) rfl) (l_cons (e_str (s := [120]) rfl) (l_cons (e_var (i := 8) rfl) l_nil rfl) rfl) rfl)) (l_cons (e_tup (l_cons (e_str (s := [108, 101, 116]) rfl) (l_cons (e_str (s := [120]) rfl) (l_cons (e_tup (l_cons (e_str (s := [112, 108, 117, 115]) rfl) (l_cons (e_var (i := 0) rfl) (l_cons (e_var (i := 9) rfl) l_nil rfl) rfl) rfl)) l_nil rfl) rfl) rfl)) (l_cons (e_tup (l_cons (e_str (s := [108, 101, 116]) rfl) (l_cons (e_str (s := [121]) rfl) (l_cons (e_tup (l_cons (e_str (s := [100, 111, 116]) rfl) (l_cons (e_var (i := 4) rfl) (l_cons (e_str (s := [120]) rfl) l_nil rfl) rfl) rfl)) l_nil rfl) rfl) rfl)) l_nil rfl) rfl) rfl)) (by decide) rfl rfl)
 (S_cons (S_asg hN (i := 12) rfl (e_cat (e_pk (i := 12) rfl) (pf (e_lst (l_cons (e_tup (l_cons (e_str (s := [108, 101, 116]) rfl) (l_cons (e_str (s := [122]) rfl) (l_cons (e_var (i := 10) rfl) l_nil rfl) rfl) rfl)) l_nil rfl)))) (by decide) rfl rfl)
 (S_cons (S_asg hN (i := 12) rfl (e_cat (e_pk (i := 12) rfl) (pf (e_lst (l_cons (e_tup (l_cons (e_str (s := [108, 101, 116]) rfl) (l_cons (e_str (s := [121]) rfl) (l_cons (e_tup (l_cons (e_str (s := [99, 97, 108, 108]) rfl) (l_cons (e_var (i := 3) rfl) (l_cons (e_tup (l_cons (e_var (i := 0) rfl) l_nil rfl)) l_nil rfl) rfl) rfl)) l_nil rfl) rfl) rfl)) (l_cons (e_tup (l_cons (e_str (s := [108, 101, 116]) rfl) (l_cons (e_str (s := [102]) rfl) (l_cons (e_tup (l_cons (e_str (s := [100, 111, 116]) rfl) (l_cons (e_var (i := 5) rfl) (l_cons (e_str (s := [102]) rfl) l_nil rfl) rfl) rfl)) l_nil rfl) rfl) rfl)) l_nil rfl) rfl)))) (by decide) rfl rfl)
 (S_cons (S_asg hN (i := 12) rfl (e_cat (e_pk (i := 12) rfl) (pf (e_lst (l_cons (e_tup (l_cons (e_str (s := [108, 101, 116]) rfl) (l_cons (e_str (s := [122]) rfl) (l_cons (e_tup (l_cons (e_str (s := [108, 101, 115, 115]) rfl) (l_cons (e_var (i := 0) rfl) (l_cons (e_var (i := 9) rfl) l_nil rfl) rfl) rfl)) l_nil rfl) rfl) rfl)) l_nil rfl)))) (by decide) rfl rfl)
 (S_cons (S_asg hN (i := 12) rfl (e_cat (e_pk (i := 12) rfl) (pf (x_lc [("_law_told", 13)] rfl hN (ij (j_t hK (e_tup (l_cons (e_var (i := 0) rfl) (l_cons (e_var (i := 1) rfl) (l_cons (e_var (i := 2) rfl) (l_cons (e_var (i := 3) rfl) (l_cons (e_var (i := 4) rfl) (l_cons (e_tup (l_cons (e_str (s := [100, 111, 116]) rfl) (l_cons (e_var (i := 4) rfl) (l_cons (e_str (s := [121]) rfl) l_nil rfl) rfl) rfl)) (l_cons (e_tup (l_cons (e_str (s := [100, 111, 116]) rfl) (l_cons (e_var (i := 6) rfl) (l_cons (e_str (s := [122]) rfl) l_nil rfl) rfl) rfl)) (l_cons (e_tup (l_cons (e_str (s := [112, 108, 117, 115]) rfl) (l_cons (e_var (i := 0) rfl) (l_cons (e_var (i := 1) rfl) l_nil rfl) rfl) rfl)) l_nil rfl) rfl) rfl) rfl) rfl) rfl) rfl) rfl)))) rfl (by decide) (fun _ _ _ _ _ => (k_nm hN (i := 13) rfl)) (fun _ _ _ _ _ => b_0) (fun _ _ _ _ _ => (e_tup (l_cons (e_str (s := [115, 97, 121]) rfl) (l_cons (e_var (i := 13) rfl) l_nil rfl) rfl))) (fun _ => rfl)))) (by decide) rfl rfl)
 (S_cons (S_asg hN (i := 12) rfl (e_cat (e_pk (i := 12) rfl) (pf (e_lst (l_cons (e_tup (l_cons (e_str (s := [108, 101, 116]) rfl) (l_cons (e_str (s := [120]) rfl) (l_cons (e_tup (l_cons (e_str (s := [100, 111, 116]) rfl) (l_cons (e_tup (l_cons (e_str (s := [100, 111, 116]) rfl) (l_cons (e_var (i := 4) rfl) (l_cons (e_str (s := [98]) rfl) l_nil rfl) rfl) rfl)) (l_cons (e_str (s := [120]) rfl) l_nil rfl) rfl) rfl)) l_nil rfl) rfl) rfl)) (l_cons (e_tup (l_cons (e_str (s := [115, 97, 121]) rfl) (l_cons (e_tup (l_cons (e_str (s := [99, 97, 108, 108]) rfl) (l_cons (e_var (i := 3) rfl) (l_cons (e_tup (l_cons (e_var (i := 8) rfl) l_nil rfl)) l_nil rfl) rfl) rfl)) l_nil rfl) rfl)) (l_cons (e_tup (l_cons (e_str (s := [97, 103, 97, 105, 110]) rfl) (l_cons (e_var (i := 11) rfl) l_nil rfl) rfl)) l_nil rfl) rfl) rfl)))) (by decide) rfl rfl)
 (S_cons (S_asg hN (i := 12) rfl (e_cat (e_pk (i := 12) rfl) (pf (e_lst (l_cons (e_tup (l_cons (e_str (s := [117, 115, 101]) rfl) (l_cons (e_tup (l_cons (e_str (s := [97]) rfl) l_nil rfl)) (l_cons e_non l_nil rfl) rfl) rfl)) (l_cons (e_tup (l_cons (e_str (s := [117, 115, 101]) rfl) (l_cons (e_tup (l_cons (e_str (s := [98]) rfl) l_nil rfl)) (l_cons e_non l_nil rfl) rfl) rfl)) (l_cons (e_tup (l_cons (e_str (s := [117, 115, 101]) rfl) (l_cons (e_var (i := 11) rfl) (l_cons e_non l_nil rfl) rfl) rfl)) (l_cons (e_tup (l_cons (e_str (s := [117, 115, 101]) rfl) (l_cons (e_tup (l_cons (e_str (s := [97]) rfl) (l_cons (e_str (s := [109]) rfl) l_nil rfl) rfl)) (l_cons (e_str (s := [109]) rfl) l_nil rfl) rfl) rfl)) l_nil rfl) rfl) rfl) rfl)))) (by decide) rfl rfl)
 (S_cons (S_asg hN (i := 12) rfl (e_cat (e_pk (i := 12) rfl) (pf (e_lst (l_cons (e_tup (l_cons (e_str (s := [117, 115, 101]) rfl) (l_cons (e_tup (l_cons (e_str (s := [109]) rfl) l_nil rfl)) (l_cons e_non l_nil rfl) rfl) rfl)) (l_cons (e_tup (l_cons (e_str (s := [117, 115, 101]) rfl) (l_cons (e_tup (l_cons (e_str (s := [109]) rfl) (l_cons (e_str (s := [98]) rfl) l_nil rfl) rfl)) (l_cons (e_str (s := [98]) rfl) l_nil rfl) rfl) rfl)) (l_cons (e_tup (l_cons (e_str (s := [117, 115, 101]) rfl) (l_cons (e_tup (l_cons (e_str (s := [99]) rfl) l_nil rfl)) (l_cons e_non l_nil rfl) rfl) rfl)) l_nil rfl) rfl) rfl)))) (by decide) rfl rfl)
 (S_cons (S_asg hN (i := 12) rfl (e_cat (e_pk (i := 12) rfl) (pf (e_lst (l_cons (e_tup (l_cons (e_str (s := [117, 115, 101]) rfl) (l_cons (e_catT (e_pk (i := 11) rfl) (pv (e_tup (l_cons (e_str (s := [120]) rfl) l_nil rfl))) hK) (l_cons (e_str (s := [120]) rfl) l_nil rfl) rfl) rfl)) l_nil rfl)))) (by decide) rfl rfl)
 (S_cons (S_asg hN (i := 12) rfl (e_cat (e_pk (i := 12) rfl) (pf (e_lst (l_cons (e_tup (l_cons (e_str (s := [108, 97, 122, 121]) rfl) (l_cons (e_tup (l_cons (e_str (s := [98]) rfl) l_nil rfl)) (l_cons (e_str (s := [98]) rfl) l_nil rfl) rfl) rfl)) (l_cons (e_tup (l_cons (e_str (s := [108, 97, 122, 121]) rfl) (l_cons (e_tup (l_cons (e_str (s := [97]) rfl) (l_cons (e_str (s := [109]) rfl) l_nil rfl) rfl)) (l_cons (e_str (s := [109]) rfl) l_nil rfl) rfl) rfl)) (l_cons (e_tup (l_cons (e_str (s := [108, 97, 122, 121]) rfl) (l_cons (e_tup (l_cons (e_str (s := [109]) rfl) l_nil rfl)) (l_cons (e_str (s := [121]) rfl) l_nil rfl) rfl) rfl)) (l_cons (e_tup (l_cons (e_str (s := [97, 103, 97, 105, 110]) rfl) (l_cons (e_tup (l_cons (e_str (s := [98]) rfl) l_nil rfl)) l_nil rfl) rfl)) l_nil rfl) rfl) rfl) rfl)))) (by decide) rfl rfl)
 (S_cons (S_asg hN (i := 12) rfl (e_cat (e_pk (i := 12) rfl) (pf (e_lst (l_cons (e_tup (l_cons (e_str (s := [102, 114, 111, 109]) rfl) (l_cons e_int (l_cons (e_tup (l_cons (e_str (s := [98]) rfl) l_nil rfl)) (l_cons (e_tup (l_cons (e_tup (l_cons (e_str (s := [102]) rfl) (l_cons (e_str (s := [102]) rfl) l_nil rfl) rfl)) (l_cons (e_tup (l_cons (e_str (s := [121]) rfl) (l_cons (e_str (s := [122]) rfl) l_nil rfl) rfl)) l_nil rfl) rfl)) l_nil rfl) rfl) rfl) rfl)) (l_cons (e_tup (l_cons (e_str (s := [102, 114, 111, 109]) rfl) (l_cons e_int (l_cons (e_var (i := 11) rfl) (l_cons (e_str (s := [42]) rfl) l_nil rfl) rfl) rfl) rfl)) l_nil rfl) rfl)))) (by decide) rfl rfl)
 (S_cons (S_app (i := 12) rfl (e_tup (l_cons (e_str (s := [102, 114, 111, 109]) rfl) (l_cons e_int (l_cons (e_tup (l_cons (e_str (s := [97]) rfl) l_nil rfl)) (l_cons (e_tup (l_cons (e_tup (l_cons (e_str (s := [120]) rfl) (l_cons (e_str (s := [120]) rfl) l_nil rfl) rfl)) l_nil rfl)) l_nil rfl) rfl) rfl) rfl)) rfl rfl rfl)
 (S_cons (S_asg hN (i := 12) rfl (e_cat (e_pk (i := 12) rfl) (pf (e_lst (l_cons (e_tup (l_cons (e_str (s := [102, 114, 111, 109]) rfl) (l_cons e_int (l_cons (e_tup (l_cons (e_str (s := [97]) rfl) l_nil rfl)) (l_cons (e_tup (l_cons (e_tup (l_cons (e_str (s := [98]) rfl) (l_cons (e_str (s := [120]) rfl) l_nil rfl) rfl)) l_nil rfl)) l_nil rfl) rfl) rfl) rfl)) (l_cons (e_tup (l_cons (e_str (s := [102, 114, 111, 109]) rfl) (l_cons e_int (l_cons (e_tup (l_cons (e_str (s := [109]) rfl) l_nil rfl)) (l_cons (e_str (s := [42]) rfl) l_nil rfl) rfl) rfl) rfl)) (l_cons (e_tup (l_cons (e_str (s := [102, 114, 111, 109]) rfl) (l_cons e_int (l_cons (e_tup l_nil) (l_cons (e_tup (l_cons (e_tup (l_cons (e_str (s := [120]) rfl) (l_cons (e_str (s := [121]) rfl) l_nil rfl) rfl)) l_nil rfl)) l_nil rfl) rfl) rfl) rfl)) l_nil rfl) rfl) rfl)))) (by decide) rfl rfl)
 (S_cons (S_asg hN (i := 12) rfl (e_cat (e_pk (i := 12) rfl) (pf (e_lst (l_cons (e_tup (l_cons (e_str (s := [102, 114, 111, 109]) rfl) (l_cons e_int (l_cons (e_tup (l_cons (e_str (s := [98]) rfl) l_nil rfl)) (l_cons (e_tup (l_cons (e_tup (l_cons (e_str (s := [120]) rfl) (l_cons (e_str (s := [120]) rfl) l_nil rfl) rfl)) l_nil rfl)) l_nil rfl) rfl) rfl) rfl)) (l_cons (e_tup (l_cons (e_str (s := [102, 114, 111, 109]) rfl) (l_cons e_int (l_cons (e_tup (l_cons (e_str (s := [109]) rfl) l_nil rfl)) (l_cons (e_str (s := [42]) rfl) l_nil rfl) rfl) rfl) rfl)) l_nil rfl) rfl)))) (by decide) rfl rfl)
 (S_cons (S_asg hN (i := 12) rfl (e_cat (e_pk (i := 12) rfl) (pf (e_lst (l_cons (e_tup (l_cons (e_str (s := [102, 114, 111, 109]) rfl) (l_cons e_int (l_cons (e_tup (l_cons (e_str (s := [109]) rfl) l_nil rfl)) (l_cons (e_tup (l_cons (e_tup (l_cons (e_str (s := [122]) rfl) (l_cons (e_str (s := [122]) rfl) l_nil rfl) rfl)) l_nil rfl)) l_nil rfl) rfl) rfl) rfl)) l_nil rfl)))) (by decide) rfl rfl)
 (S_cons (S_asg hN (i := 12) rfl (e_cat (e_pk (i := 12) rfl) (pf (e_lst (l_cons (e_tup (l_cons (e_str (s := [102, 114, 111, 109]) rfl) (l_cons e_int (l_cons (e_tup (l_cons (e_str (s := [97]) rfl) l_nil rfl)) (l_cons (e_tup (l_cons (e_tup (l_cons (e_str (s := [120]) rfl) (l_cons (e_str (s := [120]) rfl) l_nil rfl) rfl)) l_nil rfl)) l_nil rfl) rfl) rfl) rfl)) (l_cons (e_tup (l_cons (e_str (s := [102, 114, 111, 109]) rfl) (l_cons e_int (l_cons (e_tup l_nil) (l_cons (e_tup (l_cons (e_tup (l_cons (e_str (s := [109]) rfl) (l_cons (e_str (s := [109]) rfl) l_nil rfl) rfl)) l_nil rfl)) l_nil rfl) rfl) rfl) rfl)) (l_cons (e_tup (l_cons (e_str (s := [102, 114, 111, 109]) rfl) (l_cons e_int (l_cons (e_tup (l_cons (e_str (s := [98]) rfl) l_nil rfl)) (l_cons (e_str (s := [42]) rfl) l_nil rfl) rfl) rfl) rfl)) l_nil rfl) rfl) rfl)))) (by decide) rfl rfl)
 (S_cons (S_asg hN (i := 12) rfl (e_cat (e_pk (i := 12) rfl) (pf (e_lst (l_cons (e_tup (l_cons (e_str (s := [102, 114, 111, 109]) rfl) (l_cons e_int (l_cons (e_tup (l_cons (e_str (s := [97]) rfl) l_nil rfl)) (l_cons (e_tup (l_cons (e_tup (l_cons (e_str (s := [122]) rfl) (l_cons (e_str (s := [122]) rfl) l_nil rfl) rfl)) l_nil rfl)) l_nil rfl) rfl) rfl) rfl)) (l_cons (e_tup (l_cons (e_str (s := [97, 103, 97, 105, 110]) rfl) (l_cons (e_tup (l_cons (e_str (s := [97]) rfl) l_nil rfl)) l_nil rfl) rfl)) (l_cons (e_tup (l_cons (e_str (s := [115, 101, 116]) rfl) (l_cons (e_var (i := 4) rfl) (l_cons (e_str (s := [120]) rfl) (l_cons (e_var (i := 9) rfl) l_nil rfl) rfl) rfl) rfl)) l_nil rfl) rfl) rfl)))) (by decide) rfl rfl)
 (S_cons (S_asg hN (i := 12) rfl (e_cat (e_pk (i := 12) rfl) (pf (e_lst (l_cons (e_tup (l_cons (e_str (s := [115, 101, 116]) rfl) (l_cons (e_var (i := 5) rfl) (l_cons (e_str (s := [122]) rfl) (l_cons (e_var (i := 0) rfl) l_nil rfl) rfl) rfl) rfl)) l_nil rfl)))) (by decide) rfl rfl)
 (S_cons (S_asg hN (i := 12) rfl (e_cat (e_pk (i := 12) rfl) (pf (e_lst (l_cons (e_tup (l_cons (e_str (s := [115, 101, 116]) rfl) (l_cons (e_var (i := 6) rfl) (l_cons (e_str (s := [121]) rfl) (l_cons (e_var (i := 3) rfl) l_nil rfl) rfl) rfl) rfl)) (l_cons (e_tup (l_cons (e_str (s := [100, 114, 111, 112]) rfl) (l_cons (e_str (s := [120]) rfl) l_nil rfl) rfl)) (l_cons (e_tup (l_cons (e_str (s := [100, 114, 111, 112]) rfl) (l_cons (e_str (s := [122]) rfl) l_nil rfl) rfl)) (l_cons (e_tup (l_cons (e_str (s := [108, 101, 116]) rfl) (l_cons (e_str (s := [102]) rfl) (l_cons (e_tup (l_cons (e_str (s := [100, 111, 116]) rfl) (l_cons (e_var (i := 2) rfl) (l_cons (e_str (s := [102]) rfl) l_nil rfl) rfl) rfl)) l_nil rfl) rfl) rfl)) l_nil rfl) rfl) rfl) rfl)))) (by decide) rfl rfl)
 (S_cons (S_app (i := 12) rfl (e_tup (l_cons (e_str (s := [100, 101, 102]) rfl) (l_cons (e_str (s := [102]) rfl) (l_cons (e_tup l_nil) (l_cons (e_tup (l_cons (e_tup (l_cons (e_str (s := [103, 105, 118, 101]) rfl) (l_cons (e_var (i := 0) rfl) l_nil rfl) rfl)) l_nil rfl)) l_nil rfl) rfl) rfl) rfl)) rfl rfl rfl)
 (S_cons (S_ret (vf (e_cat (e_pk (i := 12) rfl) (pv (e_call G.f__law_more_samples hr rfl (l_cons (e_var (i := 0) rfl) (l_cons (e_var (i := 1) rfl) (l_cons (e_var (i := 2) rfl) l_nil rfl) rfl) rfl) rfl rfl rfl)))) rfl)
 S_nil)))))))))))))))))))))))
def n__law_more_samples : List Str := ["_law_x", "_law_y", "_law_z", "_law_one", "_law_two", "_law_b", "_law_m", "_law_call", "_law_rows_here", "_law_inner"]
def d__law_more_samples (C : Nat → List D → Option D) : PD.Env → Option Out := vSeq (vAsgT (vTup (vCons (vTup (vCons (vK (.str [110, 117, 109])) (vCons (vK (.int 1)) vNil))) (vCons (vTup (vCons (vK (.str [110, 117, 109])) (vCons (vK (.int 2)) vNil))) (vCons (vTup (vCons (vK (.str [110, 97, 109, 101])) (vCons (vK (.str [98])) vNil))) (vCons (vTup (vCons (vK (.str [110, 97, 109, 101])) (vCons (vK (.str [109])) vNil))) (vCons (vTup (vCons (vK (.str [99, 97, 108, 108])) (vCons (vTup (vCons (vK (.str [110, 97, 109, 101])) (vCons (vK (.str [102])) vNil))) (vCons (vTup (vNil)) vNil)))) vNil)))))) [] [3, 4, 5, 6, 7]) (vSeq (vAsg .fr (vLst (vCons (vTup (vCons (vK (.str [100, 101, 102])) (vCons (vK (.str [102])) (vCons (vTup (vCons (vK (.str [121])) vNil)) (vCons (vTup (vCons (vTup (vCons (vK (.str [108, 101, 116])) (vCons (vK (.str [120])) (vCons (vTup (vCons (vK (.str [112, 108, 117, 115])) (vCons (vVar 1) (vCons (vVar 3) vNil)))) vNil)))) (vCons (vTup (vCons (vK (.str [103, 105, 118, 101])) (vCons (vTup (vCons (vK (.str [112, 108, 117, 115])) (vCons (vVar 0) (vCons (vVar 1) vNil)))) vNil))) vNil))) vNil))))) vNil)) [1, 3, 0, 1] 8) (vSeq (vApp (vTup (vCons (vK (.str [100, 101, 102])) (vCons (vK (.str [102])) (vCons (vTup (vNil)) (vCons (vTup (vCons (vTup (vCons (vK (.str [116, 111, 112])) (vCons (vTup (vCons (vK (.str [122])) vNil)) vNil))) (vCons (vTup (vCons (vK (.str [108, 101, 116])) (vCons (vK (.str [122])) (vCons (vVar 4) vNil)))) (vCons (vTup (vCons (vK (.str [117, 115, 101])) (vCons (vTup (vCons (vK (.str [97])) vNil)) (vCons (vK (.str [109])) vNil)))) (vCons (vTup (vCons (vK (.str [103, 105, 118, 101])) (vCons (vTup (vCons (vK (.str [100, 111, 116])) (vCons (vVar 6) (vCons (vK (.str [120])) vNil)))) vNil))) vNil))))) vNil))))) [4, 6] 8) (vSeq (vAsg .vl (vTup (vCons (vK (.str [100, 101, 102])) (vCons (vK (.str [109])) (vCons (vTup (vNil)) (vCons (vTup (vCons (vTup (vCons (vK (.str [111, 117, 116, 101, 114])) (vCons (vTup (vCons (vK (.str [121])) vNil)) vNil))) (vCons (vTup (vCons (vK (.str [108, 101, 116])) (vCons (vK (.str [121])) (vCons (vTup (vCons (vK (.str [112, 108, 117, 115])) (vCons (vVar 0) (vCons (vVar 1) vNil)))) vNil)))) (vCons (vTup (vCons (vK (.str [103, 105, 118, 101])) (vCons (vVar 1) vNil))) vNil)))) vNil))))) [0, 1, 1] 9) (vSeq (vApp (vTup (vCons (vK (.str [100, 101, 102])) (vCons (vK (.str [102])) (vCons (vTup (vCons (vK (.str [120])) vNil)) (vCons (vTup (vCons (vTup (vCons (vK (.str [108, 101, 116])) (vCons (vK (.str [121])) (vCons (vVar 3) vNil)))) (vCons (vVar 9) (vCons (vTup (vCons (vK (.str [115, 97, 121])) (vCons (vTup (vCons (vK (.str [99, 97, 108, 108])) (vCons (vVar 6) (vCons (vTup (vNil)) vNil)))) vNil))) (vCons (vTup (vCons (vK (.str [103, 105, 118, 101])) (vCons (vVar 1) vNil))) vNil))))) vNil))))) [3, 9, 6, 1] 8) (vSeq (vApp (vTup (vCons (vK (.str [100, 101, 102])) (vCons (vK (.str [102])) (vCons (vTup (vNil)) (vCons (vTup (vCons (vTup (vCons (vK (.str [102, 114, 111, 109])) (vCons (vK (.int 0)) (vCons (vTup (vCons (vK (.str [98])) vNil)) (vCons (vTup (vCons (vTup (vCons (vK (.str [120])) (vCons (vK (.str [120])) vNil))) vNil)) vNil))))) (vCons (vTup (vCons (vK (.str [103, 105, 118, 101])) (vCons (vVar 7) vNil))) vNil))) vNil))))) [7] 8) (vSeq (vApp (vTup (vCons (vK (.str [100, 101, 102])) (vCons (vK (.str [102])) (vCons (vTup (vNil)) (vCons (vTup (vCons (vTup (vCons (vK (.str [115, 97, 121])) (vCons (vVar 2) vNil))) (vCons (vTup (vCons (vK (.str [100, 114, 111, 112])) (vCons (vK (.str [122])) vNil))) vNil))) vNil))))) [2] 8) (vSeq (vApp (vTup (vCons (vK (.str [98, 111, 120])) (vCons (vK (.str [122])) (vCons (vTup (vCons (vTup (vCons (vK (.str [108, 101, 116])) (vCons (vK (.str [121])) (vCons (vVar 0) vNil)))) (vCons (vTup (vCons (vK (.str [100, 101, 102])) (vCons (vK (.str [102])) (vCons (vTup (vNil)) (vCons (vTup (vCons (vTup (vCons (vK (.str [103, 105, 118, 101])) (vCons (vVar 1) vNil))) vNil)) vNil))))) (vCons (vTup (vCons (vK (.str [108, 101, 116])) (vCons (vK (.str [120])) (vCons (vVar 4) vNil)))) vNil)))) vNil)))) [0, 1, 4] 8) (vSeq (vApp (vTup (vCons (vK (.str [98, 111, 120])) (vCons (vK (.str [120])) (vCons (vTup (vCons (vTup (vCons (vK (.str [115, 97, 121])) (vCons (vVar 0) vNil))) (vCons (vTup (vCons (vK (.str [108, 101, 116])) (vCons (vK (.str [120])) (vCons (vVar 3) vNil)))) (vCons (vTup (vCons (vK (.str [98, 111, 120])) (vCons (vK (.str [121])) (vCons (vTup (vCons (vTup (vCons (vK (.str [108, 101, 116])) (vCons (vK (.str [122])) (vCons (vVar 0) vNil)))) vNil)) vNil)))) (vCons (vTup (vCons (vK (.str [117, 115, 101])) (vCons (vTup (vCons (vK (.str [109])) vNil)) (vCons (vK .non) vNil)))) vNil))))) vNil)))) [0, 3, 0] 8) (vSeq (vApp (vTup (vCons (vK (.str [116, 114, 121])) (vCons (vTup (vCons (vTup (vCons (vK (.str [117, 115, 101])) (vCons (vTup (vCons (vK (.str [98])) vNil)) (vCons (vK .non) vNil)))) (vCons (vTup (vCons (vK (.str [115, 97, 121])) (vCons (vTup (vCons (vK (.str [100, 111, 116])) (vCons (vVar 5) (vCons (vK (.str [120])) vNil)))) vNil))) vNil))) (vCons (vTup (vCons (vTup (vCons (vK (.str [115, 97, 121])) (vCons (vVar 4) vNil))) vNil)) vNil)))) [5, 4] 8) (vSeq (vAsg .fr (v2 dCat (vVar 8) (vLst (vCons (vTup (vCons (vK (.str [116, 114, 121])) (vCons (vTup (vCons (vTup (vCons (vK (.str [115, 97, 121])) (vCons (vVar 1) vNil))) vNil)) (vCons (vTup (vNil)) vNil)))) (vCons (vTup (vCons (vK (.str [119, 104, 101, 110])) (vCons (vTup (vCons (vK (.str [108, 101, 115, 115])) (vCons (vVar 0) (vCons (vVar 1) vNil)))) (vCons (vTup (vCons (vTup (vCons (vK (.str [115, 97, 121])) (vCons (vVar 1) vNil))) vNil)) (vCons (vTup (vNil)) vNil))))) vNil)))) [1, 0, 1, 1] 8) (vSeq (vApp (vTup (vCons (vK (.str [119, 104, 101, 110])) (vCons (vTup (vCons (vK (.str [110, 97, 109, 101])) (vCons (vK (.str [102])) vNil))) (vCons (vTup (vNil)) (vCons (vTup (vNil)) vNil))))) [] 8) (vSeq (vApp (vTup (vCons (vK (.str [116, 114, 121])) (vCons (vTup (vCons (vTup (vCons (vK (.str [102, 114, 111, 109])) (vCons (vK (.int 0)) (vCons (vTup (vCons (vK (.str [97])) (vCons (vK (.str [109])) vNil))) (vCons (vTup (vCons (vTup (vCons (vK (.str [120])) (vCons (vK (.str [120])) vNil))) vNil)) vNil))))) vNil)) (vCons (vTup (vCons (vTup (vCons (vK (.str [108, 101, 116])) (vCons (vK (.str [120])) (vCons (vVar 3) vNil)))) vNil)) vNil)))) [3] 8) (vSeq (vApp (vTup (vCons (vK (.str [119, 104, 101, 110])) (vCons (vVar 0) (vCons (vTup (vCons (vTup (vCons (vK (.str [117, 115, 101])) (vCons (vTup (vCons (vK (.str [109])) vNil)) (vCons (vK .non) vNil)))) vNil)) (vCons (vTup (vCons (vTup (vCons (vK (.str [108, 101, 116])) (vCons (vK (.str [120])) (vCons (vVar 3) vNil)))) vNil)) vNil))))) [0, 3] 8) (vSeq (vApp (vTup (vCons (vK (.str [98, 111, 120])) (vCons (vK (.str [120])) (vCons (vTup (vCons (vTup (vCons (vK (.str [108, 101, 116])) (vCons (vK (.str [107])) (vCons (vVar 4) vNil)))) (vCons (vTup (vCons (vK (.str [115, 97, 121])) (vCons (vTup (vCons (vK (.str [110, 97, 109, 101])) (vCons (vK (.str [107])) vNil))) vNil))) (vCons (vTup (vCons (vK (.str [108, 101, 116])) (vCons (vK (.str [121])) (vCons (vTup (vCons (vK (.str [112, 108, 117, 115])) (vCons (vTup (vCons (vK (.str [110, 97, 109, 101])) (vCons (vK (.str [107])) vNil))) (vCons (vVar 0) vNil)))) vNil)))) vNil)))) vNil)))) [4, 0] 8) (vSeq (vAsg .vl (vTup (vCons (vK (.str [100, 101, 102])) (vCons (vK (.str [103])) (vCons (vTup (vNil)) (vCons (vTup (vCons (vTup (vCons (vK (.str [117, 115, 101])) (vCons (vTup (vCons (vK (.str [109])) (vCons (vK (.str [98])) vNil))) (vCons (vK (.str [113])) vNil)))) (vCons (vTup (vCons (vK (.str [103, 105, 118, 101])) (vCons (vTup (vCons (vK (.str [100, 111, 116])) (vCons (vTup (vCons (vK (.str [110, 97, 109, 101])) (vCons (vK (.str [113])) vNil))) (vCons (vK (.str [120])) vNil)))) vNil))) vNil))) vNil))))) [] 9) (vSeq (vApp (vTup (vCons (vK (.str [100, 101, 102])) (vCons (vK (.str [102])) (vCons (vTup (vNil)) (vCons (vTup (vCons (vTup (vCons (vK (.str [108, 97, 122, 121])) (vCons (vTup (vCons (vK (.str [98])) vNil)) (vCons (vK (.str [113])) vNil)))) (vCons (vVar 9) (vCons (vTup (vCons (vK (.str [103, 105, 118, 101])) (vCons (vTup (vCons (vK (.str [100, 111, 116])) (vCons (vTup (vCons (vK (.str [110, 97, 109, 101])) (vCons (vK (.str [113])) vNil))) (vCons (vK (.str [121])) vNil)))) vNil))) vNil)))) vNil))))) [9] 8) (vSeq (vRet (vVar 8) [8]) vSkip)))))))))))))))))
theorem b__law_more_samples (hK : K = T.K) (G : Gx P w K mg base T C lv) (hr : Room lv (A.deeper (envOfC "_law_more_samples" (defScope (top 47)) s.heap.objs.size f cdv))) (hr2 : Room 2 (A.deeper (envOfC "_law_more_samples" (defScope (top 47)) s.heap.objs.size f cdv))) (hN : (n__law_more_samples).Nodup) : PSs (Xf n__law_more_samples "_law_more_samples" (top 47) P w K mg base f cdv A outer s H E) (defBody (top 47)) (tS T false (d__law_more_samples C)) :=
 (S_cons (S_asgT (e_tup (l_cons (e_tup (l_cons (e_str (s := [110, 117, 109]) rfl) (l_cons e_int l_nil rfl) rfl)) (l_cons (e_tup (l_cons (e_str (s := [110, 117, 109]) rfl) (l_cons e_int l_nil rfl) rfl)) (l_cons (e_tup (l_cons (e_str (s := [110, 97, 109, 101]) rfl) (l_cons (e_str (s := [98]) rfl) l_nil rfl) rfl)) (l_cons (e_tup (l_cons (e_str (s := [110, 97, 109, 101]) rfl) (l_cons (e_str (s := [109]) rfl) l_nil rfl) rfl)) (l_cons (e_tup (l_cons (e_str (s := [99, 97, 108, 108]) rfl) (l_cons (e_tup (l_cons (e_str (s := [110, 97, 109, 101]) rfl) (l_cons (e_str (s := [102]) rfl) l_nil rfl) rfl)) (l_cons (e_tup l_nil) l_nil rfl) rfl) rfl)) l_nil rfl) rfl) rfl) rfl) rfl)) (k_tp hK rfl (k_c hN (i := 3) rfl (k_c hN (i := 4) rfl (k_c hN (i := 5) rfl (k_c hN (i := 6) rfl (k_c hN (i := 7) rfl k_0 rfl) rfl) rfl) rfl) rfl) rfl rfl) rfl rfl rfl rfl)
 (S_cons (S_asg hN (i := 8) rfl (e_lst (l_cons (e_tup (l_cons (e_str (s := [100, 101, 102]) rfl) (l_cons (e_str (s := [102]) rfl) (l_cons (e_tup (l_cons (e_str (s := [121]) rfl) l_nil rfl)) (l_cons (e_tup (l_cons (e_tup (l_cons (e_str (s := [108, 101, 116]) rfl) (l_cons (e_str (s := [120]) rfl) (l_cons (e_tup (l_cons (e_str (s := [112, 108, 117, 115]) rfl) (l_cons (e_var (i := 1) rfl) (l_cons (e_var (i := 3) rfl) l_nil rfl) rfl) rfl)) l_nil rfl) rfl) rfl)) (l_cons (e_tup (l_cons (e_str (s := [103, 105, 118, 101]) rfl) (l_cons (e_tup (l_cons (e_str (s := [112, 108, 117, 115]) rfl) (l_cons (e_var (i := 0) rfl) (l_cons (e_var (i := 1) rfl) l_nil rfl) rfl) rfl)) l_nil rfl) rfl)) l_nil rfl) rfl)) l_nil rfl) rfl) rfl) rfl)) l_nil rfl)) (by decide) rfl rfl)
 (S_cons (S_app (i := 8) rfl (e_tup (l_cons (e_str (s := [100, 101, 102]) rfl) (l_cons (e_str (s := [102]) rfl) (l_cons (e_tup l_nil) (l_cons (e_tup (l_cons (e_tup (l_cons (e_str (s := [116, 111, 112]) rfl) (l_cons (e_tup (l_cons (e_str (s := [122]) rfl) l_nil rfl)) l_nil rfl) rfl)) (l_cons (e_tup (l_cons (e_str (s := [108, 101, 116]) rfl) (l_cons (e_str (s := [122]) rfl) (l_cons (e_var (i := 4) rfl) l_nil rfl) rfl) rfl)) (l_cons (e_tup (l_cons (e_str (s := [117, 115, 101]) rfl) (l_cons (e_tup (l_cons (e_str (s := [97]) rfl) l_nil rfl)) (l_cons (e_str (s := [109]) rfl) l_nil rfl) rfl) rfl)) (l_cons (e_tup (l_cons (e_str (s := [103, 105, 118, 101]) rfl) (l_cons (e_tup (l_cons (e_str (s := [100, 111, 116]) rfl) (l_cons (e_var (i := 6) rfl) (l_cons (e_str (s := [120]) rfl) l_nil rfl) rfl) rfl)) l_nil rfl) rfl)) l_nil rfl) rfl) rfl) rfl)) l_nil rfl) rfl) rfl) rfl)) rfl rfl rfl)
 (S_cons (S_asg hN (i := 9) rfl (e_tup (l_cons (e_str (s := [100, 101, 102]) rfl) (l_cons (e_str (s := [109]) rfl) (l_cons (e_tup l_nil) (l_cons (e_tup (l_cons (e_tup (l_cons (e_str (s := [111, 117, 116, 101, 114]) rfl) (l_cons (e_tup (l_cons (e_str (s := [121]) rfl) l_nil rfl)) l_nil rfl) rfl)) (l_cons (e_tup (l_cons (e_str (s := [108, 101, 116]) rfl) (l_cons (e_str (s := [121]) rfl) (l_cons (e_tup (l_cons (e_str (s := [112, 108, 117, 115]) rfl) (l_cons (e_var (i := 0) rfl) (l_cons (e_var (i := 1) rfl) l_nil rfl) rfl) rfl)) l_nil rfl) rfl) rfl)) (l_cons (e_tup (l_cons (e_str (s := [103, 105, 118, 101]) rfl) (l_cons (e_var (i := 1) rfl) l_nil rfl) rfl)) l_nil rfl) rfl) rfl)) l_nil rfl) rfl) rfl) rfl)) (by decide) rfl rfl)
 (S_cons (S_app (i := 8) rfl (e_tup (l_cons (e_str (s := [100, 101, 102]) rfl) (l_cons (e_str (s := [102]) rfl) (l_cons (e_tup (l_cons (e_str (s := [120]) rfl) l_nil rfl)) (l_cons (e_tup (l_cons (e_tup (l_cons (e_str (s := [108, 101, 116]) rfl) (l_cons (e_str (s := [121]) rfl) (l_cons (e_var (i := 3) rfl) l_nil rfl) rfl) rfl)) (l_cons (e_var (i := 9) rfl) (l_cons (e_tup (l_cons (e_str (s := [115, 97, 121]) rfl) (l_cons (e_tup (l_cons (e_str (s := [99, 97, 108, 108]) rfl) (l_cons (e_var (i := 6) rfl) (l_cons (e_tup l_nil) l_nil rfl) rfl) rfl)) l_nil rfl) rfl)) (l_cons (e_tup (l_cons (e_str (s := [103, 105, 118, 101]) rfl) (l_cons (e_var (i := 1) rfl) l_nil rfl) rfl)) l_nil rfl) rfl) rfl) rfl)) l_nil rfl) rfl) rfl) rfl)) rfl rfl rfl)
 (S_cons (S_app (i := 8) rfl (e_tup (l_cons (e_str (s := [100, 101, 102]) rfl) (l_cons (e_str (s := [102]) rfl) (l_cons (e_tup l_nil) (l_cons (e_tup (l_cons (e_tup (l_cons (e_str (s := [102, 114, 111, 109]) rfl) (l_cons e_int (l_cons (e_tup (l_cons (e_str (s := [98]) rfl) l_nil rfl)) (l_cons (e_tup (l_cons (e_tup (l_cons (e_str (s := [120]) rfl) (l_cons (e_str (s := [120]) rfl) l_nil rfl) rfl)) l_nil rfl)) l_nil rfl) rfl) rfl) rfl)) (l_cons (e_tup (l_cons (e_str (s := [103, 105, 118, 101]) rfl) (l_cons (e_var (i := 7) rfl) l_nil rfl) rfl)) l_nil rfl) rfl)) l_nil rfl) rfl) rfl) rfl)) rfl rfl rfl)
 (S_cons (S_app (i := 8) rfl (e_tup (l_cons (e_str (s := [100, 101, 102]) rfl) (l_cons (e_str (s := [102]) rfl) (l_cons (e_tup l_nil) (l_cons (e_tup (l_cons (e_tup (l_cons (e_str (s := [115, 97, 121]) rfl) (l_cons (e_var (i := 2) rfl) l_nil rfl) rfl)) (l_cons (e_tup (l_cons (e_str (s := [100, 114, 111, 112]) rfl) (l_cons (e_str (s := [122]) rfl) l_nil rfl) rfl)) l_nil rfl) rfl)) l_nil rfl) rfl) rfl) rfl)) rfl rfl rfl)
 (S_cons (S_app (i := 8) rfl (e_tup (l_cons (e_str (s := [98, 111, 120]) rfl) (l_cons (e_str (s := [122]) rfl) (l_cons (e_tup (l_cons (e_tup (l_cons (e_str (s := [108, 101, 116]) rfl) (l_cons (e_str (s := [121]) rfl) (l_cons (e_var (i := 0) rfl) l_nil rfl) rfl) rfl)) (l_cons (e_tup (l_cons (e_str (s := [100, 101, 102]) rfl) (l_cons (e_str (s := [102]) rfl) (l_cons (e_tup l_nil) (l_cons (e_tup (l_cons (e_tup (l_cons (e_str (s := [103, 105, 118, 101]) rfl) (l_cons (e_var (i := 1) rfl) l_nil rfl) rfl)) l_nil rfl)) l_nil rfl) rfl) rfl) rfl)) (l_cons (e_tup (l_cons (e_str (s := [108, 101, 116]) rfl) (l_cons (e_str (s := [120]) rfl) (l_cons (e_var (i := 4) rfl) l_nil rfl) rfl) rfl)) l_nil rfl) rfl) rfl)) l_nil rfl) rfl) rfl)) rfl rfl rfl)
 (S_cons (S_app (i := 8) rfl (e_tup (l_cons (e_str (s := [98, 111, 120]) rfl) (l_cons (e_str (s := [120]) rfl) (l_cons (e_tup (l_cons (e_tup (l_cons (e_str (s := [115, 97, 121]) rfl) (l_cons (e_var (i := 0) rfl) l_nil rfl) rfl)) (l_cons (e_tup (l_cons (e_str (s := [108, 101, 116]) rfl) (l_cons (e_str (s := [120]) rfl) (l_cons (e_var (i := 3) rfl) l_nil rfl) rfl) rfl)) (l_cons (e_tup (l_cons (e_str (s := [98, 111, 120]) rfl) (l_cons (e_str (s := [121]) rfl) (l_cons (e_tup (l_cons (e_tup (l_cons (e_str (s := [108, 101, 116]) rfl) (l_cons (e_str (s := [122]) rfl) (l_cons (e_var (i := 0) rfl) l_nil rfl) rfl) rfl)) l_nil rfl)) l_nil rfl) rfl) rfl)) (l_cons (e_tup (l_cons (e_str (s := [117, 115, 101]) rfl) (l_cons (e_tup (l_cons (e_str (s := [109]) rfl) l_nil rfl)) (l_cons e_non l_nil rfl) rfl) rfl)) l_nil rfl) rfl) rfl) rfl)) l_nil rfl) rfl) rfl)) rfl rfl rfl)
 (S_cons (S_app (i := 8) rfl (e_tup (l_cons (e_str (s := [116, 114, 121]) rfl) (l_cons (e_tup (l_cons (e_tup (l_cons (e_str (s := [117, 115, 101]) rfl) (l_cons (e_tup (l_cons (e_str (s := [98]) rfl) l_nil rfl)) (l_cons e_non l_nil rfl) rfl) rfl)) (l_cons (e_tup (l_cons (e_str (s := [115, 97, 121]) rfl) (l_cons (e_tup (l_cons (e_str (s := [100, 111, 116]) rfl) (l_cons (e_var (i := 5) rfl) (l_cons (e_str (s := [120]) rfl) l_nil rfl) rfl) rfl)) l_nil rfl) rfl)) l_nil rfl) rfl)) (l_cons (e_tup (l_cons (e_tup (l_cons (e_str (s := [115, 97, 121]) rfl) (l_cons (e_var (i := 4) rfl) l_nil rfl) rfl)) l_nil rfl)) l_nil rfl) rfl) rfl)) rfl rfl rfl)
 (S_cons (S_asg hN (i := 8) rfl (e_cat (e_pk (i := 8) rfl) (pf (e_lst (l_cons (e_tup (l_cons (e_str (s := [116, 114, 121]) rfl) (l_cons (e_tup (l_cons (e_tup (l_cons (e_str (s := [115, 97, 121]) rfl) (l_cons (e_var (i := 1) rfl) l_nil rfl) rfl)) l_nil rfl)) (l_cons (e_tup l_nil) l_nil rfl) rfl) rfl)) (l_cons (e_tup (l_cons (e_str (s := [119, 104, 101, 110]) rfl) (l_cons (e_tup (l_cons (e_str (s := [108, 101, 115, 115]) rfl) (l_cons (e_var (i := 0) rfl) (l_cons (e_var (i := 1) rfl) l_nil rfl) rfl) rfl)) (l_cons (e_tup (l_cons (e_tup (l_cons (e_str (s := [115, 97, 121]) rfl) (l_cons (e_var (i := 1) rfl) l_nil rfl) rfl)) l_nil rfl)) (l_cons (e_tup l_nil) l_nil rfl) rfl) rfl) rfl)) l_nil rfl) rfl)))) (by decide) rfl rfl)
 (S_cons (S_app (i := 8) rfl (e_tup (l_cons (e_str (s := [119, 104, 101, 110]) rfl) (l_cons (e_tup (l_cons (e_str (s := [110, 97, 109, 101]) rfl) (l_cons (e_str (s := [102]) rfl) l_nil rfl) rfl)) (l_cons (e_tup l_nil) (l_cons (e_tup l_nil) l_nil rfl) rfl) rfl) rfl)) rfl rfl rfl)
 (S_cons (S_app (i := 8) rfl (e_tup (l_cons (e_str (s := [116, 114, 121]) rfl) (l_cons (e_tup (l_cons (e_tup (l_cons (e_str (s := [102, 114, 111, 109]) rfl) (l_cons e_int (l_cons (e_tup (l_cons (e_str (s := [97]) rfl) (l_cons (e_str (s := [109]) rfl) l_nil rfl) rfl)) (l_cons (e_tup (l_cons (e_tup (l_cons (e_str (s := [120]) rfl) (l_cons (e_str (s := [120]) rfl) l_nil rfl) rfl)) l_nil rfl)) l_nil rfl) rfl) rfl) rfl)) l_nil rfl)) (l_cons (e_tup (l_cons (e_tup (l_cons (e_str (s := [108, 101, 116]) rfl) (l_cons (e_str (s := [120]) rfl) (l_cons (e_var (i := 3) rfl) l_nil rfl) rfl) rfl)) l_nil rfl)) l_nil rfl) rfl) rfl)) rfl rfl rfl)
 (S_cons (S_app (i := 8) rfl (e_tup (l_cons (e_str (s := [119, 104, 101, 110]) rfl) (l_cons (e_var (i := 0) rfl) (l_cons (e_tup (l_cons (e_tup (l_cons (e_str (s := [117, 115, 101]) rfl) (l_cons (e_tup (l_cons (e_str (s := [109]) rfl) l_nil rfl)) (l_cons e_non l_nil rfl) rfl) rfl)) l_nil rfl)) (l_cons (e_tup (l_cons (e_tup (l_cons (e_str (s := [108, 101, 116]) rfl) (l_cons (e_str (s := [120]) rfl) (l_cons (e_var (i := 3) rfl) l_nil rfl) rfl) rfl)) l_nil rfl)) l_nil rfl) rfl) rfl) rfl)) rfl rfl rfl)
 (S_cons (S_app (i := 8) rfl (e_tup (l_cons (e_str (s := [98, 111, 120]) rfl) (l_cons (e_str (s := [120]) rfl) (l_cons (e_tup (l_cons (e_tup (l_cons (e_str (s := [108, 101, 116]) rfl) (l_cons (e_str (s := [107]) rfl) (l_cons (e_var (i := 4) rfl) l_nil rfl) rfl) rfl)) (l_cons (e_tup (l_cons (e_str (s := [115, 97, 121]) rfl) (l_cons (e_tup (l_cons (e_str (s := [110, 97, 109, 101]) rfl) (l_cons (e_str (s := [107]) rfl) l_nil rfl) rfl)) l_nil rfl) rfl)) (l_cons (e_tup (l_cons (e_str (s := [108, 101, 116]) rfl) (l_cons (e_str (s := [121]) rfl) (l_cons (e_tup (l_cons (e_str (s := [112, 108, 117, 115]) rfl) (l_cons (e_tup (l_cons (e_str (s := [110, 97, 109, 101]) rfl) (l_cons (e_str (s := [107]) rfl) l_nil rfl) rfl)) (l_cons (e_var (i := 0) rfl) l_nil rfl) rfl) rfl)) l_nil rfl) rfl) rfl)) l_nil rfl) rfl) rfl)) l_nil rfl) rfl) rfl)) rfl rfl rfl)
 (S_cons (S_asg hN (i := 9) rfl (e_tup (l_cons (e_str (s := [100, 101, 102]) rfl) (l_cons (e_str (s := [103]) rfl) (l_cons (e_tup l_nil) (l_cons (e_tup (l_cons (e_tup (l_cons (e_str (s := [117, 115, 101]) rfl) (l_cons (e_tup (l_cons (e_str (s := [109]) rfl) (l_cons (e_str (s := [98]) rfl) l_nil rfl) rfl)) (l_cons (e_str (s := [113]) rfl) l_nil rfl) rfl) rfl)) (l_cons (e_tup (l_cons (e_str (s := [103, 105, 118, 101]) rfl) (l_cons (e_tup (l_cons (e_str (s := [100, 111, 116]) rfl) (l_cons (e_tup (l_cons (e_str (s := [110, 97, 109, 101]) rfl) (l_cons (e_str (s := [113]) rfl) l_nil rfl) rfl)) (l_cons (e_str (s := [120]) rfl) l_nil rfl) rfl) rfl)) l_nil rfl) rfl)) l_nil rfl) rfl)) l_nil rfl) rfl) rfl) rfl)) (by decide) rfl rfl)
 (S_cons (S_app (i := 8) rfl (e_tup (l_cons (e_str (s := [100, 101, 102]) rfl) (l_cons (e_str (s := [102]) rfl) (l_cons (e_tup l_nil) (l_cons (e_tup (l_cons (e_tup (l_cons (e_str (s := [108, 97, 122, 121]) rfl) (l_cons (e_tup (l_cons (e_str (s := [98]) rfl) l_nil rfl)) (l_cons (e_str (s := [113]) rfl) l_nil rfl) rfl) rfl)) (l_cons (e_var (i := 9) rfl) (l_cons (e_tup (l_cons (e_str (s := [103, 105, 118, 101]) rfl) (l_cons (e_tup (l_cons (e_str (s := [100, 111, 116]) rfl) (l_cons (e_tup (l_cons (e_str (s := [110, 97, 109, 101]) rfl) (l_cons (e_str (s := [113]) rfl) l_nil rfl) rfl)) (l_cons (e_str (s := [121]) rfl) l_nil rfl) rfl) rfl)) l_nil rfl) rfl)) l_nil rfl) rfl) rfl)) l_nil rfl) rfl) rfl) rfl)) rfl rfl rfl)
 (S_cons (S_ret (e_var (i := 8) rfl) rfl)
 S_nil))))))))))))))))))
def n__law_rows : List Str := ["_law_script", "_law_at", "_law_samples_here", "_law_number", "_law_rows_here", "_law_name", "_law_spin"]
def d__law_rows_f1 (C : Nat → List D → Option D) : PD.Env → Option Out := vSeq (vApp (v2 dIdx (vVar 2) (v2 (bopd .mod) (vCall C 29 (vCons (vVar 0) (vCons (v2 (bopd .add) (v2 (bopd .add) (vVar 1) (vK (.int 1))) (vVar 6)) vNil))) (v1 dLen (vVar 2)))) [0] 4) vSkip
def d__law_rows (C : Nat → List D → Option D) : PD.Env → Option Out := vSeq (vPar .vl (vCall C 29 (vCons (vVar 0) (vCons (vVar 1) vNil))) .fr (vLst (vNil)) [0, 1] 3 4) (vSeq (vIfS (v2 (cmpd .eq) (v2 (bopd .mod) (vVar 3) (vK (.int 7))) (vK (.int 0))) [] (vSeq (vApp (vTup (vCons (vK (.str [115, 104, 111, 119])) (vCons (v2 dIdx (vTup (vCons (vTup (vCons (vK (.str [120])) vNil)) (vCons (vTup (vCons (vK (.str [120])) (vCons (vK (.str [121])) vNil))) (vCons (vTup (vCons (vK (.str [98])) (vCons (vK (.str [120])) vNil))) vNil)))) (v2 (bopd .mod) (v2 (bopd .fdiv) (vVar 3) (vK (.int 7))) (vK (.int 3)))) vNil))) [] 4) vSkip) (vSkip)) (vSeq (vIfS (v2 (cmpd .eq) (v2 (bopd .mod) (vVar 3) (vK (.int 5))) (vK (.int 0))) [] (vSeq (vApp (vTup (vCons (vK (.str [104, 105, 100, 101])) (vCons (v2 dIdx (vTup (vCons (vTup (vCons (vK (.str [122])) vNil)) (vCons (vTup (vCons (vK (.str [102])) (vCons (vK (.str [122])) vNil))) vNil))) (v2 (bopd .mod) (v2 (bopd .fdiv) (vVar 3) (vK (.int 5))) (vK (.int 2)))) vNil))) [] 4) vSkip) (vSkip)) (vSeq (vIfS (v2 (cmpd .gt) (v2 (bopd .mod) (v2 (bopd .fdiv) (vVar 3) (vK (.int 140))) (vK (.int 4))) (vK (.int 0))) [] (vSeq (vAsg .fr (v2 dCat (vVar 4) (vLc (vIt (vTup (vCons (vK (.str [120])) (vCons (vK (.str [121])) (vCons (vK (.str [122])) vNil))))) (.nm 5) [5] (vT0) (vTup (vCons (vK (.str [108, 101, 116])) (vCons (vVar 5) (vCons (vTup (vCons (vK (.str [110, 117, 109])) (vCons (v2 (bopd .mod) (v2 (bopd .fdiv) (vVar 3) (vK (.int 560))) (vK (.int 50))) vNil))) vNil)))))) [] 4) (vSeq (vApp (vTup (vCons (vK (.str [100, 101, 102])) (vCons (vK (.str [102])) (vCons (vTup (vNil)) (vCons (vTup (vCons (vTup (vCons (vK (.str [103, 105, 118, 101])) (vCons (vTup (vCons (vK (.str [110, 97, 109, 101])) (vCons (vK (.str [120])) vNil))) vNil))) vNil)) vNil))))) [] 4) vSkip)) (vSkip)) (vSeq (vFor (vIr1 (v2 (bopd .add) (vK (.int 1)) (v2 (bopd .mod) (v2 (bopd .fdiv) (vVar 3) (vK (.int 35))) (vK (.int 4))))) [] (.nm 6) (d__law_rows_f1 C)) (vSeq (vRet (v1 dToT (vVar 4)) []) vSkip)))))
theorem b__law_rows (hK : K = T.K) (G : Gx P w K mg base T C lv) (hr : Room lv (A.deeper (envOfC "_law_rows" (defScope (top 48)) s.heap.objs.size f cdv))) (hr2 : Room 2 (A.deeper (envOfC "_law_rows" (defScope (top 48)) s.heap.objs.size f cdv))) (hN : (n__law_rows).Nodup) : PSs (Xf n__law_rows "_law_rows" (top 48) P w K mg base f cdv A outer s H E) (defBody (top 48)) (tS T false (d__law_rows C)) :=
 (S_cons (S_parO (by decide) (by decide) rfl hN (i := 3) (j := 4) rfl rfl (e_call G.f__law_cell_at hr rfl (l_cons (e_var (i := 0) rfl) (l_cons (e_var (i := 1) rfl) l_nil rfl) rfl) rfl rfl rfl) (e_lst l_nil) rfl rfl rfl rfl rfl rfl rfl rfl rfl rfl)
 (S_cons (S_if (t_eq (pv (e_mod (e_pk (i := 3) rfl) (pv e_int))) (pv e_int) hK hr.units rfl) (S_cons (S_app (i := 4) rfl (e_tup (l_cons (e_str (s := [115, 104, 111, 119]) rfl) (l_cons (e_idx (pv (e_tup (l_cons (e_tup (l_cons (e_str (s := [120]) rfl) l_nil rfl)) (l_cons (e_tup (l_cons (e_str (s := [120]) rfl) (l_cons (e_str (s := [121]) rfl) l_nil rfl) rfl)) (l_cons (e_tup (l_cons (e_str (s := [98]) rfl) (l_cons (e_str (s := [120]) rfl) l_nil rfl) rfl)) l_nil rfl) rfl) rfl))) (pv (e_mod (pv (e_fdiv (e_pk (i := 3) rfl) (pv e_int))) (pv e_int))) hK (fun _ _ => rfl)) l_nil rfl) rfl)) rfl rfl rfl)
 S_nil) S_nil rfl)
 (S_cons (S_if (t_eq (pv (e_mod (e_pk (i := 3) rfl) (pv e_int))) (pv e_int) hK hr.units rfl) (S_cons (S_app (i := 4) rfl (e_tup (l_cons (e_str (s := [104, 105, 100, 101]) rfl) (l_cons (e_idx (pv (e_tup (l_cons (e_tup (l_cons (e_str (s := [122]) rfl) l_nil rfl)) (l_cons (e_tup (l_cons (e_str (s := [102]) rfl) (l_cons (e_str (s := [122]) rfl) l_nil rfl) rfl)) l_nil rfl) rfl))) (pv (e_mod (pv (e_fdiv (e_pk (i := 3) rfl) (pv e_int))) (pv e_int))) hK (fun _ _ => rfl)) l_nil rfl) rfl)) rfl rfl rfl)
 S_nil) S_nil rfl)
 (S_cons (S_if (t_gt (pv (e_mod (pv (e_fdiv (e_pk (i := 3) rfl) (pv e_int))) (pv e_int))) (pv e_int) rfl) (S_cons (S_asg hN (i := 4) rfl (e_cat (e_pk (i := 4) rfl) (pf (x_lc [("_law_name", 5)] rfl hN (ij (j_t hK (e_tup (l_cons (e_str (s := [120]) rfl) (l_cons (e_str (s := [121]) rfl) (l_cons (e_str (s := [122]) rfl) l_nil rfl) rfl) rfl)))) rfl (by decide) (fun _ _ _ _ _ => (k_nm hN (i := 5) rfl)) (fun _ _ _ _ _ => b_0) (fun _ _ _ _ _ => (e_tup (l_cons (e_str (s := [108, 101, 116]) rfl) (l_cons (e_var (i := 5) rfl) (l_cons (e_tup (l_cons (e_str (s := [110, 117, 109]) rfl) (l_cons (e_mod (pv (e_fdiv (e_pk (i := 3) rfl) (pv e_int))) (pv e_int)) l_nil rfl) rfl)) l_nil rfl) rfl) rfl))) (fun _ => rfl)))) (by decide) rfl rfl)
 (S_cons (S_app (i := 4) rfl (e_tup (l_cons (e_str (s := [100, 101, 102]) rfl) (l_cons (e_str (s := [102]) rfl) (l_cons (e_tup l_nil) (l_cons (e_tup (l_cons (e_tup (l_cons (e_str (s := [103, 105, 118, 101]) rfl) (l_cons (e_tup (l_cons (e_str (s := [110, 97, 109, 101]) rfl) (l_cons (e_str (s := [120]) rfl) l_nil rfl) rfl)) l_nil rfl) rfl)) l_nil rfl)) l_nil rfl) rfl) rfl) rfl)) rfl rfl rfl)
 S_nil)) S_nil rfl)
 (S_cons (S_for PassesOwn.never rfl (j_r1 (e_add (pv e_int) (pv (e_mod (pv (e_fdiv (e_pk (i := 3) rfl) (pv e_int))) (pv e_int)))) rfl G.b_range rfl) (k_nm hN (i := 6) rfl) (S_cons (S_app (i := 4) rfl (e_idx (e_pk (i := 2) rfl) (pv (e_mod (pv (e_call G.f__law_cell_at hr rfl (l_cons (e_var (i := 0) rfl) (l_cons (e_add (pv (e_add (e_pk (i := 1) rfl) (pv e_int))) (e_pk (i := 6) rfl)) l_nil rfl) rfl) rfl rfl rfl)) (pv (e_len hK (e_pk (i := 2) rfl) rfl rfl G.b_len)))) hK (fun _ _ => rfl)) rfl rfl rfl)
 S_nil) (fun _ => rfl) rfl)
 (S_cons (S_ret (e_toT hK (e_pk (i := 4) rfl) rfl rfl G.b_tuple) rfl)
 S_nil))))))
def n__law_named : List Str := ["_law_row", "_law_word", "_law_pair", "_law_spots"]
def d__law_named (C : Nat → List D → Option D) : PD.Env → Option Out := vSeq (vAsg .vl (v2 dIdx (vVar 0) (vK (.int 0))) [] 1) (vSeq (vIfS (v2 (cmpd .eq) (vVar 1) (vK (.str [102, 114, 111, 109]))) [] (vSeq (vRet (vIf (v2 (cmpd .eq) (v2 dIdx (vVar 0) (vK (.int 3))) (vK (.str [42]))) (vLst (vNil)) (vLc (vIt (v2 dIdx (vVar 0) (vK (.int 3)))) (.nm 2) [2] (vT0) (v2 dIdx (vVar 2) (vK (.int 1))))) []) vSkip) (vSkip)) (vSeq (vIfS (vAnd (v2 (cmpd .eq) (vVar 1) (vK (.str [117, 115, 101]))) (v1 dIsN (v2 dIdx (vVar 0) (vK (.int 2))))) [] (vSeq (vRet (vLst (vCons (v2 dIdx (v2 dIdx (vVar 0) (vK (.int 1))) (vK (.int 0))) vNil)) []) vSkip) (vSkip)) (vSeq (vAsg .fr (vDct [[108, 101, 116], [100, 114, 111, 112], [100, 101, 102], [98, 111, 120], [117, 115, 101], [108, 97, 122, 121], [102, 97, 114]] [(vK (.int 1), []), (vK (.int 1), []), (vK (.int 1), []), (vK (.int 1), []), (vK (.int 2), []), (vK (.int 2), []), (vK (.int 4), [])]) [] 3) (vSeq (vRet (vIf (v2 (cmpd .isIn) (vVar 1) (vVar 3)) (vLst (vCons (v2 dIdx (vVar 0) (v2 dDix (vVar 3) (vVar 1))) vNil)) (vLst (vNil))) []) vSkip))))
theorem b__law_named (hK : K = T.K) (G : Gx P w K mg base T C lv) (hr : Room lv (A.deeper (envOfC "_law_named" (defScope (top 49)) s.heap.objs.size f cdv))) (hr2 : Room 2 (A.deeper (envOfC "_law_named" (defScope (top 49)) s.heap.objs.size f cdv))) (hN : (n__law_named).Nodup) : PSs (Xf n__law_named "_law_named" (top 49) P w K mg base f cdv A outer s H E) (defBody (top 49)) (tS T false (d__law_named C)) :=
 (S_cons (S_asg hN (i := 1) rfl (e_idx (e_pk (i := 0) rfl) (pv e_int) hK (fun _ _ => rfl)) (by decide) rfl rfl)
 (S_cons (S_if (t_eq (e_pk (i := 1) rfl) (pv (e_str (s := [102, 114, 111, 109]) rfl)) hK hr.units rfl) (S_cons (S_ret (e_if (t_eq (pv (e_idx (e_pk (i := 0) rfl) (pv e_int) hK (fun _ _ => rfl))) (pv (e_str (s := [42]) rfl)) hK hr.units rfl) (vf (e_lst l_nil)) (vf (x_lc [("_law_pair", 2)] rfl hN (ij (j_t hK (e_idx (e_pk (i := 0) rfl) (pv e_int) hK (fun _ _ => rfl)))) rfl (by decide) (fun _ _ _ _ _ => (k_nm hN (i := 2) rfl)) (fun _ _ _ _ _ => b_0) (fun _ _ _ _ _ => (e_idx (e_pk (i := 2) rfl) (pv e_int) hK (fun _ _ => rfl))) (fun _ => rfl)))) rfl)
 S_nil) S_nil rfl)
 (S_cons (S_if (t_bool (w_and (t_eq (e_pk (i := 1) rfl) (pv (e_str (s := [117, 115, 101]) rfl)) hK hr.units rfl) (w_one (t_isN (pv (e_idx (e_pk (i := 0) rfl) (pv e_int) hK (fun _ _ => rfl))))))) (S_cons (S_ret (vf (e_lst (l_cons (e_idx (pv (e_idx (e_pk (i := 0) rfl) (pv e_int) hK (fun _ _ => rfl))) (pv e_int) hK (fun _ _ => rfl)) l_nil rfl))) rfl)
 S_nil) S_nil rfl)
 (S_cons (S_asg hN (i := 3) rfl (e_dct (q_cons (s := [108, 101, 116]) rfl e_int (q_cons (s := [100, 114, 111, 112]) rfl e_int (q_cons (s := [100, 101, 102]) rfl e_int (q_cons (s := [98, 111, 120]) rfl e_int (q_cons (s := [117, 115, 101]) rfl e_int (q_cons (s := [108, 97, 122, 121]) rfl e_int (q_cons (s := [102, 97, 114]) rfl e_int q_nil))))))) rfl rfl (by simp) (by decide)) (by decide) rfl rfl)
 (S_cons (S_ret (e_if (t_in (e_pk (i := 1) rfl) (e_pk (i := 3) rfl) hK (u1 hr) rfl) (vf (e_lst (l_cons (e_idx (e_pk (i := 0) rfl) (pv (e_dix (e_pk (i := 3) rfl) (e_pk (i := 1) rfl) (u1 hr) (fun _ _ => rfl))) hK (fun _ _ => rfl)) l_nil rfl))) (vf (e_lst l_nil))) rfl)
 S_nil)))))
def n__law_flat : List Str := ["_law_rows_here", "_law_found", "_law_row"]
def d__law_flat_f1 (C : Nat → List D → Option D) : PD.Env → Option Out := vSeq (vApp (vVar 2) [2] 1) (vSeq (vIfS (v2 (cmpd .isIn) (v2 dIdx (vVar 2) (vK (.int 0))) (vTup (vCons (vK (.str [119, 104, 101, 110])) (vCons (vK (.str [116, 114, 121])) vNil)))) [] (vSeq (vAsg .fr (v2 dCat (v2 dCat (vVar 1) (vCall C 34 (vCons (v2 dIdx (vVar 2) (v1 dNeg (vK (.int 2)))) vNil))) (vCall C 34 (vCons (v2 dIdx (vVar 2) (v1 dNeg (vK (.int 1)))) vNil))) [] 1) vSkip) (vSkip)) vSkip)
def d__law_flat (C : Nat → List D → Option D) : PD.Env → Option Out := vSeq (vAsg .fr (vLst (vNil)) [] 1) (vSeq (vFor (vIt (vVar 0)) [0] (.nm 2) (d__law_flat_f1 C)) (vSeq (vRet (vVar 1) [1]) vSkip))
theorem b__law_flat (hK : K = T.K) (G : Gx P w K mg base T C lv) (hr : Room lv (A.deeper (envOfC "_law_flat" (defScope (top 50)) s.heap.objs.size f cdv))) (hr2 : Room 2 (A.deeper (envOfC "_law_flat" (defScope (top 50)) s.heap.objs.size f cdv))) (hN : (n__law_flat).Nodup) : PSs (Xf n__law_flat "_law_flat" (top 50) P w K mg base f cdv A outer s H E) (defBody (top 50)) (tS T false (d__law_flat C)) :=
 (S_cons (S_asg hN (i := 1) rfl (e_lst l_nil) (by decide) rfl rfl)
 (S_cons (S_for PassesOwn.never rfl (j_t hK (e_var (i := 0) rfl)) (k_nm hN (i := 2) rfl) (S_cons (S_app (i := 1) rfl (e_var (i := 2) rfl) rfl rfl rfl)
 (S_cons (S_if (t_in (pv (e_idx (e_pk (i := 2) rfl) (pv e_int) hK (fun _ _ => rfl))) (pv (e_tup (l_cons (e_str (s := [119, 104, 101, 110]) rfl) (l_cons (e_str (s := [116, 114, 121]) rfl) l_nil rfl) rfl))) hK (u1 hr) rfl) (S_cons (S_asg hN (i := 1) rfl (e_cat (pf (e_cat (e_pk (i := 1) rfl) (pv (e_call G.f__law_flat hr rfl (l_cons (e_idx (e_pk (i := 2) rfl) (pv (e_neg (pv e_int))) hK (fun _ _ => rfl)) l_nil rfl) rfl rfl rfl)))) (pv (e_call G.f__law_flat hr rfl (l_cons (e_idx (e_pk (i := 2) rfl) (pv (e_neg (pv e_int))) hK (fun _ _ => rfl)) l_nil rfl) rfl rfl rfl))) (by decide) rfl rfl)
 S_nil) S_nil rfl)
 S_nil)) (fun _ => rfl) rfl)
 (S_cons (S_ret (e_var (i := 1) rfl) rfl)
 S_nil)))
def n__law_telling : List Str := ["_law_rows_here", "_law_word", "_law_found", "_law_row"]
def d__law_telling_f1 (C : Nat → List D → Option D) : PD.Env → Option Out := vSeq (vIfS (v2 (cmpd .eq) (v2 dIdx (vVar 3) (vK (.int 0))) (vVar 1)) [] (vSeq (vAsg .fr (v2 dCat (vVar 2) (v1 dToL (v2 dIdx (vVar 3) (vK (.int 1))))) [] 2) vSkip) (vSkip)) vSkip
def d__law_telling (C : Nat → List D → Option D) : PD.Env → Option Out := vSeq (vAsg .fr (vLst (vNil)) [] 2) (vSeq (vFor (vIl (vCall C 34 (vCons (vVar 0) vNil))) [0] (.nm 3) (d__law_telling_f1 C)) (vSeq (vRet (vVar 2) [2]) vSkip))
theorem b__law_telling (hK : K = T.K) (G : Gx P w K mg base T C lv) (hr : Room lv (A.deeper (envOfC "_law_telling" (defScope (top 51)) s.heap.objs.size f cdv))) (hr2 : Room 2 (A.deeper (envOfC "_law_telling" (defScope (top 51)) s.heap.objs.size f cdv))) (hN : (n__law_telling).Nodup) : PSs (Xf n__law_telling "_law_telling" (top 51) P w K mg base f cdv A outer s H E) (defBody (top 51)) (tS T false (d__law_telling C)) :=
 (S_cons (S_asg hN (i := 2) rfl (e_lst l_nil) (by decide) rfl rfl)
 (S_cons (S_for PassesOwn.never rfl (j_l hK (e_call G.f__law_flat hr rfl (l_cons (e_var (i := 0) rfl) l_nil rfl) rfl rfl rfl)) (k_nm hN (i := 3) rfl) (S_cons (S_if (t_eq (pv (e_idx (e_pk (i := 3) rfl) (pv e_int) hK (fun _ _ => rfl))) (e_pk (i := 1) rfl) hK hr.units rfl) (S_cons (S_asg hN (i := 2) rfl (e_cat (e_pk (i := 2) rfl) (pf (e_toL hK (pv (e_idx (e_pk (i := 3) rfl) (pv e_int) hK (fun _ _ => rfl))) rfl rfl G.b_list))) (by decide) rfl rfl)
 S_nil) S_nil rfl)
 S_nil) (fun _ => rfl) rfl)
 (S_cons (S_ret (e_var (i := 2) rfl) rfl)
 S_nil)))
def n__law_binds : List Str := ["_law_rows_here", "_law_tops", "_law_found", "_law_row", "_law_name"]
def d__law_binds_f1 (C : Nat → List D → Option D) : PD.Env → Option Out := vSeq (vAsg .fr (v2 dCat (vVar 2) (vLc (vIl (vCall C 33 (vCons (vVar 3) vNil))) (.nm 4) [4] (vT1 (vOr (v1 dIsN (vVar 1)) (v2 (cmpd .isIn) (vVar 4) (vVar 1)))) (vTup (vCons (vVar 4) (vCons (v2 dIdx (vVar 3) (vK (.int 0))) vNil))))) [3] 2) (vSeq (vIfS (v2 (cmpd .eq) (v2 dIdx (vVar 3) (vK (.int 0))) (vK (.str [100, 101, 102]))) [] (vSeq (vAsg .fr (v2 dCat (vVar 2) (vCall C 36 (vCons (v2 dIdx (vVar 3) (vK (.int 3))) (vCons (vCall C 35 (vCons (v2 dIdx (vVar 3) (vK (.int 3))) (vCons (vK (.str [116, 111, 112])) vNil))) vNil)))) [] 2) vSkip) (vSeq (vIfS (v2 (cmpd .eq) (v2 dIdx (vVar 3) (vK (.int 0))) (vK (.str [98, 111, 120]))) [] (vSeq (vAsg .fr (v2 dCat (vVar 2) (vCall C 36 (vCons (v2 dIdx (vVar 3) (vK (.int 2))) (vCons (vLst (vNil)) vNil)))) [] 2) vSkip) (vSkip)) vSkip)) vSkip)
def d__law_binds (C : Nat → List D → Option D) : PD.Env → Option Out := vSeq (vAsg .fr (vLst (vNil)) [] 2) (vSeq (vFor (vIl (vCall C 34 (vCons (vVar 0) vNil))) [0] (.nm 3) (d__law_binds_f1 C)) (vSeq (vRet (vVar 2) [2]) vSkip))
theorem b__law_binds (hK : K = T.K) (G : Gx P w K mg base T C lv) (hr : Room lv (A.deeper (envOfC "_law_binds" (defScope (top 52)) s.heap.objs.size f cdv))) (hr2 : Room 2 (A.deeper (envOfC "_law_binds" (defScope (top 52)) s.heap.objs.size f cdv))) (hN : (n__law_binds).Nodup) : PSs (Xf n__law_binds "_law_binds" (top 52) P w K mg base f cdv A outer s H E) (defBody (top 52)) (tS T false (d__law_binds C)) :=
 (S_cons (S_asg hN (i := 2) rfl (e_lst l_nil) (by decide) rfl rfl)
 (S_cons (S_for PassesOwn.never rfl (j_l hK (e_call G.f__law_flat hr rfl (l_cons (e_var (i := 0) rfl) l_nil rfl) rfl rfl rfl)) (k_nm hN (i := 3) rfl) (S_cons (S_asg hN (i := 2) rfl (e_cat (e_pk (i := 2) rfl) (pf (x_lc [("_law_name", 4)] rfl hN (ij (j_l hK (e_call G.f__law_named hr rfl (l_cons (e_var (i := 3) rfl) l_nil rfl) rfl rfl rfl))) rfl (by decide) (fun _ _ _ _ _ => (k_nm hN (i := 4) rfl)) (fun _ _ _ _ _ => (b_1 (t_bool (w_or (t_isN (e_pk (i := 1) rfl)) (w_one (t_in (e_pk (i := 4) rfl) (e_pk (i := 1) rfl) hK (u1 hr) rfl)))))) (fun _ _ _ _ _ => (e_tup (l_cons (e_var (i := 4) rfl) (l_cons (e_idx (e_pk (i := 3) rfl) (pv e_int) hK (fun _ _ => rfl)) l_nil rfl) rfl))) (fun _ => rfl)))) (by decide) rfl rfl)
 (S_cons (S_if (t_eq (pv (e_idx (e_pk (i := 3) rfl) (pv e_int) hK (fun _ _ => rfl))) (pv (e_str (s := [100, 101, 102]) rfl)) hK hr.units rfl) (S_cons (S_asg hN (i := 2) rfl (e_cat (e_pk (i := 2) rfl) (pv (e_call G.f__law_binds hr rfl (l_cons (e_idx (e_pk (i := 3) rfl) (pv e_int) hK (fun _ _ => rfl)) (l_cons (e_call G.f__law_telling hr rfl (l_cons (e_idx (e_pk (i := 3) rfl) (pv e_int) hK (fun _ _ => rfl)) (l_cons (e_str (s := [116, 111, 112]) rfl) l_nil rfl) rfl) rfl rfl rfl) l_nil rfl) rfl) rfl rfl rfl))) (by decide) rfl rfl)
 S_nil) (S_cons (S_if (t_eq (pv (e_idx (e_pk (i := 3) rfl) (pv e_int) hK (fun _ _ => rfl))) (pv (e_str (s := [98, 111, 120]) rfl)) hK hr.units rfl) (S_cons (S_asg hN (i := 2) rfl (e_cat (e_pk (i := 2) rfl) (pv (e_call G.f__law_binds hr rfl (l_cons (e_idx (e_pk (i := 3) rfl) (pv e_int) hK (fun _ _ => rfl)) (l_cons (vf (e_lst l_nil)) l_nil rfl) rfl) rfl rfl rfl))) (by decide) rfl rfl)
 S_nil) S_nil rfl)
 S_nil) rfl)
 S_nil)) (fun _ => rfl) rfl)
 (S_cons (S_ret (e_var (i := 2) rfl) rfl)
 S_nil)))
def n__law_read : List Str := ["_law_told", "_law_found", "_law_one"]
def d__law_read_f1 (C : Nat → List D → Option D) : PD.Env → Option Out := vSeq (vAsg .fr (v2 dCat (vVar 1) (vCall C 37 (vCons (vVar 2) vNil))) [2] 1) vSkip
def d__law_read (C : Nat → List D → Option D) : PD.Env → Option Out := vSeq (vIfS (v2 (cmpd .eq) (v2 dIdx (vVar 0) (vK (.int 0))) (vK (.str [110, 117, 109]))) [] (vSeq (vRet (vLst (vNil)) []) vSkip) (vSkip)) (vSeq (vIfS (v2 (cmpd .eq) (v2 dIdx (vVar 0) (vK (.int 0))) (vK (.str [110, 97, 109, 101]))) [] (vSeq (vRet (vLst (vCons (v2 dIdx (vVar 0) (vK (.int 1))) vNil)) []) vSkip) (vSkip)) (vSeq (vAsg .vl (vCall C 37 (vCons (v2 dIdx (vVar 0) (vK (.int 1))) vNil)) [] 1) (vSeq (vIfS (v2 (cmpd .eq) (v2 dIdx (vVar 0) (vK (.int 0))) (vK (.str [99, 97, 108, 108]))) [] (vSeq (vFor (vIt (v2 dIdx (vVar 0) (vK (.int 2)))) [] (.nm 2) (d__law_read_f1 C)) vSkip) (vSkip)) (vSeq (vRet (v2 dCat (vVar 1) (vIf (v2 (cmpd .isIn) (v2 dIdx (vVar 0) (vK (.int 0))) (vTup (vCons (vK (.str [112, 108, 117, 115])) (vCons (vK (.str [108, 101, 115, 115])) vNil)))) (vCall C 37 (vCons (v2 dIdx (vVar 0) (vK (.int 2))) vNil)) (vLst (vNil)))) []) vSkip))))
theorem b__law_read (hK : K = T.K) (G : Gx P w K mg base T C lv) (hr : Room lv (A.deeper (envOfC "_law_read" (defScope (top 53)) s.heap.objs.size f cdv))) (hr2 : Room 2 (A.deeper (envOfC "_law_read" (defScope (top 53)) s.heap.objs.size f cdv))) (hN : (n__law_read).Nodup) : PSs (Xf n__law_read "_law_read" (top 53) P w K mg base f cdv A outer s H E) (defBody (top 53)) (tS T false (d__law_read C)) :=
 (S_cons (S_if (t_eq (pv (e_idx (e_pk (i := 0) rfl) (pv e_int) hK (fun _ _ => rfl))) (pv (e_str (s := [110, 117, 109]) rfl)) hK hr.units rfl) (S_cons (S_ret (vf (e_lst l_nil)) rfl)
 S_nil) S_nil rfl)
 (S_cons (S_if (t_eq (pv (e_idx (e_pk (i := 0) rfl) (pv e_int) hK (fun _ _ => rfl))) (pv (e_str (s := [110, 97, 109, 101]) rfl)) hK hr.units rfl) (S_cons (S_ret (vf (e_lst (l_cons (e_idx (e_pk (i := 0) rfl) (pv e_int) hK (fun _ _ => rfl)) l_nil rfl))) rfl)
 S_nil) S_nil rfl)
 (S_cons (S_asg hN (i := 1) rfl (e_call G.f__law_read hr rfl (l_cons (e_idx (e_pk (i := 0) rfl) (pv e_int) hK (fun _ _ => rfl)) l_nil rfl) rfl rfl rfl) (by decide) rfl rfl)
 (S_cons (S_if (t_eq (pv (e_idx (e_pk (i := 0) rfl) (pv e_int) hK (fun _ _ => rfl))) (pv (e_str (s := [99, 97, 108, 108]) rfl)) hK hr.units rfl) (S_cons (S_for PassesOwn.never rfl (j_t hK (e_idx (e_pk (i := 0) rfl) (pv e_int) hK (fun _ _ => rfl))) (k_nm hN (i := 2) rfl) (S_cons (S_asg hN (i := 1) rfl (e_cat (e_pk (i := 1) rfl) (pv (e_call G.f__law_read hr rfl (l_cons (e_var (i := 2) rfl) l_nil rfl) rfl rfl rfl))) (by decide) rfl rfl)
 S_nil) (fun _ => rfl) rfl)
 S_nil) S_nil rfl)
 (S_cons (S_ret (vf (e_cat (e_pk (i := 1) rfl) (pv (e_if (t_in (pv (e_idx (e_pk (i := 0) rfl) (pv e_int) hK (fun _ _ => rfl))) (pv (e_tup (l_cons (e_str (s := [112, 108, 117, 115]) rfl) (l_cons (e_str (s := [108, 101, 115, 115]) rfl) l_nil rfl) rfl))) hK (u1 hr) rfl) (e_call G.f__law_read hr rfl (l_cons (e_idx (e_pk (i := 0) rfl) (pv e_int) hK (fun _ _ => rfl)) l_nil rfl) rfl rfl rfl) (vf (e_lst l_nil)))))) rfl)
 S_nil)))))
def n__law_reads : List Str := ["_law_rows_here", "_law_around", "_law_tops", "_law_found", "_law_row", "_law_names", "_law_at", "_law_name", "_law_own", "_law_told", "_law_inner"]
def d__law_reads_f2 (C : Nat → List D → Option D) : PD.Env → Option Out := vSeq (vAsg .fr (v2 dCat (vVar 5) (vCall C 37 (vCons (v2 dIdx (vVar 4) (vVar 6)) vNil))) [] 5) vSkip
def d__law_reads_f3 (C : Nat → List D → Option D) : PD.Env → Option Out := vSeq (vAsg .fr (v2 dCat (vVar 8) (vCall C 33 (vCons (vVar 10) vNil))) [10] 8) vSkip
def d__law_reads_f1 (C : Nat → List D → Option D) : PD.Env → Option Out := vSeq (vAsg .fr (vLst (vNil)) [] 5) (vSeq (vFor (vIt (vGet (vDct [[108, 101, 116], [115, 101, 116], [115, 97, 121], [119, 104, 101, 110], [103, 105, 118, 101]] [(vTup (vCons (vK (.int 2)) vNil), []), (vTup (vCons (vK (.int 1)) (vCons (vK (.int 3)) vNil)), []), (vTup (vCons (vK (.int 1)) vNil), []), (vTup (vCons (vK (.int 1)) vNil), []), (vTup (vCons (vK (.int 1)) vNil), [])]) (v2 dIdx (vVar 4) (vK (.int 0))) (vTup (vNil)))) [] (.nm 6) (d__law_reads_f2 C)) (vSeq (vAsg .fr (v2 dCat (vVar 3) (vLc (vIl (vVar 5)) (.nm 7) [7] (vT1 (vOr (v2 (cmpd .isIn) (vVar 7) (vVar 2)) (v1 dNot (v1 dAny (vLc (vIl (vVar 1)) (.nm 8) [8] (vT0) (v2 (cmpd .isIn) (vVar 7) (vVar 8))))))) (vVar 7))) [] 3) (vSeq (vIfS (v2 (cmpd .eq) (v2 dIdx (vVar 4) (vK (.int 0))) (vK (.str [98, 111, 120]))) [] (vSeq (vAsg .fr (v2 dCat (vVar 3) (vCall C 38 (vCons (v2 dIdx (vVar 4) (vK (.int 2))) (vCons (vVar 1) (vCons (vVar 2) vNil))))) [1, 2] 3) vSkip) (vSeq (vIfS (v2 (cmpd .eq) (v2 dIdx (vVar 4) (vK (.int 0))) (vK (.str [100, 101, 102]))) [] (vSeq (vAsg .fr (v2 dCat (vCall C 35 (vCons (v2 dIdx (vVar 4) (vK (.int 3))) (vCons (vK (.str [116, 111, 112])) vNil))) (vCall C 35 (vCons (v2 dIdx (vVar 4) (vK (.int 3))) (vCons (vK (.str [111, 117, 116, 101, 114])) vNil)))) [] 9) (vSeq (vAsg .fr (v1 dToL (v2 dIdx (vVar 4) (vK (.int 2)))) [] 8) (vSeq (vFor (vIl (vCall C 34 (vCons (v2 dIdx (vVar 4) (vK (.int 3))) vNil))) [] (.nm 10) (d__law_reads_f3 C)) (vSeq (vAsg .fr (vLc (vIl (vVar 8)) (.nm 7) [7] (vT1 (v2 (cmpd .notIn) (vVar 7) (vVar 9))) (vVar 7)) [] 8) (vSeq (vAsg .fr (v2 dCat (vVar 3) (vCall C 38 (vCons (v2 dIdx (vVar 4) (vK (.int 3))) (vCons (v2 dCat (vLst (vCons (vVar 8) vNil)) (vVar 1)) (vCons (vCall C 35 (vCons (v2 dIdx (vVar 4) (vK (.int 3))) (vCons (vK (.str [116, 111, 112])) vNil))) vNil))))) [8] 3) vSkip))))) (vSkip)) vSkip)) vSkip)))
def d__law_reads (C : Nat → List D → Option D) : PD.Env → Option Out := vSeq (vAsg .fr (vLst (vNil)) [] 3) (vSeq (vFor (vIl (vCall C 34 (vCons (vVar 0) vNil))) [0] (.nm 4) (d__law_reads_f1 C)) (vSeq (vRet (vVar 3) [3]) vSkip))
theorem b__law_reads (hK : K = T.K) (G : Gx P w K mg base T C lv) (hr : Room lv (A.deeper (envOfC "_law_reads" (defScope (top 54)) s.heap.objs.size f cdv))) (hr2 : Room 2 (A.deeper (envOfC "_law_reads" (defScope (top 54)) s.heap.objs.size f cdv))) (hN : (n__law_reads).Nodup) : PSs (Xf n__law_reads "_law_reads" (top 54) P w K mg base f cdv A outer s H E) (defBody (top 54)) (tS T false (d__law_reads C)) :=
 (S_cons (S_asg hN (i := 3) rfl (e_lst l_nil) (by decide) rfl rfl)
 (S_cons (S_for PassesOwn.never rfl (j_l hK (e_call G.f__law_flat hr rfl (l_cons (e_var (i := 0) rfl) l_nil rfl) rfl rfl rfl)) (k_nm hN (i := 4) rfl) (S_cons (S_asg hN (i := 5) rfl (e_lst l_nil) (by decide) rfl rfl)
 (S_cons (S_for PassesOwn.never rfl (j_t hK (e_get (u1 hr) (vf (e_dct (q_cons (s := [108, 101, 116]) rfl (e_tup (l_cons e_int l_nil rfl)) (q_cons (s := [115, 101, 116]) rfl (e_tup (l_cons e_int (l_cons e_int l_nil rfl) rfl)) (q_cons (s := [115, 97, 121]) rfl (e_tup (l_cons e_int l_nil rfl)) (q_cons (s := [119, 104, 101, 110]) rfl (e_tup (l_cons e_int l_nil rfl)) (q_cons (s := [103, 105, 118, 101]) rfl (e_tup (l_cons e_int l_nil rfl)) q_nil))))) rfl rfl (by simp) (by decide))) (pv (e_idx (e_pk (i := 4) rfl) (pv e_int) hK (fun _ _ => rfl))) (e_tup l_nil) ⟨rfl, rfl, rfl, rfl⟩)) (k_nm hN (i := 6) rfl) (S_cons (S_asg hN (i := 5) rfl (e_cat (e_pk (i := 5) rfl) (pv (e_call G.f__law_read hr rfl (l_cons (e_idx (e_pk (i := 4) rfl) (e_pk (i := 6) rfl) hK (fun _ _ => rfl)) l_nil rfl) rfl rfl rfl))) (by decide) rfl rfl)
 S_nil) (fun _ => rfl) rfl)
 (S_cons (S_asg hN (i := 3) rfl (e_cat (e_pk (i := 3) rfl) (pf (x_lc [("_law_name", 7)] rfl hN (j_lp (e_pk (i := 5) rfl)) rfl (by decide) (fun _ _ _ _ _ => (k_nm hN (i := 7) rfl)) (fun _ _ _ _ _ => (b_1 (t_bool (w_or (t_in (e_pk (i := 7) rfl) (e_pk (i := 2) rfl) hK (u1 hr) rfl) (w_one (t_not (t_val (e_any hK (pf (x_lc [("_law_own", 8)] rfl hN (j_lp (e_pk (i := 1) rfl)) rfl (by decide) (fun _ _ _ _ _ => (k_nm hN (i := 8) rfl)) (fun _ _ _ _ _ => b_0) (fun _ _ _ _ _ => (e_in (e_pk (i := 7) rfl) (e_pk (i := 8) rfl) hK (u1 hr) rfl)) (fun _ => rfl))) rfl rfl G.b_any rfl) (fun _ => rfl)))))))) (fun _ _ _ _ _ => (e_var (i := 7) rfl)) (fun _ => rfl)))) (by decide) rfl rfl)
 (S_cons (S_if (t_eq (pv (e_idx (e_pk (i := 4) rfl) (pv e_int) hK (fun _ _ => rfl))) (pv (e_str (s := [98, 111, 120]) rfl)) hK hr.units rfl) (S_cons (S_asg hN (i := 3) rfl (e_cat (e_pk (i := 3) rfl) (pv (e_call G.f__law_reads hr rfl (l_cons (e_idx (e_pk (i := 4) rfl) (pv e_int) hK (fun _ _ => rfl)) (l_cons (e_var (i := 1) rfl) (l_cons (e_var (i := 2) rfl) l_nil rfl) rfl) rfl) rfl rfl rfl))) (by decide) rfl rfl)
 S_nil) (S_cons (S_if (t_eq (pv (e_idx (e_pk (i := 4) rfl) (pv e_int) hK (fun _ _ => rfl))) (pv (e_str (s := [100, 101, 102]) rfl)) hK hr.units rfl) (S_cons (S_asg hN (i := 9) rfl (e_cat (pv (e_call G.f__law_telling hr rfl (l_cons (e_idx (e_pk (i := 4) rfl) (pv e_int) hK (fun _ _ => rfl)) (l_cons (e_str (s := [116, 111, 112]) rfl) l_nil rfl) rfl) rfl rfl rfl)) (pv (e_call G.f__law_telling hr rfl (l_cons (e_idx (e_pk (i := 4) rfl) (pv e_int) hK (fun _ _ => rfl)) (l_cons (e_str (s := [111, 117, 116, 101, 114]) rfl) l_nil rfl) rfl) rfl rfl rfl))) (by decide) rfl rfl)
 (S_cons (S_asg hN (i := 8) rfl (e_toL hK (pv (e_idx (e_pk (i := 4) rfl) (pv e_int) hK (fun _ _ => rfl))) rfl rfl G.b_list) (by decide) rfl rfl)
 (S_cons (S_for PassesOwn.never rfl (j_l hK (e_call G.f__law_flat hr rfl (l_cons (e_idx (e_pk (i := 4) rfl) (pv e_int) hK (fun _ _ => rfl)) l_nil rfl) rfl rfl rfl)) (k_nm hN (i := 10) rfl) (S_cons (S_asg hN (i := 8) rfl (e_cat (e_pk (i := 8) rfl) (pv (e_call G.f__law_named hr rfl (l_cons (e_var (i := 10) rfl) l_nil rfl) rfl rfl rfl))) (by decide) rfl rfl)
 S_nil) (fun _ => rfl) rfl)
 (S_cons (S_lc [("_law_name", 7)] rfl hN (i := 8) rfl rfl rfl (j_lp (e_pk (i := 8) rfl)) rfl (by decide) (fun _ _ _ _ _ => (k_nm hN (i := 7) rfl)) (fun _ _ _ _ _ => (b_1 (t_nin (e_pk (i := 7) rfl) (e_pk (i := 9) rfl) hK (u1 hr) rfl))) (fun _ _ _ _ _ => (e_var (i := 7) rfl)) (fun _ => rfl) rfl)
 (S_cons (S_asg hN (i := 3) rfl (e_cat (e_pk (i := 3) rfl) (pv (e_call G.f__law_reads hr rfl (l_cons (e_idx (e_pk (i := 4) rfl) (pv e_int) hK (fun _ _ => rfl)) (l_cons (vf (e_cat (pf (e_lst (l_cons (e_var (i := 8) rfl) l_nil rfl))) (e_pk (i := 1) rfl))) (l_cons (e_call G.f__law_telling hr rfl (l_cons (e_idx (e_pk (i := 4) rfl) (pv e_int) hK (fun _ _ => rfl)) (l_cons (e_str (s := [116, 111, 112]) rfl) l_nil rfl) rfl) rfl rfl rfl) l_nil rfl) rfl) rfl) rfl rfl rfl))) (by decide) rfl rfl)
 S_nil))))) S_nil rfl)
 S_nil) rfl)
 S_nil)))) (fun _ => rfl) rfl)
 (S_cons (S_ret (e_var (i := 3) rfl) rfl)
 S_nil)))
def n__law_more : List Str := ["_law_script", "_law_at", "_law_samples_here", "_law_row", "_law_rows_here", "_law_spin", "_law_number", "_law_told", "_law_inner", "_law_others", "_law_when", "_law_whole"]
def d__law_more (C : Nat → List D → Option D) : PD.Env → Option Out := vSeq (vAsg .fr (vLc (vIl (vCall C 30 vNil)) (.nm 3) [3] (vT1 (vOr (v2 (cmpd .ne) (v2 dIdx (vVar 3) (vK (.int 0))) (vK (.str [102, 114, 111, 109]))) (v2 (cmpd .ne) (v2 dIdx (vVar 3) (vK (.int 3))) (vK (.str [42]))))) (vVar 3)) [] 2) (vSeq (vAsg .fr (vLc (vIr1 (v2 (bopd .add) (vK (.int 1)) (v2 (bopd .mod) (vCall C 29 (vCons (vVar 0) (vCons (vVar 1) vNil))) (vK (.int 4))))) (.nm 5) [5] (vT0) (v2 dIdx (vVar 2) (v2 (bopd .mod) (vCall C 29 (vCons (vVar 0) (vCons (v2 (bopd .add) (vVar 1) (vVar 5)) vNil))) (v1 dLen (vVar 2))))) [0, 1, 0] 4) (vSeq (vAsg .fr (vLc (vIl (vVar 4)) (.nm 3) [3] (vT1 (v2 (cmpd .notIn) (v2 dIdx (vVar 3) (vK (.int 0))) (vTup (vCons (vK (.str [100, 101, 102])) (vCons (vK (.str [98, 111, 120])) (vCons (vK (.str [116, 114, 121])) (vCons (vK (.str [119, 104, 101, 110])) vNil))))))) (vVar 3)) [] 4) (vSeq (vAsg .vl (vCall C 29 (vCons (vVar 0) (vCons (v2 (bopd .add) (vVar 1) (vK (.int 9))) vNil))) [0] 6) (vSeq (vAsg .vl (vIf (v2 (cmpd .eq) (v2 (bopd .mod) (v2 (bopd .fdiv) (vVar 6) (vK (.int 3))) (vK (.int 2))) (vK (.int 0))) (vTup (vCons (vTup (vCons (vK (.str [116, 111, 112])) (vCons (v2 dIdx (vTup (vCons (vTup (vCons (vK (.str [120])) (vCons (vK (.str [122])) vNil))) (vCons (vTup (vCons (vK (.str [121])) vNil)) (vCons (vTup (vCons (vK (.str [102])) (vCons (vK (.str [97])) vNil))) vNil)))) (v2 (bopd .mod) (vVar 6) (vK (.int 3)))) vNil))) vNil)) (vTup (vNil))) [] 7) (vSeq (vAsg .vl (v2 dCatT (v2 dCatT (vTup (vCons (vTup (vCons (vK (.str [111, 117, 116, 101, 114])) (vCons (vTup (vCons (vK (.str [103])) vNil)) vNil))) (vCons (vTup (vCons (vK (.str [108, 101, 116])) (vCons (vK (.str [103])) (vCons (vTup (vCons (vK (.str [110, 97, 109, 101])) (vCons (vK (.str [120])) vNil))) vNil)))) vNil))) (vVar 7)) (v1 dToT (vVar 4))) [] 8) (vSeq (vAsg .vl (v2 dCatT (vTup (vCons (vTup (vCons (vK (.str [100, 101, 102])) (vCons (vK (.str [104])) (vCons (vTup (vCons (vK (.str [113])) vNil)) (vCons (vVar 8) vNil))))) (vCons (vTup (vCons (vK (.str [108, 101, 116])) (vCons (vK (.str [103])) (vCons (vTup (vCons (vK (.str [110, 117, 109])) (vCons (vK (.int 1)) vNil))) vNil)))) vNil))) (v1 dToT (v1 dRev (vVar 4)))) [8] 8) (vSeq (vIfS (v2 (cmpd .gt) (v2 (bopd .mod) (v2 (bopd .fdiv) (vVar 6) (vK (.int 12))) (vK (.int 3))) (vK (.int 0))) [] (vSeq (vAsg .vl (vTup (vCons (vTup (vCons (vK (.str [117, 115, 101])) (vCons (vTup (vCons (vK (.str [98])) vNil)) (vCons (vK (.str [102])) vNil)))) (vCons (vTup (vCons (vK (.str [108, 101, 116])) (vCons (vK (.str [121])) (vCons (vTup (vCons (vK (.str [110, 97, 109, 101])) (vCons (vK (.str [97])) vNil))) vNil)))) vNil))) [] 9) (vSeq (vAsg .vl (vTup (vCons (vK (.str [119, 104, 101, 110])) (vCons (vTup (vCons (vK (.str [110, 97, 109, 101])) (vCons (vK (.str [120])) vNil))) (vCons (vTup (vCons (vTup (vCons (vK (.str [108, 101, 116])) (vCons (vK (.str [122])) (vCons (vTup (vCons (vK (.str [110, 97, 109, 101])) (vCons (vK (.str [121])) vNil))) vNil)))) vNil)) (vCons (vVar 9) vNil))))) [9] 10) (vSeq (vAsg .vl (v2 dCatT (vTup (vCons (vTup (vCons (vK (.str [100, 101, 102])) (vCons (vK (.str [104])) (vCons (vTup (vCons (vK (.str [113])) vNil)) (vCons (v2 dCatT (vVar 7) (vTup (vCons (vVar 10) vNil))) vNil))))) vNil)) (vVar 8)) [10] 8) vSkip))) (vSkip)) (vSeq (vAsg .vl (vTup (vCons (vTup (vCons (vK (.str [100, 101, 102])) (vCons (vK (.str [107])) (vCons (v2 dIdx (vTup (vCons (vTup (vCons (vK (.str [113])) vNil)) (vCons (vTup (vCons (vK (.str [120])) (vCons (vK (.str [98])) vNil))) vNil))) (v2 (bopd .mod) (v2 (bopd .fdiv) (vVar 6) (vK (.int 6))) (vK (.int 2)))) (vCons (vVar 8) vNil))))) vNil)) [8] 11) (vSeq (vRet (vIf (v2 (cmpd .eq) (v2 (bopd .mod) (v2 (bopd .fdiv) (vVar 6) (vK (.int 12))) (vK (.int 3))) (vK (.int 0))) (vTup (vCons (vTup (vCons (vK (.str [98, 111, 120])) (vCons (vK (.str [107])) (vCons (vVar 11) vNil)))) vNil)) (vVar 11)) [11, 11]) vSkip)))))))))
theorem b__law_more (hK : K = T.K) (G : Gx P w K mg base T C lv) (hr : Room lv (A.deeper (envOfC "_law_more" (defScope (top 55)) s.heap.objs.size f cdv))) (hr2 : Room 2 (A.deeper (envOfC "_law_more" (defScope (top 55)) s.heap.objs.size f cdv))) (hN : (n__law_more).Nodup) : PSs (Xf n__law_more "_law_more" (top 55) P w K mg base f cdv A outer s H E) (defBody (top 55)) (tS T false (d__law_more C)) :=
 (S_cons (S_asg hN (i := 2) rfl (x_lc [("_law_row", 3)] rfl hN (ij (j_l hK (e_call0 G.f__law_samples hr rfl rfl))) rfl (by decide) (fun _ _ _ _ _ => (k_nm hN (i := 3) rfl)) (fun _ _ _ _ _ => (b_1 (t_bool (w_or (t_ne (pv (e_idx (e_pk (i := 3) rfl) (pv e_int) hK (fun _ _ => rfl))) (pv (e_str (s := [102, 114, 111, 109]) rfl)) hK hr.units rfl) (w_one (t_ne (pv (e_idx (e_pk (i := 3) rfl) (pv e_int) hK (fun _ _ => rfl))) (pv (e_str (s := [42]) rfl)) hK hr.units rfl)))))) (fun _ _ _ _ _ => (e_var (i := 3) rfl)) (fun _ => rfl)) (by decide) rfl rfl)
 (S_cons (S_lc [("_law_spin", 5)] rfl hN (i := 4) rfl rfl rfl (ij (j_r1 (e_add (pv e_int) (pv (e_mod (pv (e_call G.f__law_cell_at hr rfl (l_cons (e_var (i := 0) rfl) (l_cons (e_var (i := 1) rfl) l_nil rfl) rfl) rfl rfl rfl)) (pv e_int)))) rfl G.b_range rfl)) rfl (by decide) (fun _ _ _ _ _ => (k_nm hN (i := 5) rfl)) (fun _ _ _ _ _ => b_0) (fun _ _ _ _ _ => (e_idx (e_pk (i := 2) rfl) (pv (e_mod (pv (e_call G.f__law_cell_at hr rfl (l_cons (e_var (i := 0) rfl) (l_cons (e_add (e_pk (i := 1) rfl) (e_pk (i := 5) rfl)) l_nil rfl) rfl) rfl rfl rfl)) (pv (e_len hK (e_pk (i := 2) rfl) rfl rfl G.b_len)))) hK (fun _ _ => rfl))) (fun _ => rfl) rfl)
 (S_cons (S_lc [("_law_row", 3)] rfl hN (i := 4) rfl rfl rfl (j_lp (e_pk (i := 4) rfl)) rfl (by decide) (fun _ _ _ _ _ => (k_nm hN (i := 3) rfl)) (fun _ _ _ _ _ => (b_1 (t_nin (pv (e_idx (e_pk (i := 3) rfl) (pv e_int) hK (fun _ _ => rfl))) (pv (e_tup (l_cons (e_str (s := [100, 101, 102]) rfl) (l_cons (e_str (s := [98, 111, 120]) rfl) (l_cons (e_str (s := [116, 114, 121]) rfl) (l_cons (e_str (s := [119, 104, 101, 110]) rfl) l_nil rfl) rfl) rfl) rfl))) hK (u1 hr) rfl))) (fun _ _ _ _ _ => (e_var (i := 3) rfl)) (fun _ => rfl) rfl)
 (S_cons (S_asg hN (i := 6) rfl (e_call G.f__law_cell_at hr rfl (l_cons (e_var (i := 0) rfl) (l_cons (e_add (e_pk (i := 1) rfl) (pv e_int)) l_nil rfl) rfl) rfl rfl rfl) (by decide) rfl rfl)
 (S_cons (S_asg hN (i := 7) rfl (e_if (t_eq (pv (e_mod (pv (e_fdiv (e_pk (i := 6) rfl) (pv e_int))) (pv e_int))) (pv e_int) hK hr.units rfl) (e_tup (l_cons (e_tup (l_cons (e_str (s := [116, 111, 112]) rfl) (l_cons (e_idx (pv (e_tup (l_cons (e_tup (l_cons (e_str (s := [120]) rfl) (l_cons (e_str (s := [122]) rfl) l_nil rfl) rfl)) (l_cons (e_tup (l_cons (e_str (s := [121]) rfl) l_nil rfl)) (l_cons (e_tup (l_cons (e_str (s := [102]) rfl) (l_cons (e_str (s := [97]) rfl) l_nil rfl) rfl)) l_nil rfl) rfl) rfl))) (pv (e_mod (e_pk (i := 6) rfl) (pv e_int))) hK (fun _ _ => rfl)) l_nil rfl) rfl)) l_nil rfl)) (e_tup l_nil)) (by decide) rfl rfl)
 (S_cons (S_asg hN (i := 8) rfl (e_catT (pv (e_catT (pv (e_tup (l_cons (e_tup (l_cons (e_str (s := [111, 117, 116, 101, 114]) rfl) (l_cons (e_tup (l_cons (e_str (s := [103]) rfl) l_nil rfl)) l_nil rfl) rfl)) (l_cons (e_tup (l_cons (e_str (s := [108, 101, 116]) rfl) (l_cons (e_str (s := [103]) rfl) (l_cons (e_tup (l_cons (e_str (s := [110, 97, 109, 101]) rfl) (l_cons (e_str (s := [120]) rfl) l_nil rfl) rfl)) l_nil rfl) rfl) rfl)) l_nil rfl) rfl))) (e_pk (i := 7) rfl) hK)) (pv (e_toT hK (e_pk (i := 4) rfl) rfl rfl G.b_tuple)) hK) (by decide) rfl rfl)
 (S_cons (S_asg hN (i := 8) rfl (e_catT (pv (e_tup (l_cons (e_tup (l_cons (e_str (s := [100, 101, 102]) rfl) (l_cons (e_str (s := [104]) rfl) (l_cons (e_tup (l_cons (e_str (s := [113]) rfl) l_nil rfl)) (l_cons (e_var (i := 8) rfl) l_nil rfl) rfl) rfl) rfl)) (l_cons (e_tup (l_cons (e_str (s := [108, 101, 116]) rfl) (l_cons (e_str (s := [103]) rfl) (l_cons (e_tup (l_cons (e_str (s := [110, 117, 109]) rfl) (l_cons e_int l_nil rfl) rfl)) l_nil rfl) rfl) rfl)) l_nil rfl) rfl))) (pv (e_toT hK (pf (e_rev hK (e_pk (i := 4) rfl))) rfl rfl G.b_tuple)) hK) (by decide) rfl rfl)
 (S_cons (S_if (t_gt (pv (e_mod (pv (e_fdiv (e_pk (i := 6) rfl) (pv e_int))) (pv e_int))) (pv e_int) rfl) (S_cons (S_asg hN (i := 9) rfl (e_tup (l_cons (e_tup (l_cons (e_str (s := [117, 115, 101]) rfl) (l_cons (e_tup (l_cons (e_str (s := [98]) rfl) l_nil rfl)) (l_cons (e_str (s := [102]) rfl) l_nil rfl) rfl) rfl)) (l_cons (e_tup (l_cons (e_str (s := [108, 101, 116]) rfl) (l_cons (e_str (s := [121]) rfl) (l_cons (e_tup (l_cons (e_str (s := [110, 97, 109, 101]) rfl) (l_cons (e_str (s := [97]) rfl) l_nil rfl) rfl)) l_nil rfl) rfl) rfl)) l_nil rfl) rfl)) (by decide) rfl rfl)
 (S_cons (S_asg hN (i := 10) rfl (e_tup (l_cons (e_str (s := [119, 104, 101, 110]) rfl) (l_cons (e_tup (l_cons (e_str (s := [110, 97, 109, 101]) rfl) (l_cons (e_str (s := [120]) rfl) l_nil rfl) rfl)) (l_cons (e_tup (l_cons (e_tup (l_cons (e_str (s := [108, 101, 116]) rfl) (l_cons (e_str (s := [122]) rfl) (l_cons (e_tup (l_cons (e_str (s := [110, 97, 109, 101]) rfl) (l_cons (e_str (s := [121]) rfl) l_nil rfl) rfl)) l_nil rfl) rfl) rfl)) l_nil rfl)) (l_cons (e_var (i := 9) rfl) l_nil rfl) rfl) rfl) rfl)) (by decide) rfl rfl)
 (S_cons (S_asg hN (i := 8) rfl (e_catT (pv (e_tup (l_cons (e_tup (l_cons (e_str (s := [100, 101, 102]) rfl) (l_cons (e_str (s := [104]) rfl) (l_cons (e_tup (l_cons (e_str (s := [113]) rfl) l_nil rfl)) (l_cons (e_catT (e_pk (i := 7) rfl) (pv (e_tup (l_cons (e_var (i := 10) rfl) l_nil rfl))) hK) l_nil rfl) rfl) rfl) rfl)) l_nil rfl))) (e_pk (i := 8) rfl) hK) (by decide) rfl rfl)
 S_nil))) S_nil rfl)
 (S_cons (S_asg hN (i := 11) rfl (e_tup (l_cons (e_tup (l_cons (e_str (s := [100, 101, 102]) rfl) (l_cons (e_str (s := [107]) rfl) (l_cons (e_idx (pv (e_tup (l_cons (e_tup (l_cons (e_str (s := [113]) rfl) l_nil rfl)) (l_cons (e_tup (l_cons (e_str (s := [120]) rfl) (l_cons (e_str (s := [98]) rfl) l_nil rfl) rfl)) l_nil rfl) rfl))) (pv (e_mod (pv (e_fdiv (e_pk (i := 6) rfl) (pv e_int))) (pv e_int))) hK (fun _ _ => rfl)) (l_cons (e_var (i := 8) rfl) l_nil rfl) rfl) rfl) rfl)) l_nil rfl)) (by decide) rfl rfl)
 (S_cons (S_ret (e_if (t_eq (pv (e_mod (pv (e_fdiv (e_pk (i := 6) rfl) (pv e_int))) (pv e_int))) (pv e_int) hK hr.units rfl) (e_tup (l_cons (e_tup (l_cons (e_str (s := [98, 111, 120]) rfl) (l_cons (e_str (s := [107]) rfl) (l_cons (e_var (i := 11) rfl) l_nil rfl) rfl) rfl)) l_nil rfl)) (e_var (i := 11) rfl)) rfl)
 S_nil))))))))))
def n__law_count : List Str := ["_law_rows_here", "_law_found", "_law_row"]
def d__law_count_f1 (C : Nat → List D → Option D) : PD.Env → Option Out := vSeq (vIfS (v2 (cmpd .isIn) (v2 dIdx (vVar 2) (vK (.int 0))) (vTup (vCons (vK (.str [100, 101, 102])) (vCons (vK (.str [98, 111, 120])) vNil)))) [] (vSeq (vAsg .vl (v2 (bopd .add) (vVar 1) (vCall C 40 (vCons (v2 dIdx (vVar 2) (v1 dNeg (vK (.int 1)))) vNil))) [] 1) vSkip) (vSkip)) (vSeq (vIfS (v2 (cmpd .isIn) (v2 dIdx (vVar 2) (vK (.int 0))) (vTup (vCons (vK (.str [119, 104, 101, 110])) (vCons (vK (.str [116, 114, 121])) vNil)))) [] (vSeq (vAsg .vl (v2 (bopd .add) (v2 (bopd .add) (vVar 1) (vCall C 40 (vCons (v2 dIdx (vVar 2) (v1 dNeg (vK (.int 2)))) vNil))) (vCall C 40 (vCons (v2 dIdx (vVar 2) (v1 dNeg (vK (.int 1)))) vNil))) [] 1) vSkip) (vSkip)) vSkip)
def d__law_count (C : Nat → List D → Option D) : PD.Env → Option Out := vSeq (vAsg .vl (v1 dLen (vVar 0)) [] 1) (vSeq (vFor (vIt (vVar 0)) [0] (.nm 2) (d__law_count_f1 C)) (vSeq (vRet (vVar 1) [1]) vSkip))
theorem b__law_count (hK : K = T.K) (G : Gx P w K mg base T C lv) (hr : Room lv (A.deeper (envOfC "_law_count" (defScope (top 56)) s.heap.objs.size f cdv))) (hr2 : Room 2 (A.deeper (envOfC "_law_count" (defScope (top 56)) s.heap.objs.size f cdv))) (hN : (n__law_count).Nodup) : PSs (Xf n__law_count "_law_count" (top 56) P w K mg base f cdv A outer s H E) (defBody (top 56)) (tS T false (d__law_count C)) :=
 (S_cons (S_asg hN (i := 1) rfl (e_len hK (e_pk (i := 0) rfl) rfl rfl G.b_len) (by decide) rfl rfl)
 (S_cons (S_for PassesOwn.never rfl (j_t hK (e_var (i := 0) rfl)) (k_nm hN (i := 2) rfl) (S_cons (S_if (t_in (pv (e_idx (e_pk (i := 2) rfl) (pv e_int) hK (fun _ _ => rfl))) (pv (e_tup (l_cons (e_str (s := [100, 101, 102]) rfl) (l_cons (e_str (s := [98, 111, 120]) rfl) l_nil rfl) rfl))) hK (u1 hr) rfl) (S_cons (S_asg hN (i := 1) rfl (e_add (e_pk (i := 1) rfl) (pv (e_call G.f__law_count hr rfl (l_cons (e_idx (e_pk (i := 2) rfl) (pv (e_neg (pv e_int))) hK (fun _ _ => rfl)) l_nil rfl) rfl rfl rfl))) (by decide) rfl rfl)
 S_nil) S_nil rfl)
 (S_cons (S_if (t_in (pv (e_idx (e_pk (i := 2) rfl) (pv e_int) hK (fun _ _ => rfl))) (pv (e_tup (l_cons (e_str (s := [119, 104, 101, 110]) rfl) (l_cons (e_str (s := [116, 114, 121]) rfl) l_nil rfl) rfl))) hK (u1 hr) rfl) (S_cons (S_asg hN (i := 1) rfl (e_add (pv (e_add (e_pk (i := 1) rfl) (pv (e_call G.f__law_count hr rfl (l_cons (e_idx (e_pk (i := 2) rfl) (pv (e_neg (pv e_int))) hK (fun _ _ => rfl)) l_nil rfl) rfl rfl rfl)))) (pv (e_call G.f__law_count hr rfl (l_cons (e_idx (e_pk (i := 2) rfl) (pv (e_neg (pv e_int))) hK (fun _ _ => rfl)) l_nil rfl) rfl rfl rfl))) (by decide) rfl rfl)
 S_nil) S_nil rfl)
 S_nil)) (fun _ => rfl) rfl)
 (S_cons (S_ret (e_var (i := 1) rfl) rfl)
 S_nil)))
def n_law : List Str := ["_law_script", "_law_samples_here", "_law_by", "_law_rows_here", "_law_more_here", "_law_again", "_law_found", "_law_names", "_law_due", "_law_inner"]
def d_law_f2 (C : Nat → List D → Option D) : PD.Env → Option Out := vSeq (vPar .fr (vCall C 21 (vCons (vVar 3) vNil)) .fr (vCall C 22 (vCons (vVar 3) vNil)) [3, 3] 6 7) (vSeq (vIfS (vOr (v2 (cmpd .ne) (vVar 6) (vCall C 36 (vCons (vVar 3) (vCons (vK .non) vNil)))) (v2 (cmpd .ne) (vVar 7) (vSortS (vSetL (vCall C 38 (vCons (vVar 3) (vCons (vLst (vNil)) (vCons (vLst (vNil)) vNil)))))))) [3, 3] (vSeq (vRet (vK (.bl false)) []) vSkip) (vSkip)) (vSeq (vApp (vTup (vNil)) [] 6) (vSeq (vRvs 7) vSkip)))
def d_law_f1 (C : Nat → List D → Option D) : PD.Env → Option Out := vSeq (vPar .vl (vCall C 32 (vCons (vVar 0) (vCons (v2 (bopd .mul) (vK (.int 12)) (vVar 2)) (vCons (vVar 1) vNil)))) .vl (vCall C 39 (vCons (vVar 0) (vCons (v2 (bopd .add) (vK (.int 200)) (v2 (bopd .mul) (vK (.int 12)) (vVar 2))) vNil))) [0, 1, 0] 3 4) (vSeq (vAsg .vl (vIf (v2 (cmpd .le) (vCall C 40 (vCons (v2 dCatT (vVar 3) (vVar 4)) vNil)) (vK (.int 40))) (v2 dCatT (vVar 3) (vVar 4)) (vVar 3)) [3] 3) (vSeq (vFor (vIr1 (vK (.int 2))) [] (.nm 5) (d_law_f2 C)) vSkip))
def d_law (C : Nat → List D → Option D) : PD.Env → Option Out := vSeq (vAsg .vl (vCall C 30 vNil) [] 1) (vSeq (vFor (vIr1 (vK (.int 8))) [] (.nm 2) (d_law_f1 C)) (vSeq (vAsg .vl (vTup (vCons (vTup (vCons (vK (.str [117, 115, 101])) (vCons (vTup (vCons (vK (.str [97])) (vCons (vK (.str [98])) vNil))) (vCons (vK .non) vNil)))) (vCons (vTup (vCons (vK (.str [117, 115, 101])) (vCons (vTup (vCons (vK (.str [97])) (vCons (vK (.str [98])) vNil))) (vCons (vK (.str [99])) vNil)))) (vCons (vTup (vCons (vK (.str [108, 97, 122, 121])) (vCons (vTup (vCons (vK (.str [97])) vNil)) (vCons (vK (.str [100])) vNil)))) (vCons (vTup (vCons (vK (.str [102, 97, 114])) (vCons (vK (.str [116])) (vCons (vTup (vCons (vK (.str [97])) vNil)) (vCons (vK (.str [120])) (vCons (vK (.str [101])) vNil)))))) vNil))))) [] 3) (vSeq (vAsg .vl (v2 dCatT (vVar 3) (vTup (vCons (vTup (vCons (vK (.str [102, 114, 111, 109])) (vCons (vK (.int 1)) (vCons (vTup (vNil)) (vCons (vTup (vCons (vTup (vCons (vK (.str [120])) (vCons (vK (.str [103])) vNil))) (vCons (vTup (vCons (vK (.str [121])) (vCons (vK (.str [121])) vNil))) vNil))) vNil))))) (vCons (vTup (vCons (vK (.str [102, 114, 111, 109])) (vCons (vK (.int 0)) (vCons (vTup (vCons (vK (.str [97])) vNil)) (vCons (vK (.str [42])) vNil))))) (vCons (vTup (vCons (vK (.str [100, 114, 111, 112])) (vCons (vK (.str [104])) vNil))) vNil))))) [] 3) (vSeq (vAsg .fr (vLst (vCons (vTup (vCons (vK (.str [97])) (vCons (vK (.str [117, 115, 101])) vNil))) (vCons (vTup (vCons (vK (.str [99])) (vCons (vK (.str [117, 115, 101])) vNil))) (vCons (vTup (vCons (vK (.str [100])) (vCons (vK (.str [108, 97, 122, 121])) vNil))) (vCons (vTup (vCons (vK (.str [101])) (vCons (vK (.str [102, 97, 114])) vNil))) (vCons (vTup (vCons (vK (.str [103])) (vCons (vK (.str [102, 114, 111, 109])) vNil))) (vCons (vTup (vCons (vK (.str [121])) (vCons (vK (.str [102, 114, 111, 109])) vNil))) (vCons (vTup (vCons (vK (.str [104])) (vCons (vK (.str [100, 114, 111, 112])) vNil))) vNil)))))))) [] 8) (vSeq (vIfS (v2 (cmpd .ne) (vCall C 21 (vCons (vVar 3) vNil)) (vVar 8)) [3] (vSeq (vRet (vK (.bl false)) []) vSkip) (vSkip)) (vSeq (vAsg .vl (vTup (vCons (vTup (vCons (vK (.str [116, 111, 112])) (vCons (vTup (vCons (vK (.str [110])) vNil)) vNil))) (vCons (vTup (vCons (vK (.str [115, 97, 121])) (vCons (vTup (vCons (vK (.str [112, 108, 117, 115])) (vCons (vTup (vCons (vK (.str [110, 97, 109, 101])) (vCons (vK (.str [110])) vNil))) (vCons (vTup (vCons (vK (.str [110, 97, 109, 101])) (vCons (vK (.str [120])) vNil))) vNil)))) vNil))) (vCons (vTup (vCons (vK (.str [108, 101, 116])) (vCons (vK (.str [110])) (vCons (vTup (vCons (vK (.str [110, 97, 109, 101])) (vCons (vK (.str [109])) vNil))) vNil)))) vNil)))) [] 9) (vSeq (vAsg .vl (vTup (vCons (vTup (vCons (vK (.str [100, 101, 102])) (vCons (vK (.str [102])) (vCons (vTup (vCons (vK (.str [120])) vNil)) (vCons (vVar 9) vNil))))) vNil)) [9] 3) (vSeq (vIfS (vOr (v2 (cmpd .ne) (vCall C 21 (vCons (vVar 3) vNil)) (vLst (vCons (vTup (vCons (vK (.str [102])) (vCons (vK (.str [100, 101, 102])) vNil))) (vCons (vTup (vCons (vK (.str [110])) (vCons (vK (.str [108, 101, 116])) vNil))) vNil)))) (v2 (cmpd .ne) (vCall C 22 (vCons (vVar 3) vNil)) (vLst (vCons (vK (.str [109])) (vCons (vK (.str [110])) vNil))))) [3, 3] (vSeq (vRet (vK (.bl false)) []) vSkip) (vSkip)) (vSeq (vRet (vAnd (v2 (cmpd .eq) (vCall C 21 (vCons (vTup (vNil)) vNil)) (vLst (vNil))) (v2 (cmpd .eq) (vCall C 22 (vCons (vTup (vNil)) vNil)) (vLst (vNil)))) []) vSkip)))))))))
theorem b_law (hK : K = T.K) (G : Gx P w K mg base T C lv) (hr : Room lv (A.deeper (envOfC "law" (defScope (top 57)) s.heap.objs.size f cdv))) (hr2 : Room 2 (A.deeper (envOfC "law" (defScope (top 57)) s.heap.objs.size f cdv))) (hN : (n_law).Nodup) : PSs (Xf n_law "law" (top 57) P w K mg base f cdv A outer s H E) (defBody (top 57)) (tS T false (d_law C)) :=
 (S_cons (S_asg hN (i := 1) rfl (e_call0 G.f__law_samples hr rfl rfl) (by decide) rfl rfl)
 (S_cons (S_for PassesOwn.never rfl (j_r1 e_int rfl G.b_range rfl) (k_nm hN (i := 2) rfl) (S_cons (S_par (by decide) (by decide) rfl hN (i := 3) (j := 4) rfl rfl (by decide) rfl rfl (e_call G.f__law_rows hr rfl (l_cons (e_var (i := 0) rfl) (l_cons (e_mul (pv e_int) (e_pk (i := 2) rfl)) (l_cons (e_var (i := 1) rfl) l_nil rfl) rfl) rfl) rfl rfl rfl) (e_call G.f__law_more hr rfl (l_cons (e_var (i := 0) rfl) (l_cons (e_add (pv e_int) (pv (e_mul (pv e_int) (e_pk (i := 2) rfl)))) l_nil rfl) rfl) rfl rfl rfl) rfl rfl rfl rfl rfl)
 (S_cons (S_asg hN (i := 3) rfl (e_if (t_le (pv (e_call G.f__law_count hr rfl (l_cons (e_catT (e_pk (i := 3) rfl) (e_pk (i := 4) rfl) hK) l_nil rfl) rfl rfl rfl)) (pv e_int) rfl) (e_catT (e_pk (i := 3) rfl) (e_pk (i := 4) rfl) hK) (e_var (i := 3) rfl)) (by decide) rfl rfl)
 (S_cons (S_for PassesOwn.never rfl (j_r1 e_int rfl G.b_range rfl) (k_nm hN (i := 5) rfl) (S_cons (S_par (by decide) (by decide) rfl hN (i := 6) (j := 7) rfl rfl (by decide) rfl rfl (e_callF G.f_bound hr rfl (l_cons (e_var (i := 3) rfl) l_nil rfl) rfl rfl rfl) (e_callF G.f_reached hr rfl (l_cons (e_var (i := 3) rfl) l_nil rfl) rfl rfl rfl) rfl rfl rfl rfl rfl)
 (S_cons (S_if (t_bool (w_or (t_ne (e_pk (i := 6) rfl) (pv (e_call G.f__law_binds hr rfl (l_cons (e_var (i := 3) rfl) (l_cons e_non l_nil rfl) rfl) rfl rfl rfl)) hK hr.units rfl) (w_one (t_ne (e_pk (i := 7) rfl) (pf (e_sortS rfl (u3 hr) rfl G.b_sorted (e_setL hK rfl rfl G.b_set (e_call G.f__law_reads hr rfl (l_cons (e_var (i := 3) rfl) (l_cons (vf (e_lst l_nil)) (l_cons (vf (e_lst l_nil)) l_nil rfl) rfl) rfl) rfl rfl rfl) rfl) rfl)) hK hr.units rfl)))) (S_cons (S_ret e_bl rfl)
 S_nil) S_nil rfl)
 (S_cons (S_app (i := 6) rfl (e_tup l_nil) rfl rfl rfl)
 (S_cons (S_rvs (i := 7) rfl rfl)
 S_nil)))) (fun _ => rfl) rfl)
 S_nil))) (fun _ => rfl) rfl)
 (S_cons (S_asg hN (i := 3) rfl (e_tup (l_cons (e_tup (l_cons (e_str (s := [117, 115, 101]) rfl) (l_cons (e_tup (l_cons (e_str (s := [97]) rfl) (l_cons (e_str (s := [98]) rfl) l_nil rfl) rfl)) (l_cons e_non l_nil rfl) rfl) rfl)) (l_cons (e_tup (l_cons (e_str (s := [117, 115, 101]) rfl) (l_cons (e_tup (l_cons (e_str (s := [97]) rfl) (l_cons (e_str (s := [98]) rfl) l_nil rfl) rfl)) (l_cons (e_str (s := [99]) rfl) l_nil rfl) rfl) rfl)) (l_cons (e_tup (l_cons (e_str (s := [108, 97, 122, 121]) rfl) (l_cons (e_tup (l_cons (e_str (s := [97]) rfl) l_nil rfl)) (l_cons (e_str (s := [100]) rfl) l_nil rfl) rfl) rfl)) (l_cons (e_tup (l_cons (e_str (s := [102, 97, 114]) rfl) (l_cons (e_str (s := [116]) rfl) (l_cons (e_tup (l_cons (e_str (s := [97]) rfl) l_nil rfl)) (l_cons (e_str (s := [120]) rfl) (l_cons (e_str (s := [101]) rfl) l_nil rfl) rfl) rfl) rfl) rfl)) l_nil rfl) rfl) rfl) rfl)) (by decide) rfl rfl)
 (S_cons (S_asg hN (i := 3) rfl (e_catT (e_pk (i := 3) rfl) (pv (e_tup (l_cons (e_tup (l_cons (e_str (s := [102, 114, 111, 109]) rfl) (l_cons e_int (l_cons (e_tup l_nil) (l_cons (e_tup (l_cons (e_tup (l_cons (e_str (s := [120]) rfl) (l_cons (e_str (s := [103]) rfl) l_nil rfl) rfl)) (l_cons (e_tup (l_cons (e_str (s := [121]) rfl) (l_cons (e_str (s := [121]) rfl) l_nil rfl) rfl)) l_nil rfl) rfl)) l_nil rfl) rfl) rfl) rfl)) (l_cons (e_tup (l_cons (e_str (s := [102, 114, 111, 109]) rfl) (l_cons e_int (l_cons (e_tup (l_cons (e_str (s := [97]) rfl) l_nil rfl)) (l_cons (e_str (s := [42]) rfl) l_nil rfl) rfl) rfl) rfl)) (l_cons (e_tup (l_cons (e_str (s := [100, 114, 111, 112]) rfl) (l_cons (e_str (s := [104]) rfl) l_nil rfl) rfl)) l_nil rfl) rfl) rfl))) hK) (by decide) rfl rfl)
 (S_cons (S_asg hN (i := 8) rfl (e_lst (l_cons (e_tup (l_cons (e_str (s := [97]) rfl) (l_cons (e_str (s := [117, 115, 101]) rfl) l_nil rfl) rfl)) (l_cons (e_tup (l_cons (e_str (s := [99]) rfl) (l_cons (e_str (s := [117, 115, 101]) rfl) l_nil rfl) rfl)) (l_cons (e_tup (l_cons (e_str (s := [100]) rfl) (l_cons (e_str (s := [108, 97, 122, 121]) rfl) l_nil rfl) rfl)) (l_cons (e_tup (l_cons (e_str (s := [101]) rfl) (l_cons (e_str (s := [102, 97, 114]) rfl) l_nil rfl) rfl)) (l_cons (e_tup (l_cons (e_str (s := [103]) rfl) (l_cons (e_str (s := [102, 114, 111, 109]) rfl) l_nil rfl) rfl)) (l_cons (e_tup (l_cons (e_str (s := [121]) rfl) (l_cons (e_str (s := [102, 114, 111, 109]) rfl) l_nil rfl) rfl)) (l_cons (e_tup (l_cons (e_str (s := [104]) rfl) (l_cons (e_str (s := [100, 114, 111, 112]) rfl) l_nil rfl) rfl)) l_nil rfl) rfl) rfl) rfl) rfl) rfl) rfl)) (by decide) rfl rfl)
 (S_cons (S_if (t_ne (pf (e_callF G.f_bound hr rfl (l_cons (e_var (i := 3) rfl) l_nil rfl) rfl rfl rfl)) (e_pk (i := 8) rfl) hK hr.units rfl) (S_cons (S_ret e_bl rfl)
 S_nil) S_nil rfl)
 (S_cons (S_asg hN (i := 9) rfl (e_tup (l_cons (e_tup (l_cons (e_str (s := [116, 111, 112]) rfl) (l_cons (e_tup (l_cons (e_str (s := [110]) rfl) l_nil rfl)) l_nil rfl) rfl)) (l_cons (e_tup (l_cons (e_str (s := [115, 97, 121]) rfl) (l_cons (e_tup (l_cons (e_str (s := [112, 108, 117, 115]) rfl) (l_cons (e_tup (l_cons (e_str (s := [110, 97, 109, 101]) rfl) (l_cons (e_str (s := [110]) rfl) l_nil rfl) rfl)) (l_cons (e_tup (l_cons (e_str (s := [110, 97, 109, 101]) rfl) (l_cons (e_str (s := [120]) rfl) l_nil rfl) rfl)) l_nil rfl) rfl) rfl)) l_nil rfl) rfl)) (l_cons (e_tup (l_cons (e_str (s := [108, 101, 116]) rfl) (l_cons (e_str (s := [110]) rfl) (l_cons (e_tup (l_cons (e_str (s := [110, 97, 109, 101]) rfl) (l_cons (e_str (s := [109]) rfl) l_nil rfl) rfl)) l_nil rfl) rfl) rfl)) l_nil rfl) rfl) rfl)) (by decide) rfl rfl)
 (S_cons (S_asg hN (i := 3) rfl (e_tup (l_cons (e_tup (l_cons (e_str (s := [100, 101, 102]) rfl) (l_cons (e_str (s := [102]) rfl) (l_cons (e_tup (l_cons (e_str (s := [120]) rfl) l_nil rfl)) (l_cons (e_var (i := 9) rfl) l_nil rfl) rfl) rfl) rfl)) l_nil rfl)) (by decide) rfl rfl)
 (S_cons (S_if (t_bool (w_or (t_ne (pf (e_callF G.f_bound hr rfl (l_cons (e_var (i := 3) rfl) l_nil rfl) rfl rfl rfl)) (pf (e_lst (l_cons (e_tup (l_cons (e_str (s := [102]) rfl) (l_cons (e_str (s := [100, 101, 102]) rfl) l_nil rfl) rfl)) (l_cons (e_tup (l_cons (e_str (s := [110]) rfl) (l_cons (e_str (s := [108, 101, 116]) rfl) l_nil rfl) rfl)) l_nil rfl) rfl))) hK hr.units rfl) (w_one (t_ne (pf (e_callF G.f_reached hr rfl (l_cons (e_var (i := 3) rfl) l_nil rfl) rfl rfl rfl)) (pf (e_lst (l_cons (e_str (s := [109]) rfl) (l_cons (e_str (s := [110]) rfl) l_nil rfl) rfl))) hK hr.units rfl)))) (S_cons (S_ret e_bl rfl)
 S_nil) S_nil rfl)
 (S_cons (S_ret (e_and (e_eq (pf (e_callF G.f_bound hr rfl (l_cons (e_tup l_nil) l_nil rfl) rfl rfl rfl)) (pf (e_lst l_nil)) hK hr.units rfl) (e_one (e_eq (pf (e_callF G.f_reached hr rfl (l_cons (e_tup l_nil) l_nil rfl) rfl rfl rfl)) (pf (e_lst l_nil)) hK hr.units rfl))) rfl)
 S_nil))))))))))
def n_Around_deeper : List Str := ["self"]
def d_Around_deeper (C : Nat → List D → Option D) : PD.Env → Option Out := vSeq (vRet (vMk 0 mkA (vCons (v2 (bopd .add) (vFld GS [100, 101, 101, 112] (vVar 0)) (vK (.int 1))) (vCons (vFld GS [98, 108, 111, 99, 107] (vVar 0)) (vCons (vFld GS [100, 101, 102, 115] (vVar 0)) vNil)))) []) vSkip
theorem b_Around_deeper (hK : K = T.K) (G : Gx P w K mg base T C lv) (hr : Room lv (A.deeper (envOfC "Around.deeper" (defScope (mth 19 1)) s.heap.objs.size f cdv))) (hr2 : Room 2 (A.deeper (envOfC "Around.deeper" (defScope (mth 19 1)) s.heap.objs.size f cdv))) (hN : (n_Around_deeper).Nodup) : PSs (Xf n_Around_deeper "Around.deeper" (mth 19 1) P w K mg base f cdv A outer s H E) (defBody (mth 19 1)) (tS T false (d_Around_deeper C)) :=
 (S_cons (S_ret (e_mk G.k_Around hr2 rfl (l_cons (e_add (pv (e_fld hK G.cls (e_pk (i := 0) rfl) (f := [100, 101, 101, 112]) rfl rfl)) (pv e_int)) (l_cons (e_fld hK G.cls (e_pk (i := 0) rfl) (f := [98, 108, 111, 99, 107]) rfl rfl) (l_cons (e_fld hK G.cls (e_pk (i := 0) rfl) (f := [100, 101, 102, 115]) rfl rfl) l_nil rfl) rfl) rfl) rfl rfl rfl) rfl)
 S_nil)
end
end K04
end
section
set_option Elab.async false
set_option linter.all false
set_option maxRecDepth 100000
set_option maxHeartbeats 0
/-! The head of law k04's text. -/
namespace K04
open PySem PySem.Spec PyProof.Rows L2 PD
def h_is_number : He.DefD := ⟨("is_number", none), "is_number", "is_number", defArgs (top 13), defBody (top 13), defScope (top 13), [], []⟩
def h_is_name : He.DefD := ⟨("is_name", none), "is_name", "is_name", defArgs (top 14), defBody (top 14), defScope (top 14), [], []⟩
def h_is_path : He.DefD := ⟨("is_path", none), "is_path", "is_path", defArgs (top 15), defBody (top 15), defScope (top 15), [], []⟩
def h_are_names : He.DefD := ⟨("are_names", none), "are_names", "are_names", defArgs (top 16), defBody (top 16), defScope (top 16), [], []⟩
def h_is_expression : He.DefD := ⟨("is_expression", none), "is_expression", "is_expression", defArgs (top 17), defBody (top 17), defScope (top 17), [], []⟩
def h_are_pairs : He.DefD := ⟨("are_pairs", none), "are_pairs", "are_pairs", defArgs (top 18), defBody (top 18), defScope (top 18), [], []⟩
def h_is_from : He.DefD := ⟨("is_from", none), "is_from", "is_from", defArgs (top 20), defBody (top 20), defScope (top 20), [], []⟩
def h_is_within : He.DefD := ⟨("is_within", none), "is_within", "is_within", defArgs (top 21), defBody (top 21), defScope (top 21), [], []⟩
def h_is_plain_row : He.DefD := ⟨("is_plain_row", none), "is_plain_row", "is_plain_row", defArgs (top 22), defBody (top 22), defScope (top 22), [], []⟩
def h_is_said : He.DefD := ⟨("is_said", none), "is_said", "is_said", defArgs (top 23), defBody (top 23), defScope (top 23), [], []⟩
def h_is_row : He.DefD := ⟨("is_row", none), "is_row", "is_row", defArgs (top 24), defBody (top 24), defScope (top 24), [], []⟩
def h_is_def : He.DefD := ⟨("is_def", none), "is_def", "is_def", defArgs (top 25), defBody (top 25), defScope (top 25), [], []⟩
def h_are_rows : He.DefD := ⟨("are_rows", none), "are_rows", "are_rows", defArgs (top 26), defBody (top 26), defScope (top 26), [], []⟩
def h_rows_of_block : He.DefD := ⟨("rows_of_block", none), "rows_of_block", "rows_of_block", defArgs (top 27), defBody (top 27), defScope (top 27), [.int 0], []⟩
def h_told_names : He.DefD := ⟨("told_names", none), "told_names", "told_names", defArgs (top 28), defBody (top 28), defScope (top 28), [], []⟩
def h_names_bound : He.DefD := ⟨("names_bound", none), "names_bound", "names_bound", defArgs (top 29), defBody (top 29), defScope (top 29), [], []⟩
def h_own_names : He.DefD := ⟨("own_names", none), "own_names", "own_names", defArgs (top 30), defBody (top 30), defScope (top 30), [], []⟩
def h_is_plain_or_named : He.DefD := ⟨("is_plain_or_named", none), "is_plain_or_named", "is_plain_or_named", defArgs (top 31), defBody (top 31), defScope (top 31), [], []⟩
def h_blocks_in : He.DefD := ⟨("blocks_in", none), "blocks_in", "blocks_in", defArgs (top 32), defBody (top 32), defScope (top 32), [], []⟩
def h_many_rows : He.DefD := ⟨("many_rows", none), "many_rows", "many_rows", defArgs (top 33), defBody (top 33), defScope (top 33), [], []⟩
def h_check_rows : He.DefD := ⟨("check_rows", none), "check_rows", "check_rows", defArgs (top 34), defBody (top 34), defScope (top 34), [], []⟩
def h_bound : He.DefD := ⟨("bound", none), "bound", "bound", defArgs (top 36), defBody (top 36), defScope (top 36), [], []⟩
def h_reached : He.DefD := ⟨("reached", none), "reached", "reached", defArgs (top 37), defBody (top 37), defScope (top 37), [], []⟩
def h_module_bindings : He.DefD := ⟨("module_bindings", none), "module_bindings", "module_bindings", defArgs (top 38), defBody (top 38), defScope (top 38), [], []⟩
def h_rows_by_top : He.DefD := ⟨("rows_by_top", none), "rows_by_top", "rows_by_top", defArgs (top 39), defBody (top 39), defScope (top 39), [], []⟩
def h_bindings_by_top : He.DefD := ⟨("bindings_by_top", none), "bindings_by_top", "bindings_by_top", defArgs (top 40), defBody (top 40), defScope (top 40), [], []⟩
def h_names_in : He.DefD := ⟨("names_in", none), "names_in", "names_in", defArgs (top 41), defBody (top 41), defScope (top 41), [], []⟩
def h_expressions_in : He.DefD := ⟨("expressions_in", none), "expressions_in", "expressions_in", defArgs (top 42), defBody (top 42), defScope (top 42), [], []⟩
def h_names_read : He.DefD := ⟨("names_read", none), "names_read", "names_read", defArgs (top 43), defBody (top 43), defScope (top 43), [], []⟩
def h__law_cell_at : He.DefD := ⟨("_law_cell_at", none), "_law_cell_at", "_law_cell_at", defArgs (top 45), defBody (top 45), defScope (top 45), [], []⟩
def h__law_samples : He.DefD := ⟨("_law_samples", none), "_law_samples", "_law_samples", defArgs (top 46), defBody (top 46), defScope (top 46), [], []⟩
def h__law_more_samples : He.DefD := ⟨("_law_more_samples", none), "_law_more_samples", "_law_more_samples", defArgs (top 47), defBody (top 47), defScope (top 47), [], []⟩
def h__law_rows : He.DefD := ⟨("_law_rows", none), "_law_rows", "_law_rows", defArgs (top 48), defBody (top 48), defScope (top 48), [], []⟩
def h__law_named : He.DefD := ⟨("_law_named", none), "_law_named", "_law_named", defArgs (top 49), defBody (top 49), defScope (top 49), [], []⟩
def h__law_flat : He.DefD := ⟨("_law_flat", none), "_law_flat", "_law_flat", defArgs (top 50), defBody (top 50), defScope (top 50), [], []⟩
def h__law_telling : He.DefD := ⟨("_law_telling", none), "_law_telling", "_law_telling", defArgs (top 51), defBody (top 51), defScope (top 51), [], []⟩
def h__law_binds : He.DefD := ⟨("_law_binds", none), "_law_binds", "_law_binds", defArgs (top 52), defBody (top 52), defScope (top 52), [], []⟩
def h__law_read : He.DefD := ⟨("_law_read", none), "_law_read", "_law_read", defArgs (top 53), defBody (top 53), defScope (top 53), [], []⟩
def h__law_reads : He.DefD := ⟨("_law_reads", none), "_law_reads", "_law_reads", defArgs (top 54), defBody (top 54), defScope (top 54), [], []⟩
def h__law_more : He.DefD := ⟨("_law_more", none), "_law_more", "_law_more", defArgs (top 55), defBody (top 55), defScope (top 55), [], []⟩
def h__law_count : He.DefD := ⟨("_law_count", none), "_law_count", "_law_count", defArgs (top 56), defBody (top 56), defScope (top 56), [], []⟩
def h_law : He.DefD := ⟨("law", none), "law", "law", defArgs (top 57), defBody (top 57), defScope (top 57), [], []⟩
def h_Around_init : He.DefD := ⟨("Around", some "__init__"), "__init__", "Around.__init__", defArgs (mth 19 0), defBody (mth 19 0), defScope (mth 19 0), [], []⟩
def h_Around_deeper : He.DefD := ⟨("Around", some "deeper"), "deeper", "Around.deeper", defArgs (mth 19 1), defBody (mth 19 1), defScope (mth 19 1), [], []⟩
def fn : List He.DefD := [h_is_number, h_is_name, h_is_path, h_are_names, h_is_expression, h_are_pairs, h_is_from, h_is_within, h_is_plain_row, h_is_said, h_is_row, h_is_def, h_are_rows, h_rows_of_block, h_told_names, h_names_bound, h_own_names, h_is_plain_or_named, h_blocks_in, h_many_rows, h_check_rows, h_bound, h_reached, h_module_bindings, h_rows_by_top, h_bindings_by_top, h_names_in, h_expressions_in, h_names_read, h__law_cell_at] ++ [h__law_samples, h__law_more_samples, h__law_rows, h__law_named, h__law_flat, h__law_telling, h__law_binds, h__law_read, h__law_reads, h__law_more, h__law_count, h_law, h_Around_init, h_Around_deeper]
def fa : List He.Fa := ([.glo "is_number", .glo "is_name", .glo "is_path", .glo "are_names", .glo "is_expression", .glo "are_pairs", .glo "is_from", .glo "is_within", .glo "is_plain_row", .glo "is_said", .glo "is_row", .glo "is_def", .glo "are_rows", .glo "rows_of_block", .glo "told_names", .glo "names_bound", .glo "own_names", .glo "is_plain_or_named", .glo "blocks_in", .glo "many_rows", .glo "check_rows", .glo "bound", .glo "reached", .glo "module_bindings", .glo "rows_by_top", .glo "bindings_by_top", .glo "names_in", .glo "expressions_in", .glo "names_read", .glo "_law_cell_at"] : List He.Fa) ++ ([.glo "_law_samples", .glo "_law_more_samples", .glo "_law_rows", .glo "_law_named", .glo "_law_flat", .glo "_law_telling", .glo "_law_binds", .glo "_law_read", .glo "_law_reads", .glo "_law_more", .glo "_law_count", .glo "law", .glo "Around", .free "all", .free "any", .free "bool", .free "enumerate", .free "int", .free "isinstance", .free "len", .free "list", .free "range", .free "set", .free "sorted", .free "str", .free "sum", .free "tuple", .str "ALL" (sS [42]), .int "DEEPEST" 4, .str "LETTERS" (sS [97, 98, 99, 100, 101, 102, 103, 104, 105, 106, 107, 108, 109, 110, 111, 112, 113, 114, 115, 116, 117, 118, 119, 120, 121, 122])] : List He.Fa) ++ ([.int "LONGEST" 8, .int "MOST_DOTS" 3, .int "MOST_GIVEN" 3, .int "MOST_NAMES" 6, .int "MOST_NUMBER" 9999, .int "MOST_ROWS" 40, .cls "Around", .meth "Around" "deeper", .mkr "Around", .noat "Around" "deep", .noat "Around" "block", .noat "Around" "defs", .noat "Around" "is_own"] : List He.Fa)
def loose : List Str := (["__name__", "ModuleError", "BadRows", "LETTERS", "LONGEST", "MOST_NAMES", "MOST_GIVEN", "DEEPEST", "MOST_ROWS", "MOST_DOTS", "MOST_NUMBER", "ALL", "is_number", "is_name", "is_path", "are_names", "is_expression", "are_pairs", "Around", "is_from", "is_within", "is_plain_row", "is_said", "is_row", "is_def", "are_rows", "rows_of_block", "told_names", "names_bound", "own_names"] : List Str) ++ (["is_plain_or_named", "blocks_in", "many_rows", "check_rows", "bound", "reached", "module_bindings", "rows_by_top", "bindings_by_top", "names_in", "expressions_in", "names_read", "_law_cell_at", "_law_samples", "_law_more_samples", "_law_rows", "_law_named", "_law_flat", "_law_telling", "_law_binds", "_law_read", "_law_reads", "_law_more", "_law_count"] : List Str)
abbrev R : PySem.W.OpenRow := PySem.W.OpenLaw.row PySem.Challenge.rw_modulehall_k04_whole_scopes
abbrev hk : PySem.W.Hook := He.hookD 4 fa fn
def ob (s : PySem.W.SharedT) : He.AlD := He.obsDG 4 fa fn (HandSHeadRun.getT s)
theorem ob_eq (s : PySem.W.SharedT) : ob s = hk.obs s.abs := He.obsDG_eq (HandSHeadRun.getT_eq s)
theorem run (w : World) : HandSHeadRun.RunEq R (PySem.W.view R.prog [57]) hk ob 4000 loose w := by
  intro os
  kernel_rfl
end K04
end
section
set_option Elab.async false
set_option linter.all false
set_option maxRecDepth 100000
set_option maxHeartbeats 4000000
/-! Each def of law k04's text keeps what its walk tells. -/
namespace K04
open PySem PySem.Spec PyProof.Rows L2 PD
def T0 (K : PySem.W.Frag) : Tb := { K := K, cl := fun c => if c = 0 then some ⟨He.ga K "Around", ["deep", "block", "defs", "is_own"]⟩ else none, fn := fun i => match i with
  | 1 => some (He.ga K "is_name")
  | 2 => some (He.ga K "is_path")
  | 9 => some (He.ga K "is_said")
  | _ => none }
def den (C : Nat → List D → Option D) (i : Nat) : List D → Option D := match i with
  | 0 => runG (n_is_number).length 1 false (d_is_number C)
  | 1 => runG (n_is_name).length 1 false (d_is_name C)
  | 2 => runG (n_is_path).length 1 false (d_is_path C)
  | 3 => runG (n_are_names).length 2 false (d_are_names C)
  | 4 => runG (n_is_expression).length 2 false (d_is_expression C)
  | 5 => runG (n_are_pairs).length 1 false (d_are_pairs C)
  | 6 => runG (n_is_from).length 2 false (d_is_from C)
  | 7 => runG (n_is_within).length 2 false (d_is_within C)
  | 8 => runG (n_is_plain_row).length 2 false (d_is_plain_row C)
  | 9 => runG (n_is_said).length 1 false (d_is_said C)
  | 10 => runG (n_is_row).length 2 false (d_is_row C)
  | 11 => runG (n_is_def).length 2 false (d_is_def C)
  | 12 => runG (n_are_rows).length 2 false (d_are_rows C)
  | 13 => runG (n_rows_of_block).length 2 false (d_rows_of_block C)
  | 14 => runG (n_told_names).length 2 false (d_told_names C)
  | 15 => runG (n_names_bound).length 1 false (d_names_bound C)
  | 16 => runG (n_own_names).length 2 false (d_own_names C)
  | 17 => runG (n_is_plain_or_named).length 1 false (d_is_plain_or_named C)
  | 18 => runG (n_blocks_in).length 1 false (d_blocks_in C)
  | 19 => runG (n_many_rows).length 1 false (d_many_rows C)
  | 20 => runG (n_check_rows).length 1 false (d_check_rows C)
  | 21 => runG (n_bound).length 1 true (d_bound C)
  | 22 => runG (n_reached).length 1 true (d_reached C)
  | 23 => runG (n_module_bindings).length 1 true (d_module_bindings C)
  | 24 => runG (n_rows_by_top).length 1 false (d_rows_by_top C)
  | 25 => runG (n_bindings_by_top).length 1 false (d_bindings_by_top C)
  | 26 => runG (n_names_in).length 1 true (d_names_in C)
  | 27 => runG (n_expressions_in).length 1 false (d_expressions_in C)
  | 28 => runG (n_names_read).length 3 false (d_names_read C)
  | 29 => runG (n__law_cell_at).length 2 false (d__law_cell_at C)
  | 30 => runG (n__law_samples).length 0 false (d__law_samples C)
  | 31 => runG (n__law_more_samples).length 3 false (d__law_more_samples C)
  | 32 => runG (n__law_rows).length 3 false (d__law_rows C)
  | 33 => runG (n__law_named).length 1 false (d__law_named C)
  | 34 => runG (n__law_flat).length 1 false (d__law_flat C)
  | 35 => runG (n__law_telling).length 2 false (d__law_telling C)
  | 36 => runG (n__law_binds).length 2 false (d__law_binds C)
  | 37 => runG (n__law_read).length 1 false (d__law_read C)
  | 38 => runG (n__law_reads).length 3 false (d__law_reads C)
  | 39 => runG (n__law_more).length 2 false (d__law_more C)
  | 40 => runG (n__law_count).length 1 false (d__law_count C)
  | 41 => runG (n_law).length 1 false (d_law C)
  | 42 => runG (n_Around_deeper).length 1 false (d_Around_deeper C)
  | _ => fun _ => none
def M : Nat → Nat → List D → Option D
  | 0 => fun _ _ => none
  | k + 1 => den (M k)
theorem s_is_number : FnScope n_is_number ["thing"] (defScope (top 13)) := ⟨rfl, rfl, rfl, by decide +kernel, rfl, by decide +kernel, by decide +kernel⟩
theorem s_is_name : FnScope n_is_name ["thing"] (defScope (top 14)) := ⟨rfl, rfl, rfl, by decide +kernel, rfl, by decide +kernel, by decide +kernel⟩
theorem s_is_path : FnScope n_is_path ["thing"] (defScope (top 15)) := ⟨rfl, rfl, rfl, by decide +kernel, rfl, by decide +kernel, by decide +kernel⟩
theorem s_are_names : FnScope n_are_names ["thing", "least"] (defScope (top 16)) := ⟨rfl, rfl, rfl, by decide +kernel, rfl, by decide +kernel, by decide +kernel⟩
theorem s_is_expression : FnScope n_is_expression ["thing", "within"] (defScope (top 17)) := ⟨rfl, rfl, rfl, by decide +kernel, rfl, by decide +kernel, by decide +kernel⟩
theorem s_are_pairs : FnScope n_are_pairs ["thing"] (defScope (top 18)) := ⟨rfl, rfl, rfl, by decide +kernel, rfl, by decide +kernel, by decide +kernel⟩
theorem s_is_from : FnScope n_is_from ["thing", "around"] (defScope (top 20)) := ⟨rfl, rfl, rfl, by decide +kernel, rfl, by decide +kernel, by decide +kernel⟩
theorem s_is_within : FnScope n_is_within ["thing", "around"] (defScope (top 21)) := ⟨rfl, rfl, rfl, by decide +kernel, rfl, by decide +kernel, by decide +kernel⟩
theorem s_is_plain_row : FnScope n_is_plain_row ["thing", "around"] (defScope (top 22)) := ⟨rfl, rfl, rfl, by decide +kernel, rfl, by decide +kernel, by decide +kernel⟩
theorem s_is_said : FnScope n_is_said ["thing"] (defScope (top 23)) := ⟨rfl, rfl, rfl, by decide +kernel, rfl, by decide +kernel, by decide +kernel⟩
theorem s_is_row : FnScope n_is_row ["thing", "around"] (defScope (top 24)) := ⟨rfl, rfl, rfl, by decide +kernel, rfl, by decide +kernel, by decide +kernel⟩
theorem s_is_def : FnScope n_is_def ["thing", "around"] (defScope (top 25)) := ⟨rfl, rfl, rfl, by decide +kernel, rfl, by decide +kernel, by decide +kernel⟩
theorem s_are_rows : FnScope n_are_rows ["thing", "around"] (defScope (top 26)) := ⟨rfl, rfl, rfl, by decide +kernel, rfl, by decide +kernel, by decide +kernel⟩
theorem s_rows_of_block : FnScope n_rows_of_block ["rows", "deep"] (defScope (top 27)) := ⟨rfl, rfl, rfl, by decide +kernel, rfl, by decide +kernel, by decide +kernel⟩
theorem s_told_names : FnScope n_told_names ["rows", "told"] (defScope (top 28)) := ⟨rfl, rfl, rfl, by decide +kernel, rfl, by decide +kernel, by decide +kernel⟩
theorem s_names_bound : FnScope n_names_bound ["row"] (defScope (top 29)) := ⟨rfl, rfl, rfl, by decide +kernel, rfl, by decide +kernel, by decide +kernel⟩
theorem s_own_names : FnScope n_own_names ["given", "rows"] (defScope (top 30)) := ⟨rfl, rfl, rfl, by decide +kernel, rfl, by decide +kernel, by decide +kernel⟩
theorem s_is_plain_or_named : FnScope n_is_plain_or_named ["row"] (defScope (top 31)) := ⟨rfl, rfl, rfl, by decide +kernel, rfl, by decide +kernel, by decide +kernel⟩
theorem s_blocks_in : FnScope n_blocks_in ["row"] (defScope (top 32)) := ⟨rfl, rfl, rfl, by decide +kernel, rfl, by decide +kernel, by decide +kernel⟩
theorem s_many_rows : FnScope n_many_rows ["rows"] (defScope (top 33)) := ⟨rfl, rfl, rfl, by decide +kernel, rfl, by decide +kernel, by decide +kernel⟩
theorem s_check_rows : FnScope n_check_rows ["thing"] (defScope (top 34)) := ⟨rfl, rfl, rfl, by decide +kernel, rfl, by decide +kernel, by decide +kernel⟩
theorem s_bound : FnScope n_bound ["rows"] (defScope (top 36)) := ⟨rfl, rfl, rfl, by decide +kernel, rfl, by decide +kernel, by decide +kernel⟩
theorem s_reached : FnScope n_reached ["rows"] (defScope (top 37)) := ⟨rfl, rfl, rfl, by decide +kernel, rfl, by decide +kernel, by decide +kernel⟩
theorem s_module_bindings : FnScope n_module_bindings ["rows"] (defScope (top 38)) := ⟨rfl, rfl, rfl, by decide +kernel, rfl, by decide +kernel, by decide +kernel⟩
theorem s_rows_by_top : FnScope n_rows_by_top ["row"] (defScope (top 39)) := ⟨rfl, rfl, rfl, by decide +kernel, rfl, by decide +kernel, by decide +kernel⟩
theorem s_bindings_by_top : FnScope n_bindings_by_top ["row"] (defScope (top 40)) := ⟨rfl, rfl, rfl, by decide +kernel, rfl, by decide +kernel, by decide +kernel⟩
theorem s_names_in : FnScope n_names_in ["expression"] (defScope (top 41)) := ⟨rfl, rfl, rfl, by decide +kernel, rfl, by decide +kernel, by decide +kernel⟩
theorem s_expressions_in : FnScope n_expressions_in ["row"] (defScope (top 42)) := ⟨rfl, rfl, rfl, by decide +kernel, rfl, by decide +kernel, by decide +kernel⟩
theorem s_names_read : FnScope n_names_read ["rows", "defs", "tops"] (defScope (top 43)) := ⟨rfl, rfl, rfl, by decide +kernel, rfl, by decide +kernel, by decide +kernel⟩
theorem s__law_cell_at : FnScope n__law_cell_at ["_law_script", "_law_at"] (defScope (top 45)) := ⟨rfl, rfl, rfl, by decide +kernel, rfl, by decide +kernel, by decide +kernel⟩
theorem s__law_samples : FnScope n__law_samples [] (defScope (top 46)) := ⟨rfl, rfl, rfl, by decide +kernel, rfl, by decide +kernel, by decide +kernel⟩
theorem s__law_more_samples : FnScope n__law_more_samples ["_law_x", "_law_y", "_law_z"] (defScope (top 47)) := ⟨rfl, rfl, rfl, by decide +kernel, rfl, by decide +kernel, by decide +kernel⟩
theorem s__law_rows : FnScope n__law_rows ["_law_script", "_law_at", "_law_samples_here"] (defScope (top 48)) := ⟨rfl, rfl, rfl, by decide +kernel, rfl, by decide +kernel, by decide +kernel⟩
theorem s__law_named : FnScope n__law_named ["_law_row"] (defScope (top 49)) := ⟨rfl, rfl, rfl, by decide +kernel, rfl, by decide +kernel, by decide +kernel⟩
theorem s__law_flat : FnScope n__law_flat ["_law_rows_here"] (defScope (top 50)) := ⟨rfl, rfl, rfl, by decide +kernel, rfl, by decide +kernel, by decide +kernel⟩
theorem s__law_telling : FnScope n__law_telling ["_law_rows_here", "_law_word"] (defScope (top 51)) := ⟨rfl, rfl, rfl, by decide +kernel, rfl, by decide +kernel, by decide +kernel⟩
theorem s__law_binds : FnScope n__law_binds ["_law_rows_here", "_law_tops"] (defScope (top 52)) := ⟨rfl, rfl, rfl, by decide +kernel, rfl, by decide +kernel, by decide +kernel⟩
theorem s__law_read : FnScope n__law_read ["_law_told"] (defScope (top 53)) := ⟨rfl, rfl, rfl, by decide +kernel, rfl, by decide +kernel, by decide +kernel⟩
theorem s__law_reads : FnScope n__law_reads ["_law_rows_here", "_law_around", "_law_tops"] (defScope (top 54)) := ⟨rfl, rfl, rfl, by decide +kernel, rfl, by decide +kernel, by decide +kernel⟩
theorem s__law_more : FnScope n__law_more ["_law_script", "_law_at"] (defScope (top 55)) := ⟨rfl, rfl, rfl, by decide +kernel, rfl, by decide +kernel, by decide +kernel⟩
theorem s__law_count : FnScope n__law_count ["_law_rows_here"] (defScope (top 56)) := ⟨rfl, rfl, rfl, by decide +kernel, rfl, by decide +kernel, by decide +kernel⟩
theorem s_law : FnScope n_law ["_law_script"] (defScope (top 57)) := ⟨rfl, rfl, rfl, by decide +kernel, rfl, by decide +kernel, by decide +kernel⟩
theorem s_Around_deeper : FnScope n_Around_deeper ["self"] (defScope (mth 19 1)) := ⟨rfl, rfl, rfl, by decide +kernel, rfl, by decide +kernel, by decide +kernel⟩
theorem s_Around_init : FnScope ["self", "deep", "block", "defs"] ["self", "deep", "block", "defs"] (defScope (mth 19 0)) := ⟨rfl, rfl, rfl, by decide +kernel, rfl, by decide +kernel, by decide +kernel⟩
theorem nd_deeper : ("deeper" : Str) ∉ (["deep", "block", "defs", "is_own"] : List Str) := by decide
section
variable {P : Program} {w : World} {K : PySem.W.Frag} {mg : Str → Option Value} {base h : Heap}
def t_init (K : PySem.W.Frag) : TS := tSeq (sFld K (tVar 0) (tVar 1) "deep") (tSeq (sFld K (tVar 0) (tVar 2) "block") (tSeq (sFld K (tVar 0) (tVar 3) "defs") (sFld K (tVar 0) (tOp rEq (tVar 1) (tC (.int 1))) "is_own")))
theorem ok_init {f : Addr} {fd : FuncData} (F : FunD K "__init__" "Around.__init__" (defArgs (mth 19 0)) (defBody (mth 19 0)) (defScope (mth 19 0)) [] [] f fd) (hc : Cls K (He.ga K "Around")) (n1 : NoAttr K (He.ga K "Around") "deep") (n2 : NoAttr K (He.ga K "Around") "block") (n3 : NoAttr K (He.ga K "Around") "defs") (n4 : NoAttr K (He.ga K "Around") "is_own") :
    FnOk P w K mg base L2.CX0 1 f fd ["self", "deep", "block", "defs"] (spI (T0 K) 0 mkA) := by
  refine F.ok s_Around_init (fun vs H Q E h => ?_) (fun cdv A outer s H vs Q E hr h => ⟨t_init K, PSs.nox ?_, ?_⟩)
  · obtain ⟨a, k, dx, Hf, ds, ls, xs, rfl, _, _, _, _, h1, h2, _⟩ := h
    have hl : ds.length = 3 := by
      unfold mkA at h2
      split at h2
      · rfl
      · cases h2
    simp [h1.length, hl]
  · exact pss_cons (ps_fld (pe_var rfl (.inl rfl)) (pe_var rfl (.inl rfl)) rfl) (pss_cons (ps_fld (pe_var rfl (.inl rfl)) (pe_var rfl (.inl rfl)) rfl) (pss_cons (ps_fld (pe_var rfl (.inl rfl)) (pe_var rfl (.inl rfl)) rfl) (pss_one (ps_fld (pe_var rfl (.inl rfl)) (pe_cmpR op_eq (pe_var rfl (.inl rfl)) pe_int rfl) rfl))))
  · obtain ⟨a, k, dx, Hf, ds, ls, xs, rfl, hk, hH, hf, hx, h1, h2, q⟩ := h
    unfold mkA at h2
    split at h2
    rotate_left
    · cases h2
    rename_i i b c
    cases h2
    cases hk
    obtain ⟨v1, r1, rfl, g1, w1⟩ := h1
    obtain ⟨v2, r2, rfl, g2, w2⟩ := w1
    obtain ⟨v3, r3, rfl, g3, w3⟩ := w2
    cases w3
    cases (show v1 = .int i from g1)
    refine ⟨_, rfl, _, rfl, a, _, dx, [], rfl, hH, hc, n1, (by decide : (0 : Nat) < 1000), ?_⟩
    refine ⟨_, rfl, _, rfl, a, _, dx, _, rfl, upd_same, hc, n2, (by decide : (1 : Nat) < 1000), ?_⟩
    refine ⟨_, rfl, _, rfl, a, _, dx, _, rfl, upd_same, hc, n3, (by decide : (2 : Nat) < 1000), ?_⟩
    refine ⟨_, rfl, rfl, _, rfl, a, _, dx, _, rfl, upd_same, hc, n4, (by decide : (3 : Nat) < 1000), ?_⟩
    have z := q [.int i, v2, v3, .bl (decide (i = 1))] ⟨_, _, rfl, rfl, _, _, rfl, g2, _, _, rfl, g3, _, _, rfl, rfl, rfl⟩
    rw [PD.upd_upd, PD.upd_upd, PD.upd_upd]
    have e : decide (V.int i = V.int 1) = decide (i = 1) := by
      by_cases e : i = 1
      · subst e; simp
      · simp [e]
    rw [e]
    exact z

theorem has_of {T : Tb} {lv : Nat} {Mf : List D → Option D} {fr : Bool} {x qual : Str} {params : Arguments} {body : List Stmt} {scope : Scope} {f : Addr} {fd : FuncData} {ps : List Str} (F : FunD K x qual params body scope [] [] f fd) (hm : mg x = some (.ref f)) (hF : FnOk P w K mg base L2.CX0 lv f fd ps (spF T Mf fr))
    (hb : ∀ (kV doc pm : Value) (an : Option Addr) (cdv ct : Value) (us : List Value), us.length = ps.length → bindArgs (PySem.W.fnOf x qual params body scope .none kV doc pm an cdv ct) ⟨us, []⟩ = pure (ps.zip us)) : Has P w K mg base T lv Mf fr x [] := ⟨⟨f, fd, ps, [], hF, hm, F.kp, F.bindsN hb, .nil⟩⟩
theorem bd_is_number (kV doc pm : Value) (an : Option Addr) (cdv ct : Value) (us : List Value) (hl : us.length = 1) : bindArgs (PySem.W.fnOf "is_number" "is_number" (defArgs (top 13)) (defBody (top 13)) (defScope (top 13)) .none kV doc pm an cdv ct) ⟨us, []⟩ = pure ((["thing"] : List Str).zip us) := match us, hl with | [_], _ => by kernel_rfl
abbrev Fu_is_number (K : PySem.W.Frag) (fd : FuncData) : Prop := FunD K "is_number" "is_number" (defArgs (top 13)) (defBody (top 13)) (defScope (top 13)) [] [] (He.ga K "is_number") fd
theorem z_is_number (c : He.SaysD fa fn K) : ∃ fd, Fu_is_number K fd := c.def_ 0 (d := h_is_number) rfl
theorem y_is_number {T : Tb} {lv : Nat} {Mf : List D → Option D} {fd : FuncData} (F : Fu_is_number K fd) (hm : mg "is_number" = some (.ref (He.ga K "is_number"))) (hF : FnOk P w K mg base L2.CX0 lv (He.ga K "is_number") fd ["thing"] (spF T Mf false)) : Has P w K mg base T lv Mf false "is_number" [] := has_of F hm hF bd_is_number
theorem x_is_number {C : Nat → List D → Option D} {lv : Nat} {fd : FuncData} (F : Fu_is_number K fd) (G : Gx P w K mg base (T0 K) C lv) (h2 : 2 ≤ lv) : FnOk P w K mg base L2.CX0 (lv + 1) (He.ga K "is_number") fd ["thing"] (spF (T0 K) (den C 0) false) := fn_ok F s_is_number fun cdv A outer s H E hr => b_is_number rfl G hr (hr.mono h2) s_is_number.nd
theorem bd_is_name (kV doc pm : Value) (an : Option Addr) (cdv ct : Value) (us : List Value) (hl : us.length = 1) : bindArgs (PySem.W.fnOf "is_name" "is_name" (defArgs (top 14)) (defBody (top 14)) (defScope (top 14)) .none kV doc pm an cdv ct) ⟨us, []⟩ = pure ((["thing"] : List Str).zip us) := match us, hl with | [_], _ => by kernel_rfl
abbrev Fu_is_name (K : PySem.W.Frag) (fd : FuncData) : Prop := FunD K "is_name" "is_name" (defArgs (top 14)) (defBody (top 14)) (defScope (top 14)) [] [] (He.ga K "is_name") fd
theorem z_is_name (c : He.SaysD fa fn K) : ∃ fd, Fu_is_name K fd := c.def_ 1 (d := h_is_name) rfl
theorem y_is_name {T : Tb} {lv : Nat} {Mf : List D → Option D} {fd : FuncData} (F : Fu_is_name K fd) (hm : mg "is_name" = some (.ref (He.ga K "is_name"))) (hF : FnOk P w K mg base L2.CX0 lv (He.ga K "is_name") fd ["thing"] (spF T Mf false)) : Has P w K mg base T lv Mf false "is_name" [] := has_of F hm hF bd_is_name
theorem x_is_name {C : Nat → List D → Option D} {lv : Nat} {fd : FuncData} (F : Fu_is_name K fd) (G : Gx P w K mg base (T0 K) C lv) (h2 : 2 ≤ lv) : FnOk P w K mg base L2.CX0 (lv + 1) (He.ga K "is_name") fd ["thing"] (spF (T0 K) (den C 1) false) := fn_ok F s_is_name fun cdv A outer s H E hr => b_is_name rfl G hr (hr.mono h2) s_is_name.nd
theorem bd_is_path (kV doc pm : Value) (an : Option Addr) (cdv ct : Value) (us : List Value) (hl : us.length = 1) : bindArgs (PySem.W.fnOf "is_path" "is_path" (defArgs (top 15)) (defBody (top 15)) (defScope (top 15)) .none kV doc pm an cdv ct) ⟨us, []⟩ = pure ((["thing"] : List Str).zip us) := match us, hl with | [_], _ => by kernel_rfl
abbrev Fu_is_path (K : PySem.W.Frag) (fd : FuncData) : Prop := FunD K "is_path" "is_path" (defArgs (top 15)) (defBody (top 15)) (defScope (top 15)) [] [] (He.ga K "is_path") fd
theorem z_is_path (c : He.SaysD fa fn K) : ∃ fd, Fu_is_path K fd := c.def_ 2 (d := h_is_path) rfl
theorem y_is_path {T : Tb} {lv : Nat} {Mf : List D → Option D} {fd : FuncData} (F : Fu_is_path K fd) (hm : mg "is_path" = some (.ref (He.ga K "is_path"))) (hF : FnOk P w K mg base L2.CX0 lv (He.ga K "is_path") fd ["thing"] (spF T Mf false)) : Has P w K mg base T lv Mf false "is_path" [] := has_of F hm hF bd_is_path
theorem x_is_path {C : Nat → List D → Option D} {lv : Nat} {fd : FuncData} (F : Fu_is_path K fd) (G : Gx P w K mg base (T0 K) C lv) (h2 : 2 ≤ lv) : FnOk P w K mg base L2.CX0 (lv + 1) (He.ga K "is_path") fd ["thing"] (spF (T0 K) (den C 2) false) := fn_ok F s_is_path fun cdv A outer s H E hr => b_is_path rfl G hr (hr.mono h2) s_is_path.nd
theorem bd_are_names (kV doc pm : Value) (an : Option Addr) (cdv ct : Value) (us : List Value) (hl : us.length = 2) : bindArgs (PySem.W.fnOf "are_names" "are_names" (defArgs (top 16)) (defBody (top 16)) (defScope (top 16)) .none kV doc pm an cdv ct) ⟨us, []⟩ = pure ((["thing", "least"] : List Str).zip us) := match us, hl with | [_, _], _ => by kernel_rfl
abbrev Fu_are_names (K : PySem.W.Frag) (fd : FuncData) : Prop := FunD K "are_names" "are_names" (defArgs (top 16)) (defBody (top 16)) (defScope (top 16)) [] [] (He.ga K "are_names") fd
theorem z_are_names (c : He.SaysD fa fn K) : ∃ fd, Fu_are_names K fd := c.def_ 3 (d := h_are_names) rfl
theorem y_are_names {T : Tb} {lv : Nat} {Mf : List D → Option D} {fd : FuncData} (F : Fu_are_names K fd) (hm : mg "are_names" = some (.ref (He.ga K "are_names"))) (hF : FnOk P w K mg base L2.CX0 lv (He.ga K "are_names") fd ["thing", "least"] (spF T Mf false)) : Has P w K mg base T lv Mf false "are_names" [] := has_of F hm hF bd_are_names
theorem x_are_names {C : Nat → List D → Option D} {lv : Nat} {fd : FuncData} (F : Fu_are_names K fd) (G : Gx P w K mg base (T0 K) C lv) (h2 : 2 ≤ lv) : FnOk P w K mg base L2.CX0 (lv + 1) (He.ga K "are_names") fd ["thing", "least"] (spF (T0 K) (den C 3) false) := fn_ok F s_are_names fun cdv A outer s H E hr => b_are_names rfl G hr (hr.mono h2) s_are_names.nd
theorem bd_is_expression (kV doc pm : Value) (an : Option Addr) (cdv ct : Value) (us : List Value) (hl : us.length = 2) : bindArgs (PySem.W.fnOf "is_expression" "is_expression" (defArgs (top 17)) (defBody (top 17)) (defScope (top 17)) .none kV doc pm an cdv ct) ⟨us, []⟩ = pure ((["thing", "within"] : List Str).zip us) := match us, hl with | [_, _], _ => by kernel_rfl
abbrev Fu_is_expression (K : PySem.W.Frag) (fd : FuncData) : Prop := FunD K "is_expression" "is_expression" (defArgs (top 17)) (defBody (top 17)) (defScope (top 17)) [] [] (He.ga K "is_expression") fd
theorem z_is_expression (c : He.SaysD fa fn K) : ∃ fd, Fu_is_expression K fd := c.def_ 4 (d := h_is_expression) rfl
theorem y_is_expression {T : Tb} {lv : Nat} {Mf : List D → Option D} {fd : FuncData} (F : Fu_is_expression K fd) (hm : mg "is_expression" = some (.ref (He.ga K "is_expression"))) (hF : FnOk P w K mg base L2.CX0 lv (He.ga K "is_expression") fd ["thing", "within"] (spF T Mf false)) : Has P w K mg base T lv Mf false "is_expression" [] := has_of F hm hF bd_is_expression
theorem x_is_expression {C : Nat → List D → Option D} {lv : Nat} {fd : FuncData} (F : Fu_is_expression K fd) (G : Gx P w K mg base (T0 K) C lv) (h2 : 2 ≤ lv) : FnOk P w K mg base L2.CX0 (lv + 1) (He.ga K "is_expression") fd ["thing", "within"] (spF (T0 K) (den C 4) false) := fn_ok F s_is_expression fun cdv A outer s H E hr => b_is_expression rfl G hr (hr.mono h2) s_is_expression.nd
theorem bd_are_pairs (kV doc pm : Value) (an : Option Addr) (cdv ct : Value) (us : List Value) (hl : us.length = 1) : bindArgs (PySem.W.fnOf "are_pairs" "are_pairs" (defArgs (top 18)) (defBody (top 18)) (defScope (top 18)) .none kV doc pm an cdv ct) ⟨us, []⟩ = pure ((["thing"] : List Str).zip us) := match us, hl with | [_], _ => by kernel_rfl
abbrev Fu_are_pairs (K : PySem.W.Frag) (fd : FuncData) : Prop := FunD K "are_pairs" "are_pairs" (defArgs (top 18)) (defBody (top 18)) (defScope (top 18)) [] [] (He.ga K "are_pairs") fd
theorem z_are_pairs (c : He.SaysD fa fn K) : ∃ fd, Fu_are_pairs K fd := c.def_ 5 (d := h_are_pairs) rfl
theorem y_are_pairs {T : Tb} {lv : Nat} {Mf : List D → Option D} {fd : FuncData} (F : Fu_are_pairs K fd) (hm : mg "are_pairs" = some (.ref (He.ga K "are_pairs"))) (hF : FnOk P w K mg base L2.CX0 lv (He.ga K "are_pairs") fd ["thing"] (spF T Mf false)) : Has P w K mg base T lv Mf false "are_pairs" [] := has_of F hm hF bd_are_pairs
theorem x_are_pairs {C : Nat → List D → Option D} {lv : Nat} {fd : FuncData} (F : Fu_are_pairs K fd) (G : Gx P w K mg base (T0 K) C lv) (h2 : 2 ≤ lv) : FnOk P w K mg base L2.CX0 (lv + 1) (He.ga K "are_pairs") fd ["thing"] (spF (T0 K) (den C 5) false) := fn_ok F s_are_pairs fun cdv A outer s H E hr => b_are_pairs rfl G hr (hr.mono h2) s_are_pairs.nd
theorem bd_is_from (kV doc pm : Value) (an : Option Addr) (cdv ct : Value) (us : List Value) (hl : us.length = 2) : bindArgs (PySem.W.fnOf "is_from" "is_from" (defArgs (top 20)) (defBody (top 20)) (defScope (top 20)) .none kV doc pm an cdv ct) ⟨us, []⟩ = pure ((["thing", "around"] : List Str).zip us) := match us, hl with | [_, _], _ => by kernel_rfl
abbrev Fu_is_from (K : PySem.W.Frag) (fd : FuncData) : Prop := FunD K "is_from" "is_from" (defArgs (top 20)) (defBody (top 20)) (defScope (top 20)) [] [] (He.ga K "is_from") fd
theorem z_is_from (c : He.SaysD fa fn K) : ∃ fd, Fu_is_from K fd := c.def_ 6 (d := h_is_from) rfl
theorem y_is_from {T : Tb} {lv : Nat} {Mf : List D → Option D} {fd : FuncData} (F : Fu_is_from K fd) (hm : mg "is_from" = some (.ref (He.ga K "is_from"))) (hF : FnOk P w K mg base L2.CX0 lv (He.ga K "is_from") fd ["thing", "around"] (spF T Mf false)) : Has P w K mg base T lv Mf false "is_from" [] := has_of F hm hF bd_is_from
theorem x_is_from {C : Nat → List D → Option D} {lv : Nat} {fd : FuncData} (F : Fu_is_from K fd) (G : Gx P w K mg base (T0 K) C lv) (h2 : 2 ≤ lv) : FnOk P w K mg base L2.CX0 (lv + 1) (He.ga K "is_from") fd ["thing", "around"] (spF (T0 K) (den C 6) false) := fn_ok F s_is_from fun cdv A outer s H E hr => b_is_from rfl G hr (hr.mono h2) s_is_from.nd
theorem bd_is_within (kV doc pm : Value) (an : Option Addr) (cdv ct : Value) (us : List Value) (hl : us.length = 2) : bindArgs (PySem.W.fnOf "is_within" "is_within" (defArgs (top 21)) (defBody (top 21)) (defScope (top 21)) .none kV doc pm an cdv ct) ⟨us, []⟩ = pure ((["thing", "around"] : List Str).zip us) := match us, hl with | [_, _], _ => by kernel_rfl
abbrev Fu_is_within (K : PySem.W.Frag) (fd : FuncData) : Prop := FunD K "is_within" "is_within" (defArgs (top 21)) (defBody (top 21)) (defScope (top 21)) [] [] (He.ga K "is_within") fd
theorem z_is_within (c : He.SaysD fa fn K) : ∃ fd, Fu_is_within K fd := c.def_ 7 (d := h_is_within) rfl
theorem y_is_within {T : Tb} {lv : Nat} {Mf : List D → Option D} {fd : FuncData} (F : Fu_is_within K fd) (hm : mg "is_within" = some (.ref (He.ga K "is_within"))) (hF : FnOk P w K mg base L2.CX0 lv (He.ga K "is_within") fd ["thing", "around"] (spF T Mf false)) : Has P w K mg base T lv Mf false "is_within" [] := has_of F hm hF bd_is_within
theorem x_is_within {C : Nat → List D → Option D} {lv : Nat} {fd : FuncData} (F : Fu_is_within K fd) (G : Gx P w K mg base (T0 K) C lv) (h2 : 2 ≤ lv) : FnOk P w K mg base L2.CX0 (lv + 1) (He.ga K "is_within") fd ["thing", "around"] (spF (T0 K) (den C 7) false) := fn_ok F s_is_within fun cdv A outer s H E hr => b_is_within rfl G hr (hr.mono h2) s_is_within.nd
theorem bd_is_plain_row (kV doc pm : Value) (an : Option Addr) (cdv ct : Value) (us : List Value) (hl : us.length = 2) : bindArgs (PySem.W.fnOf "is_plain_row" "is_plain_row" (defArgs (top 22)) (defBody (top 22)) (defScope (top 22)) .none kV doc pm an cdv ct) ⟨us, []⟩ = pure ((["thing", "around"] : List Str).zip us) := match us, hl with | [_, _], _ => by kernel_rfl
abbrev Fu_is_plain_row (K : PySem.W.Frag) (fd : FuncData) : Prop := FunD K "is_plain_row" "is_plain_row" (defArgs (top 22)) (defBody (top 22)) (defScope (top 22)) [] [] (He.ga K "is_plain_row") fd
theorem z_is_plain_row (c : He.SaysD fa fn K) : ∃ fd, Fu_is_plain_row K fd := c.def_ 8 (d := h_is_plain_row) rfl
theorem y_is_plain_row {T : Tb} {lv : Nat} {Mf : List D → Option D} {fd : FuncData} (F : Fu_is_plain_row K fd) (hm : mg "is_plain_row" = some (.ref (He.ga K "is_plain_row"))) (hF : FnOk P w K mg base L2.CX0 lv (He.ga K "is_plain_row") fd ["thing", "around"] (spF T Mf false)) : Has P w K mg base T lv Mf false "is_plain_row" [] := has_of F hm hF bd_is_plain_row
theorem x_is_plain_row {C : Nat → List D → Option D} {lv : Nat} {fd : FuncData} (F : Fu_is_plain_row K fd) (G : Gx P w K mg base (T0 K) C lv) (h2 : 2 ≤ lv) : FnOk P w K mg base L2.CX0 (lv + 1) (He.ga K "is_plain_row") fd ["thing", "around"] (spF (T0 K) (den C 8) false) := fn_ok F s_is_plain_row fun cdv A outer s H E hr => b_is_plain_row rfl G hr (hr.mono h2) s_is_plain_row.nd
theorem bd_is_said (kV doc pm : Value) (an : Option Addr) (cdv ct : Value) (us : List Value) (hl : us.length = 1) : bindArgs (PySem.W.fnOf "is_said" "is_said" (defArgs (top 23)) (defBody (top 23)) (defScope (top 23)) .none kV doc pm an cdv ct) ⟨us, []⟩ = pure ((["thing"] : List Str).zip us) := match us, hl with | [_], _ => by kernel_rfl
abbrev Fu_is_said (K : PySem.W.Frag) (fd : FuncData) : Prop := FunD K "is_said" "is_said" (defArgs (top 23)) (defBody (top 23)) (defScope (top 23)) [] [] (He.ga K "is_said") fd
theorem z_is_said (c : He.SaysD fa fn K) : ∃ fd, Fu_is_said K fd := c.def_ 9 (d := h_is_said) rfl
theorem y_is_said {T : Tb} {lv : Nat} {Mf : List D → Option D} {fd : FuncData} (F : Fu_is_said K fd) (hm : mg "is_said" = some (.ref (He.ga K "is_said"))) (hF : FnOk P w K mg base L2.CX0 lv (He.ga K "is_said") fd ["thing"] (spF T Mf false)) : Has P w K mg base T lv Mf false "is_said" [] := has_of F hm hF bd_is_said
theorem x_is_said {C : Nat → List D → Option D} {lv : Nat} {fd : FuncData} (F : Fu_is_said K fd) (G : Gx P w K mg base (T0 K) C lv) (h2 : 2 ≤ lv) : FnOk P w K mg base L2.CX0 (lv + 1) (He.ga K "is_said") fd ["thing"] (spF (T0 K) (den C 9) false) := fn_ok F s_is_said fun cdv A outer s H E hr => b_is_said rfl G hr (hr.mono h2) s_is_said.nd
theorem bd_is_row (kV doc pm : Value) (an : Option Addr) (cdv ct : Value) (us : List Value) (hl : us.length = 2) : bindArgs (PySem.W.fnOf "is_row" "is_row" (defArgs (top 24)) (defBody (top 24)) (defScope (top 24)) .none kV doc pm an cdv ct) ⟨us, []⟩ = pure ((["thing", "around"] : List Str).zip us) := match us, hl with | [_, _], _ => by kernel_rfl
abbrev Fu_is_row (K : PySem.W.Frag) (fd : FuncData) : Prop := FunD K "is_row" "is_row" (defArgs (top 24)) (defBody (top 24)) (defScope (top 24)) [] [] (He.ga K "is_row") fd
theorem z_is_row (c : He.SaysD fa fn K) : ∃ fd, Fu_is_row K fd := c.def_ 10 (d := h_is_row) rfl
theorem y_is_row {T : Tb} {lv : Nat} {Mf : List D → Option D} {fd : FuncData} (F : Fu_is_row K fd) (hm : mg "is_row" = some (.ref (He.ga K "is_row"))) (hF : FnOk P w K mg base L2.CX0 lv (He.ga K "is_row") fd ["thing", "around"] (spF T Mf false)) : Has P w K mg base T lv Mf false "is_row" [] := has_of F hm hF bd_is_row
theorem x_is_row {C : Nat → List D → Option D} {lv : Nat} {fd : FuncData} (F : Fu_is_row K fd) (G : Gx P w K mg base (T0 K) C lv) (h2 : 2 ≤ lv) : FnOk P w K mg base L2.CX0 (lv + 1) (He.ga K "is_row") fd ["thing", "around"] (spF (T0 K) (den C 10) false) := fn_ok F s_is_row fun cdv A outer s H E hr => b_is_row rfl G hr (hr.mono h2) s_is_row.nd
theorem bd_is_def (kV doc pm : Value) (an : Option Addr) (cdv ct : Value) (us : List Value) (hl : us.length = 2) : bindArgs (PySem.W.fnOf "is_def" "is_def" (defArgs (top 25)) (defBody (top 25)) (defScope (top 25)) .none kV doc pm an cdv ct) ⟨us, []⟩ = pure ((["thing", "around"] : List Str).zip us) := match us, hl with | [_, _], _ => by kernel_rfl
abbrev Fu_is_def (K : PySem.W.Frag) (fd : FuncData) : Prop := FunD K "is_def" "is_def" (defArgs (top 25)) (defBody (top 25)) (defScope (top 25)) [] [] (He.ga K "is_def") fd
theorem z_is_def (c : He.SaysD fa fn K) : ∃ fd, Fu_is_def K fd := c.def_ 11 (d := h_is_def) rfl
theorem y_is_def {T : Tb} {lv : Nat} {Mf : List D → Option D} {fd : FuncData} (F : Fu_is_def K fd) (hm : mg "is_def" = some (.ref (He.ga K "is_def"))) (hF : FnOk P w K mg base L2.CX0 lv (He.ga K "is_def") fd ["thing", "around"] (spF T Mf false)) : Has P w K mg base T lv Mf false "is_def" [] := has_of F hm hF bd_is_def
theorem x_is_def {C : Nat → List D → Option D} {lv : Nat} {fd : FuncData} (F : Fu_is_def K fd) (G : Gx P w K mg base (T0 K) C lv) (h2 : 2 ≤ lv) : FnOk P w K mg base L2.CX0 (lv + 1) (He.ga K "is_def") fd ["thing", "around"] (spF (T0 K) (den C 11) false) := fn_ok F s_is_def fun cdv A outer s H E hr => b_is_def rfl G hr (hr.mono h2) s_is_def.nd
theorem bd_are_rows (kV doc pm : Value) (an : Option Addr) (cdv ct : Value) (us : List Value) (hl : us.length = 2) : bindArgs (PySem.W.fnOf "are_rows" "are_rows" (defArgs (top 26)) (defBody (top 26)) (defScope (top 26)) .none kV doc pm an cdv ct) ⟨us, []⟩ = pure ((["thing", "around"] : List Str).zip us) := match us, hl with | [_, _], _ => by kernel_rfl
abbrev Fu_are_rows (K : PySem.W.Frag) (fd : FuncData) : Prop := FunD K "are_rows" "are_rows" (defArgs (top 26)) (defBody (top 26)) (defScope (top 26)) [] [] (He.ga K "are_rows") fd
theorem z_are_rows (c : He.SaysD fa fn K) : ∃ fd, Fu_are_rows K fd := c.def_ 12 (d := h_are_rows) rfl
theorem y_are_rows {T : Tb} {lv : Nat} {Mf : List D → Option D} {fd : FuncData} (F : Fu_are_rows K fd) (hm : mg "are_rows" = some (.ref (He.ga K "are_rows"))) (hF : FnOk P w K mg base L2.CX0 lv (He.ga K "are_rows") fd ["thing", "around"] (spF T Mf false)) : Has P w K mg base T lv Mf false "are_rows" [] := has_of F hm hF bd_are_rows
theorem x_are_rows {C : Nat → List D → Option D} {lv : Nat} {fd : FuncData} (F : Fu_are_rows K fd) (G : Gx P w K mg base (T0 K) C lv) (h2 : 2 ≤ lv) : FnOk P w K mg base L2.CX0 (lv + 1) (He.ga K "are_rows") fd ["thing", "around"] (spF (T0 K) (den C 12) false) := fn_ok F s_are_rows fun cdv A outer s H E hr => b_are_rows rfl G hr (hr.mono h2) s_are_rows.nd
theorem bd_told_names (kV doc pm : Value) (an : Option Addr) (cdv ct : Value) (us : List Value) (hl : us.length = 2) : bindArgs (PySem.W.fnOf "told_names" "told_names" (defArgs (top 28)) (defBody (top 28)) (defScope (top 28)) .none kV doc pm an cdv ct) ⟨us, []⟩ = pure ((["rows", "told"] : List Str).zip us) := match us, hl with | [_, _], _ => by kernel_rfl
abbrev Fu_told_names (K : PySem.W.Frag) (fd : FuncData) : Prop := FunD K "told_names" "told_names" (defArgs (top 28)) (defBody (top 28)) (defScope (top 28)) [] [] (He.ga K "told_names") fd
theorem z_told_names (c : He.SaysD fa fn K) : ∃ fd, Fu_told_names K fd := c.def_ 14 (d := h_told_names) rfl
theorem y_told_names {T : Tb} {lv : Nat} {Mf : List D → Option D} {fd : FuncData} (F : Fu_told_names K fd) (hm : mg "told_names" = some (.ref (He.ga K "told_names"))) (hF : FnOk P w K mg base L2.CX0 lv (He.ga K "told_names") fd ["rows", "told"] (spF T Mf false)) : Has P w K mg base T lv Mf false "told_names" [] := has_of F hm hF bd_told_names
theorem x_told_names {C : Nat → List D → Option D} {lv : Nat} {fd : FuncData} (F : Fu_told_names K fd) (G : Gx P w K mg base (T0 K) C lv) (h2 : 2 ≤ lv) : FnOk P w K mg base L2.CX0 (lv + 1) (He.ga K "told_names") fd ["rows", "told"] (spF (T0 K) (den C 14) false) := fn_ok F s_told_names fun cdv A outer s H E hr => b_told_names rfl G hr (hr.mono h2) s_told_names.nd
theorem bd_names_bound (kV doc pm : Value) (an : Option Addr) (cdv ct : Value) (us : List Value) (hl : us.length = 1) : bindArgs (PySem.W.fnOf "names_bound" "names_bound" (defArgs (top 29)) (defBody (top 29)) (defScope (top 29)) .none kV doc pm an cdv ct) ⟨us, []⟩ = pure ((["row"] : List Str).zip us) := match us, hl with | [_], _ => by kernel_rfl
abbrev Fu_names_bound (K : PySem.W.Frag) (fd : FuncData) : Prop := FunD K "names_bound" "names_bound" (defArgs (top 29)) (defBody (top 29)) (defScope (top 29)) [] [] (He.ga K "names_bound") fd
theorem z_names_bound (c : He.SaysD fa fn K) : ∃ fd, Fu_names_bound K fd := c.def_ 15 (d := h_names_bound) rfl
theorem y_names_bound {T : Tb} {lv : Nat} {Mf : List D → Option D} {fd : FuncData} (F : Fu_names_bound K fd) (hm : mg "names_bound" = some (.ref (He.ga K "names_bound"))) (hF : FnOk P w K mg base L2.CX0 lv (He.ga K "names_bound") fd ["row"] (spF T Mf false)) : Has P w K mg base T lv Mf false "names_bound" [] := has_of F hm hF bd_names_bound
theorem x_names_bound {C : Nat → List D → Option D} {lv : Nat} {fd : FuncData} (F : Fu_names_bound K fd) (G : Gx P w K mg base (T0 K) C lv) (h2 : 2 ≤ lv) : FnOk P w K mg base L2.CX0 (lv + 1) (He.ga K "names_bound") fd ["row"] (spF (T0 K) (den C 15) false) := fn_ok F s_names_bound fun cdv A outer s H E hr => b_names_bound rfl G hr (hr.mono h2) s_names_bound.nd
theorem bd_own_names (kV doc pm : Value) (an : Option Addr) (cdv ct : Value) (us : List Value) (hl : us.length = 2) : bindArgs (PySem.W.fnOf "own_names" "own_names" (defArgs (top 30)) (defBody (top 30)) (defScope (top 30)) .none kV doc pm an cdv ct) ⟨us, []⟩ = pure ((["given", "rows"] : List Str).zip us) := match us, hl with | [_, _], _ => by kernel_rfl
abbrev Fu_own_names (K : PySem.W.Frag) (fd : FuncData) : Prop := FunD K "own_names" "own_names" (defArgs (top 30)) (defBody (top 30)) (defScope (top 30)) [] [] (He.ga K "own_names") fd
theorem z_own_names (c : He.SaysD fa fn K) : ∃ fd, Fu_own_names K fd := c.def_ 16 (d := h_own_names) rfl
theorem y_own_names {T : Tb} {lv : Nat} {Mf : List D → Option D} {fd : FuncData} (F : Fu_own_names K fd) (hm : mg "own_names" = some (.ref (He.ga K "own_names"))) (hF : FnOk P w K mg base L2.CX0 lv (He.ga K "own_names") fd ["given", "rows"] (spF T Mf false)) : Has P w K mg base T lv Mf false "own_names" [] := has_of F hm hF bd_own_names
theorem x_own_names {C : Nat → List D → Option D} {lv : Nat} {fd : FuncData} (F : Fu_own_names K fd) (G : Gx P w K mg base (T0 K) C lv) (h2 : 2 ≤ lv) : FnOk P w K mg base L2.CX0 (lv + 1) (He.ga K "own_names") fd ["given", "rows"] (spF (T0 K) (den C 16) false) := fn_ok F s_own_names fun cdv A outer s H E hr => b_own_names rfl G hr (hr.mono h2) s_own_names.nd
theorem bd_is_plain_or_named (kV doc pm : Value) (an : Option Addr) (cdv ct : Value) (us : List Value) (hl : us.length = 1) : bindArgs (PySem.W.fnOf "is_plain_or_named" "is_plain_or_named" (defArgs (top 31)) (defBody (top 31)) (defScope (top 31)) .none kV doc pm an cdv ct) ⟨us, []⟩ = pure ((["row"] : List Str).zip us) := match us, hl with | [_], _ => by kernel_rfl
abbrev Fu_is_plain_or_named (K : PySem.W.Frag) (fd : FuncData) : Prop := FunD K "is_plain_or_named" "is_plain_or_named" (defArgs (top 31)) (defBody (top 31)) (defScope (top 31)) [] [] (He.ga K "is_plain_or_named") fd
theorem z_is_plain_or_named (c : He.SaysD fa fn K) : ∃ fd, Fu_is_plain_or_named K fd := c.def_ 17 (d := h_is_plain_or_named) rfl
theorem y_is_plain_or_named {T : Tb} {lv : Nat} {Mf : List D → Option D} {fd : FuncData} (F : Fu_is_plain_or_named K fd) (hm : mg "is_plain_or_named" = some (.ref (He.ga K "is_plain_or_named"))) (hF : FnOk P w K mg base L2.CX0 lv (He.ga K "is_plain_or_named") fd ["row"] (spF T Mf false)) : Has P w K mg base T lv Mf false "is_plain_or_named" [] := has_of F hm hF bd_is_plain_or_named
theorem x_is_plain_or_named {C : Nat → List D → Option D} {lv : Nat} {fd : FuncData} (F : Fu_is_plain_or_named K fd) (G : Gx P w K mg base (T0 K) C lv) (h2 : 2 ≤ lv) : FnOk P w K mg base L2.CX0 (lv + 1) (He.ga K "is_plain_or_named") fd ["row"] (spF (T0 K) (den C 17) false) := fn_ok F s_is_plain_or_named fun cdv A outer s H E hr => b_is_plain_or_named rfl G hr (hr.mono h2) s_is_plain_or_named.nd
theorem bd_blocks_in (kV doc pm : Value) (an : Option Addr) (cdv ct : Value) (us : List Value) (hl : us.length = 1) : bindArgs (PySem.W.fnOf "blocks_in" "blocks_in" (defArgs (top 32)) (defBody (top 32)) (defScope (top 32)) .none kV doc pm an cdv ct) ⟨us, []⟩ = pure ((["row"] : List Str).zip us) := match us, hl with | [_], _ => by kernel_rfl
abbrev Fu_blocks_in (K : PySem.W.Frag) (fd : FuncData) : Prop := FunD K "blocks_in" "blocks_in" (defArgs (top 32)) (defBody (top 32)) (defScope (top 32)) [] [] (He.ga K "blocks_in") fd
theorem z_blocks_in (c : He.SaysD fa fn K) : ∃ fd, Fu_blocks_in K fd := c.def_ 18 (d := h_blocks_in) rfl
theorem y_blocks_in {T : Tb} {lv : Nat} {Mf : List D → Option D} {fd : FuncData} (F : Fu_blocks_in K fd) (hm : mg "blocks_in" = some (.ref (He.ga K "blocks_in"))) (hF : FnOk P w K mg base L2.CX0 lv (He.ga K "blocks_in") fd ["row"] (spF T Mf false)) : Has P w K mg base T lv Mf false "blocks_in" [] := has_of F hm hF bd_blocks_in
theorem x_blocks_in {C : Nat → List D → Option D} {lv : Nat} {fd : FuncData} (F : Fu_blocks_in K fd) (G : Gx P w K mg base (T0 K) C lv) (h2 : 2 ≤ lv) : FnOk P w K mg base L2.CX0 (lv + 1) (He.ga K "blocks_in") fd ["row"] (spF (T0 K) (den C 18) false) := fn_ok F s_blocks_in fun cdv A outer s H E hr => b_blocks_in rfl G hr (hr.mono h2) s_blocks_in.nd
theorem bd_many_rows (kV doc pm : Value) (an : Option Addr) (cdv ct : Value) (us : List Value) (hl : us.length = 1) : bindArgs (PySem.W.fnOf "many_rows" "many_rows" (defArgs (top 33)) (defBody (top 33)) (defScope (top 33)) .none kV doc pm an cdv ct) ⟨us, []⟩ = pure ((["rows"] : List Str).zip us) := match us, hl with | [_], _ => by kernel_rfl
abbrev Fu_many_rows (K : PySem.W.Frag) (fd : FuncData) : Prop := FunD K "many_rows" "many_rows" (defArgs (top 33)) (defBody (top 33)) (defScope (top 33)) [] [] (He.ga K "many_rows") fd
theorem z_many_rows (c : He.SaysD fa fn K) : ∃ fd, Fu_many_rows K fd := c.def_ 19 (d := h_many_rows) rfl
theorem y_many_rows {T : Tb} {lv : Nat} {Mf : List D → Option D} {fd : FuncData} (F : Fu_many_rows K fd) (hm : mg "many_rows" = some (.ref (He.ga K "many_rows"))) (hF : FnOk P w K mg base L2.CX0 lv (He.ga K "many_rows") fd ["rows"] (spF T Mf false)) : Has P w K mg base T lv Mf false "many_rows" [] := has_of F hm hF bd_many_rows
theorem x_many_rows {C : Nat → List D → Option D} {lv : Nat} {fd : FuncData} (F : Fu_many_rows K fd) (G : Gx P w K mg base (T0 K) C lv) (h2 : 2 ≤ lv) : FnOk P w K mg base L2.CX0 (lv + 1) (He.ga K "many_rows") fd ["rows"] (spF (T0 K) (den C 19) false) := fn_ok F s_many_rows fun cdv A outer s H E hr => b_many_rows rfl G hr (hr.mono h2) s_many_rows.nd
theorem bd_check_rows (kV doc pm : Value) (an : Option Addr) (cdv ct : Value) (us : List Value) (hl : us.length = 1) : bindArgs (PySem.W.fnOf "check_rows" "check_rows" (defArgs (top 34)) (defBody (top 34)) (defScope (top 34)) .none kV doc pm an cdv ct) ⟨us, []⟩ = pure ((["thing"] : List Str).zip us) := match us, hl with | [_], _ => by kernel_rfl
abbrev Fu_check_rows (K : PySem.W.Frag) (fd : FuncData) : Prop := FunD K "check_rows" "check_rows" (defArgs (top 34)) (defBody (top 34)) (defScope (top 34)) [] [] (He.ga K "check_rows") fd
theorem z_check_rows (c : He.SaysD fa fn K) : ∃ fd, Fu_check_rows K fd := c.def_ 20 (d := h_check_rows) rfl
theorem y_check_rows {T : Tb} {lv : Nat} {Mf : List D → Option D} {fd : FuncData} (F : Fu_check_rows K fd) (hm : mg "check_rows" = some (.ref (He.ga K "check_rows"))) (hF : FnOk P w K mg base L2.CX0 lv (He.ga K "check_rows") fd ["thing"] (spF T Mf false)) : Has P w K mg base T lv Mf false "check_rows" [] := has_of F hm hF bd_check_rows
theorem x_check_rows {C : Nat → List D → Option D} {lv : Nat} {fd : FuncData} (F : Fu_check_rows K fd) (G : Gx P w K mg base (T0 K) C lv) (h2 : 2 ≤ lv) : FnOk P w K mg base L2.CX0 (lv + 1) (He.ga K "check_rows") fd ["thing"] (spF (T0 K) (den C 20) false) := fn_ok F s_check_rows fun cdv A outer s H E hr => b_check_rows rfl G hr (hr.mono h2) s_check_rows.nd
theorem bd_bound (kV doc pm : Value) (an : Option Addr) (cdv ct : Value) (us : List Value) (hl : us.length = 1) : bindArgs (PySem.W.fnOf "bound" "bound" (defArgs (top 36)) (defBody (top 36)) (defScope (top 36)) .none kV doc pm an cdv ct) ⟨us, []⟩ = pure ((["rows"] : List Str).zip us) := match us, hl with | [_], _ => by kernel_rfl
abbrev Fu_bound (K : PySem.W.Frag) (fd : FuncData) : Prop := FunD K "bound" "bound" (defArgs (top 36)) (defBody (top 36)) (defScope (top 36)) [] [] (He.ga K "bound") fd
theorem z_bound (c : He.SaysD fa fn K) : ∃ fd, Fu_bound K fd := c.def_ 21 (d := h_bound) rfl
theorem y_bound {T : Tb} {lv : Nat} {Mf : List D → Option D} {fd : FuncData} (F : Fu_bound K fd) (hm : mg "bound" = some (.ref (He.ga K "bound"))) (hF : FnOk P w K mg base L2.CX0 lv (He.ga K "bound") fd ["rows"] (spF T Mf true)) : Has P w K mg base T lv Mf true "bound" [] := has_of F hm hF bd_bound
theorem x_bound {C : Nat → List D → Option D} {lv : Nat} {fd : FuncData} (F : Fu_bound K fd) (G : Gx P w K mg base (T0 K) C lv) (h2 : 2 ≤ lv) : FnOk P w K mg base L2.CX0 (lv + 1) (He.ga K "bound") fd ["rows"] (spF (T0 K) (den C 21) true) := fn_ok F s_bound fun cdv A outer s H E hr => b_bound rfl G hr (hr.mono h2) s_bound.nd
theorem bd_reached (kV doc pm : Value) (an : Option Addr) (cdv ct : Value) (us : List Value) (hl : us.length = 1) : bindArgs (PySem.W.fnOf "reached" "reached" (defArgs (top 37)) (defBody (top 37)) (defScope (top 37)) .none kV doc pm an cdv ct) ⟨us, []⟩ = pure ((["rows"] : List Str).zip us) := match us, hl with | [_], _ => by kernel_rfl
abbrev Fu_reached (K : PySem.W.Frag) (fd : FuncData) : Prop := FunD K "reached" "reached" (defArgs (top 37)) (defBody (top 37)) (defScope (top 37)) [] [] (He.ga K "reached") fd
theorem z_reached (c : He.SaysD fa fn K) : ∃ fd, Fu_reached K fd := c.def_ 22 (d := h_reached) rfl
theorem y_reached {T : Tb} {lv : Nat} {Mf : List D → Option D} {fd : FuncData} (F : Fu_reached K fd) (hm : mg "reached" = some (.ref (He.ga K "reached"))) (hF : FnOk P w K mg base L2.CX0 lv (He.ga K "reached") fd ["rows"] (spF T Mf true)) : Has P w K mg base T lv Mf true "reached" [] := has_of F hm hF bd_reached
theorem x_reached {C : Nat → List D → Option D} {lv : Nat} {fd : FuncData} (F : Fu_reached K fd) (G : Gx P w K mg base (T0 K) C lv) (h2 : 2 ≤ lv) : FnOk P w K mg base L2.CX0 (lv + 1) (He.ga K "reached") fd ["rows"] (spF (T0 K) (den C 22) true) := fn_ok F s_reached fun cdv A outer s H E hr => b_reached rfl G hr (hr.mono h2) s_reached.nd
theorem bd_module_bindings (kV doc pm : Value) (an : Option Addr) (cdv ct : Value) (us : List Value) (hl : us.length = 1) : bindArgs (PySem.W.fnOf "module_bindings" "module_bindings" (defArgs (top 38)) (defBody (top 38)) (defScope (top 38)) .none kV doc pm an cdv ct) ⟨us, []⟩ = pure ((["rows"] : List Str).zip us) := match us, hl with | [_], _ => by kernel_rfl
abbrev Fu_module_bindings (K : PySem.W.Frag) (fd : FuncData) : Prop := FunD K "module_bindings" "module_bindings" (defArgs (top 38)) (defBody (top 38)) (defScope (top 38)) [] [] (He.ga K "module_bindings") fd
theorem z_module_bindings (c : He.SaysD fa fn K) : ∃ fd, Fu_module_bindings K fd := c.def_ 23 (d := h_module_bindings) rfl
theorem y_module_bindings {T : Tb} {lv : Nat} {Mf : List D → Option D} {fd : FuncData} (F : Fu_module_bindings K fd) (hm : mg "module_bindings" = some (.ref (He.ga K "module_bindings"))) (hF : FnOk P w K mg base L2.CX0 lv (He.ga K "module_bindings") fd ["rows"] (spF T Mf true)) : Has P w K mg base T lv Mf true "module_bindings" [] := has_of F hm hF bd_module_bindings
theorem x_module_bindings {C : Nat → List D → Option D} {lv : Nat} {fd : FuncData} (F : Fu_module_bindings K fd) (G : Gx P w K mg base (T0 K) C lv) (h2 : 2 ≤ lv) : FnOk P w K mg base L2.CX0 (lv + 1) (He.ga K "module_bindings") fd ["rows"] (spF (T0 K) (den C 23) true) := fn_ok F s_module_bindings fun cdv A outer s H E hr => b_module_bindings rfl G hr (hr.mono h2) s_module_bindings.nd
theorem bd_rows_by_top (kV doc pm : Value) (an : Option Addr) (cdv ct : Value) (us : List Value) (hl : us.length = 1) : bindArgs (PySem.W.fnOf "rows_by_top" "rows_by_top" (defArgs (top 39)) (defBody (top 39)) (defScope (top 39)) .none kV doc pm an cdv ct) ⟨us, []⟩ = pure ((["row"] : List Str).zip us) := match us, hl with | [_], _ => by kernel_rfl
abbrev Fu_rows_by_top (K : PySem.W.Frag) (fd : FuncData) : Prop := FunD K "rows_by_top" "rows_by_top" (defArgs (top 39)) (defBody (top 39)) (defScope (top 39)) [] [] (He.ga K "rows_by_top") fd
theorem z_rows_by_top (c : He.SaysD fa fn K) : ∃ fd, Fu_rows_by_top K fd := c.def_ 24 (d := h_rows_by_top) rfl
theorem y_rows_by_top {T : Tb} {lv : Nat} {Mf : List D → Option D} {fd : FuncData} (F : Fu_rows_by_top K fd) (hm : mg "rows_by_top" = some (.ref (He.ga K "rows_by_top"))) (hF : FnOk P w K mg base L2.CX0 lv (He.ga K "rows_by_top") fd ["row"] (spF T Mf false)) : Has P w K mg base T lv Mf false "rows_by_top" [] := has_of F hm hF bd_rows_by_top
theorem x_rows_by_top {C : Nat → List D → Option D} {lv : Nat} {fd : FuncData} (F : Fu_rows_by_top K fd) (G : Gx P w K mg base (T0 K) C lv) (h2 : 2 ≤ lv) : FnOk P w K mg base L2.CX0 (lv + 1) (He.ga K "rows_by_top") fd ["row"] (spF (T0 K) (den C 24) false) := fn_ok F s_rows_by_top fun cdv A outer s H E hr => b_rows_by_top rfl G hr (hr.mono h2) s_rows_by_top.nd
theorem bd_bindings_by_top (kV doc pm : Value) (an : Option Addr) (cdv ct : Value) (us : List Value) (hl : us.length = 1) : bindArgs (PySem.W.fnOf "bindings_by_top" "bindings_by_top" (defArgs (top 40)) (defBody (top 40)) (defScope (top 40)) .none kV doc pm an cdv ct) ⟨us, []⟩ = pure ((["row"] : List Str).zip us) := match us, hl with | [_], _ => by kernel_rfl
abbrev Fu_bindings_by_top (K : PySem.W.Frag) (fd : FuncData) : Prop := FunD K "bindings_by_top" "bindings_by_top" (defArgs (top 40)) (defBody (top 40)) (defScope (top 40)) [] [] (He.ga K "bindings_by_top") fd
theorem z_bindings_by_top (c : He.SaysD fa fn K) : ∃ fd, Fu_bindings_by_top K fd := c.def_ 25 (d := h_bindings_by_top) rfl
theorem y_bindings_by_top {T : Tb} {lv : Nat} {Mf : List D → Option D} {fd : FuncData} (F : Fu_bindings_by_top K fd) (hm : mg "bindings_by_top" = some (.ref (He.ga K "bindings_by_top"))) (hF : FnOk P w K mg base L2.CX0 lv (He.ga K "bindings_by_top") fd ["row"] (spF T Mf false)) : Has P w K mg base T lv Mf false "bindings_by_top" [] := has_of F hm hF bd_bindings_by_top
theorem x_bindings_by_top {C : Nat → List D → Option D} {lv : Nat} {fd : FuncData} (F : Fu_bindings_by_top K fd) (G : Gx P w K mg base (T0 K) C lv) (h2 : 2 ≤ lv) : FnOk P w K mg base L2.CX0 (lv + 1) (He.ga K "bindings_by_top") fd ["row"] (spF (T0 K) (den C 25) false) := fn_ok F s_bindings_by_top fun cdv A outer s H E hr => b_bindings_by_top rfl G hr (hr.mono h2) s_bindings_by_top.nd
theorem bd_names_in (kV doc pm : Value) (an : Option Addr) (cdv ct : Value) (us : List Value) (hl : us.length = 1) : bindArgs (PySem.W.fnOf "names_in" "names_in" (defArgs (top 41)) (defBody (top 41)) (defScope (top 41)) .none kV doc pm an cdv ct) ⟨us, []⟩ = pure ((["expression"] : List Str).zip us) := match us, hl with | [_], _ => by kernel_rfl
abbrev Fu_names_in (K : PySem.W.Frag) (fd : FuncData) : Prop := FunD K "names_in" "names_in" (defArgs (top 41)) (defBody (top 41)) (defScope (top 41)) [] [] (He.ga K "names_in") fd
theorem z_names_in (c : He.SaysD fa fn K) : ∃ fd, Fu_names_in K fd := c.def_ 26 (d := h_names_in) rfl
theorem y_names_in {T : Tb} {lv : Nat} {Mf : List D → Option D} {fd : FuncData} (F : Fu_names_in K fd) (hm : mg "names_in" = some (.ref (He.ga K "names_in"))) (hF : FnOk P w K mg base L2.CX0 lv (He.ga K "names_in") fd ["expression"] (spF T Mf true)) : Has P w K mg base T lv Mf true "names_in" [] := has_of F hm hF bd_names_in
theorem x_names_in {C : Nat → List D → Option D} {lv : Nat} {fd : FuncData} (F : Fu_names_in K fd) (G : Gx P w K mg base (T0 K) C lv) (h2 : 2 ≤ lv) : FnOk P w K mg base L2.CX0 (lv + 1) (He.ga K "names_in") fd ["expression"] (spF (T0 K) (den C 26) true) := fn_ok F s_names_in fun cdv A outer s H E hr => b_names_in rfl G hr (hr.mono h2) s_names_in.nd
theorem bd_expressions_in (kV doc pm : Value) (an : Option Addr) (cdv ct : Value) (us : List Value) (hl : us.length = 1) : bindArgs (PySem.W.fnOf "expressions_in" "expressions_in" (defArgs (top 42)) (defBody (top 42)) (defScope (top 42)) .none kV doc pm an cdv ct) ⟨us, []⟩ = pure ((["row"] : List Str).zip us) := match us, hl with | [_], _ => by kernel_rfl
abbrev Fu_expressions_in (K : PySem.W.Frag) (fd : FuncData) : Prop := FunD K "expressions_in" "expressions_in" (defArgs (top 42)) (defBody (top 42)) (defScope (top 42)) [] [] (He.ga K "expressions_in") fd
theorem z_expressions_in (c : He.SaysD fa fn K) : ∃ fd, Fu_expressions_in K fd := c.def_ 27 (d := h_expressions_in) rfl
theorem y_expressions_in {T : Tb} {lv : Nat} {Mf : List D → Option D} {fd : FuncData} (F : Fu_expressions_in K fd) (hm : mg "expressions_in" = some (.ref (He.ga K "expressions_in"))) (hF : FnOk P w K mg base L2.CX0 lv (He.ga K "expressions_in") fd ["row"] (spF T Mf false)) : Has P w K mg base T lv Mf false "expressions_in" [] := has_of F hm hF bd_expressions_in
theorem x_expressions_in {C : Nat → List D → Option D} {lv : Nat} {fd : FuncData} (F : Fu_expressions_in K fd) (G : Gx P w K mg base (T0 K) C lv) (h2 : 2 ≤ lv) : FnOk P w K mg base L2.CX0 (lv + 1) (He.ga K "expressions_in") fd ["row"] (spF (T0 K) (den C 27) false) := fn_ok F s_expressions_in fun cdv A outer s H E hr => b_expressions_in rfl G hr (hr.mono h2) s_expressions_in.nd
theorem bd_names_read (kV doc pm : Value) (an : Option Addr) (cdv ct : Value) (us : List Value) (hl : us.length = 3) : bindArgs (PySem.W.fnOf "names_read" "names_read" (defArgs (top 43)) (defBody (top 43)) (defScope (top 43)) .none kV doc pm an cdv ct) ⟨us, []⟩ = pure ((["rows", "defs", "tops"] : List Str).zip us) := match us, hl with | [_, _, _], _ => by kernel_rfl
abbrev Fu_names_read (K : PySem.W.Frag) (fd : FuncData) : Prop := FunD K "names_read" "names_read" (defArgs (top 43)) (defBody (top 43)) (defScope (top 43)) [] [] (He.ga K "names_read") fd
theorem z_names_read (c : He.SaysD fa fn K) : ∃ fd, Fu_names_read K fd := c.def_ 28 (d := h_names_read) rfl
theorem y_names_read {T : Tb} {lv : Nat} {Mf : List D → Option D} {fd : FuncData} (F : Fu_names_read K fd) (hm : mg "names_read" = some (.ref (He.ga K "names_read"))) (hF : FnOk P w K mg base L2.CX0 lv (He.ga K "names_read") fd ["rows", "defs", "tops"] (spF T Mf false)) : Has P w K mg base T lv Mf false "names_read" [] := has_of F hm hF bd_names_read
theorem x_names_read {C : Nat → List D → Option D} {lv : Nat} {fd : FuncData} (F : Fu_names_read K fd) (G : Gx P w K mg base (T0 K) C lv) (h2 : 2 ≤ lv) : FnOk P w K mg base L2.CX0 (lv + 1) (He.ga K "names_read") fd ["rows", "defs", "tops"] (spF (T0 K) (den C 28) false) := fn_ok F s_names_read fun cdv A outer s H E hr => b_names_read rfl G hr (hr.mono h2) s_names_read.nd
theorem bd__law_cell_at (kV doc pm : Value) (an : Option Addr) (cdv ct : Value) (us : List Value) (hl : us.length = 2) : bindArgs (PySem.W.fnOf "_law_cell_at" "_law_cell_at" (defArgs (top 45)) (defBody (top 45)) (defScope (top 45)) .none kV doc pm an cdv ct) ⟨us, []⟩ = pure ((["_law_script", "_law_at"] : List Str).zip us) := match us, hl with | [_, _], _ => by kernel_rfl
abbrev Fu__law_cell_at (K : PySem.W.Frag) (fd : FuncData) : Prop := FunD K "_law_cell_at" "_law_cell_at" (defArgs (top 45)) (defBody (top 45)) (defScope (top 45)) [] [] (He.ga K "_law_cell_at") fd
theorem z__law_cell_at (c : He.SaysD fa fn K) : ∃ fd, Fu__law_cell_at K fd := c.def_ 29 (d := h__law_cell_at) rfl
theorem y__law_cell_at {T : Tb} {lv : Nat} {Mf : List D → Option D} {fd : FuncData} (F : Fu__law_cell_at K fd) (hm : mg "_law_cell_at" = some (.ref (He.ga K "_law_cell_at"))) (hF : FnOk P w K mg base L2.CX0 lv (He.ga K "_law_cell_at") fd ["_law_script", "_law_at"] (spF T Mf false)) : Has P w K mg base T lv Mf false "_law_cell_at" [] := has_of F hm hF bd__law_cell_at
theorem x__law_cell_at {C : Nat → List D → Option D} {lv : Nat} {fd : FuncData} (F : Fu__law_cell_at K fd) (G : Gx P w K mg base (T0 K) C lv) (h2 : 2 ≤ lv) : FnOk P w K mg base L2.CX0 (lv + 1) (He.ga K "_law_cell_at") fd ["_law_script", "_law_at"] (spF (T0 K) (den C 29) false) := fn_ok F s__law_cell_at fun cdv A outer s H E hr => b__law_cell_at rfl G hr (hr.mono h2) s__law_cell_at.nd
theorem bd__law_samples (kV doc pm : Value) (an : Option Addr) (cdv ct : Value) (us : List Value) (hl : us.length = 0) : bindArgs (PySem.W.fnOf "_law_samples" "_law_samples" (defArgs (top 46)) (defBody (top 46)) (defScope (top 46)) .none kV doc pm an cdv ct) ⟨us, []⟩ = pure (([] : List Str).zip us) := match us, hl with | [], _ => by kernel_rfl
abbrev Fu__law_samples (K : PySem.W.Frag) (fd : FuncData) : Prop := FunD K "_law_samples" "_law_samples" (defArgs (top 46)) (defBody (top 46)) (defScope (top 46)) [] [] (He.ga K "_law_samples") fd
theorem z__law_samples (c : He.SaysD fa fn K) : ∃ fd, Fu__law_samples K fd := c.def_ 30 (d := h__law_samples) rfl
theorem y__law_samples {T : Tb} {lv : Nat} {Mf : List D → Option D} {fd : FuncData} (F : Fu__law_samples K fd) (hm : mg "_law_samples" = some (.ref (He.ga K "_law_samples"))) (hF : FnOk P w K mg base L2.CX0 lv (He.ga K "_law_samples") fd [] (spF T Mf false)) : Has P w K mg base T lv Mf false "_law_samples" [] := has_of F hm hF bd__law_samples
theorem x__law_samples {C : Nat → List D → Option D} {lv : Nat} {fd : FuncData} (F : Fu__law_samples K fd) (G : Gx P w K mg base (T0 K) C lv) (h2 : 2 ≤ lv) : FnOk P w K mg base L2.CX0 (lv + 1) (He.ga K "_law_samples") fd [] (spF (T0 K) (den C 30) false) := fn_ok F s__law_samples fun cdv A outer s H E hr => b__law_samples rfl G hr (hr.mono h2) s__law_samples.nd
theorem bd__law_more_samples (kV doc pm : Value) (an : Option Addr) (cdv ct : Value) (us : List Value) (hl : us.length = 3) : bindArgs (PySem.W.fnOf "_law_more_samples" "_law_more_samples" (defArgs (top 47)) (defBody (top 47)) (defScope (top 47)) .none kV doc pm an cdv ct) ⟨us, []⟩ = pure ((["_law_x", "_law_y", "_law_z"] : List Str).zip us) := match us, hl with | [_, _, _], _ => by kernel_rfl
abbrev Fu__law_more_samples (K : PySem.W.Frag) (fd : FuncData) : Prop := FunD K "_law_more_samples" "_law_more_samples" (defArgs (top 47)) (defBody (top 47)) (defScope (top 47)) [] [] (He.ga K "_law_more_samples") fd
theorem z__law_more_samples (c : He.SaysD fa fn K) : ∃ fd, Fu__law_more_samples K fd := c.def_ 31 (d := h__law_more_samples) rfl
theorem y__law_more_samples {T : Tb} {lv : Nat} {Mf : List D → Option D} {fd : FuncData} (F : Fu__law_more_samples K fd) (hm : mg "_law_more_samples" = some (.ref (He.ga K "_law_more_samples"))) (hF : FnOk P w K mg base L2.CX0 lv (He.ga K "_law_more_samples") fd ["_law_x", "_law_y", "_law_z"] (spF T Mf false)) : Has P w K mg base T lv Mf false "_law_more_samples" [] := has_of F hm hF bd__law_more_samples
theorem x__law_more_samples {C : Nat → List D → Option D} {lv : Nat} {fd : FuncData} (F : Fu__law_more_samples K fd) (G : Gx P w K mg base (T0 K) C lv) (h2 : 2 ≤ lv) : FnOk P w K mg base L2.CX0 (lv + 1) (He.ga K "_law_more_samples") fd ["_law_x", "_law_y", "_law_z"] (spF (T0 K) (den C 31) false) := fn_ok F s__law_more_samples fun cdv A outer s H E hr => b__law_more_samples rfl G hr (hr.mono h2) s__law_more_samples.nd
theorem bd__law_rows (kV doc pm : Value) (an : Option Addr) (cdv ct : Value) (us : List Value) (hl : us.length = 3) : bindArgs (PySem.W.fnOf "_law_rows" "_law_rows" (defArgs (top 48)) (defBody (top 48)) (defScope (top 48)) .none kV doc pm an cdv ct) ⟨us, []⟩ = pure ((["_law_script", "_law_at", "_law_samples_here"] : List Str).zip us) := match us, hl with | [_, _, _], _ => by kernel_rfl
abbrev Fu__law_rows (K : PySem.W.Frag) (fd : FuncData) : Prop := FunD K "_law_rows" "_law_rows" (defArgs (top 48)) (defBody (top 48)) (defScope (top 48)) [] [] (He.ga K "_law_rows") fd
theorem z__law_rows (c : He.SaysD fa fn K) : ∃ fd, Fu__law_rows K fd := c.def_ 32 (d := h__law_rows) rfl
theorem y__law_rows {T : Tb} {lv : Nat} {Mf : List D → Option D} {fd : FuncData} (F : Fu__law_rows K fd) (hm : mg "_law_rows" = some (.ref (He.ga K "_law_rows"))) (hF : FnOk P w K mg base L2.CX0 lv (He.ga K "_law_rows") fd ["_law_script", "_law_at", "_law_samples_here"] (spF T Mf false)) : Has P w K mg base T lv Mf false "_law_rows" [] := has_of F hm hF bd__law_rows
theorem x__law_rows {C : Nat → List D → Option D} {lv : Nat} {fd : FuncData} (F : Fu__law_rows K fd) (G : Gx P w K mg base (T0 K) C lv) (h2 : 2 ≤ lv) : FnOk P w K mg base L2.CX0 (lv + 1) (He.ga K "_law_rows") fd ["_law_script", "_law_at", "_law_samples_here"] (spF (T0 K) (den C 32) false) := fn_ok F s__law_rows fun cdv A outer s H E hr => b__law_rows rfl G hr (hr.mono h2) s__law_rows.nd
theorem bd__law_named (kV doc pm : Value) (an : Option Addr) (cdv ct : Value) (us : List Value) (hl : us.length = 1) : bindArgs (PySem.W.fnOf "_law_named" "_law_named" (defArgs (top 49)) (defBody (top 49)) (defScope (top 49)) .none kV doc pm an cdv ct) ⟨us, []⟩ = pure ((["_law_row"] : List Str).zip us) := match us, hl with | [_], _ => by kernel_rfl
abbrev Fu__law_named (K : PySem.W.Frag) (fd : FuncData) : Prop := FunD K "_law_named" "_law_named" (defArgs (top 49)) (defBody (top 49)) (defScope (top 49)) [] [] (He.ga K "_law_named") fd
theorem z__law_named (c : He.SaysD fa fn K) : ∃ fd, Fu__law_named K fd := c.def_ 33 (d := h__law_named) rfl
theorem y__law_named {T : Tb} {lv : Nat} {Mf : List D → Option D} {fd : FuncData} (F : Fu__law_named K fd) (hm : mg "_law_named" = some (.ref (He.ga K "_law_named"))) (hF : FnOk P w K mg base L2.CX0 lv (He.ga K "_law_named") fd ["_law_row"] (spF T Mf false)) : Has P w K mg base T lv Mf false "_law_named" [] := has_of F hm hF bd__law_named
theorem x__law_named {C : Nat → List D → Option D} {lv : Nat} {fd : FuncData} (F : Fu__law_named K fd) (G : Gx P w K mg base (T0 K) C lv) (h2 : 2 ≤ lv) : FnOk P w K mg base L2.CX0 (lv + 1) (He.ga K "_law_named") fd ["_law_row"] (spF (T0 K) (den C 33) false) := fn_ok F s__law_named fun cdv A outer s H E hr => b__law_named rfl G hr (hr.mono h2) s__law_named.nd
theorem bd__law_flat (kV doc pm : Value) (an : Option Addr) (cdv ct : Value) (us : List Value) (hl : us.length = 1) : bindArgs (PySem.W.fnOf "_law_flat" "_law_flat" (defArgs (top 50)) (defBody (top 50)) (defScope (top 50)) .none kV doc pm an cdv ct) ⟨us, []⟩ = pure ((["_law_rows_here"] : List Str).zip us) := match us, hl with | [_], _ => by kernel_rfl
abbrev Fu__law_flat (K : PySem.W.Frag) (fd : FuncData) : Prop := FunD K "_law_flat" "_law_flat" (defArgs (top 50)) (defBody (top 50)) (defScope (top 50)) [] [] (He.ga K "_law_flat") fd
theorem z__law_flat (c : He.SaysD fa fn K) : ∃ fd, Fu__law_flat K fd := c.def_ 34 (d := h__law_flat) rfl
theorem y__law_flat {T : Tb} {lv : Nat} {Mf : List D → Option D} {fd : FuncData} (F : Fu__law_flat K fd) (hm : mg "_law_flat" = some (.ref (He.ga K "_law_flat"))) (hF : FnOk P w K mg base L2.CX0 lv (He.ga K "_law_flat") fd ["_law_rows_here"] (spF T Mf false)) : Has P w K mg base T lv Mf false "_law_flat" [] := has_of F hm hF bd__law_flat
theorem x__law_flat {C : Nat → List D → Option D} {lv : Nat} {fd : FuncData} (F : Fu__law_flat K fd) (G : Gx P w K mg base (T0 K) C lv) (h2 : 2 ≤ lv) : FnOk P w K mg base L2.CX0 (lv + 1) (He.ga K "_law_flat") fd ["_law_rows_here"] (spF (T0 K) (den C 34) false) := fn_ok F s__law_flat fun cdv A outer s H E hr => b__law_flat rfl G hr (hr.mono h2) s__law_flat.nd
theorem bd__law_telling (kV doc pm : Value) (an : Option Addr) (cdv ct : Value) (us : List Value) (hl : us.length = 2) : bindArgs (PySem.W.fnOf "_law_telling" "_law_telling" (defArgs (top 51)) (defBody (top 51)) (defScope (top 51)) .none kV doc pm an cdv ct) ⟨us, []⟩ = pure ((["_law_rows_here", "_law_word"] : List Str).zip us) := match us, hl with | [_, _], _ => by kernel_rfl
abbrev Fu__law_telling (K : PySem.W.Frag) (fd : FuncData) : Prop := FunD K "_law_telling" "_law_telling" (defArgs (top 51)) (defBody (top 51)) (defScope (top 51)) [] [] (He.ga K "_law_telling") fd
theorem z__law_telling (c : He.SaysD fa fn K) : ∃ fd, Fu__law_telling K fd := c.def_ 35 (d := h__law_telling) rfl
theorem y__law_telling {T : Tb} {lv : Nat} {Mf : List D → Option D} {fd : FuncData} (F : Fu__law_telling K fd) (hm : mg "_law_telling" = some (.ref (He.ga K "_law_telling"))) (hF : FnOk P w K mg base L2.CX0 lv (He.ga K "_law_telling") fd ["_law_rows_here", "_law_word"] (spF T Mf false)) : Has P w K mg base T lv Mf false "_law_telling" [] := has_of F hm hF bd__law_telling
theorem x__law_telling {C : Nat → List D → Option D} {lv : Nat} {fd : FuncData} (F : Fu__law_telling K fd) (G : Gx P w K mg base (T0 K) C lv) (h2 : 2 ≤ lv) : FnOk P w K mg base L2.CX0 (lv + 1) (He.ga K "_law_telling") fd ["_law_rows_here", "_law_word"] (spF (T0 K) (den C 35) false) := fn_ok F s__law_telling fun cdv A outer s H E hr => b__law_telling rfl G hr (hr.mono h2) s__law_telling.nd
theorem bd__law_binds (kV doc pm : Value) (an : Option Addr) (cdv ct : Value) (us : List Value) (hl : us.length = 2) : bindArgs (PySem.W.fnOf "_law_binds" "_law_binds" (defArgs (top 52)) (defBody (top 52)) (defScope (top 52)) .none kV doc pm an cdv ct) ⟨us, []⟩ = pure ((["_law_rows_here", "_law_tops"] : List Str).zip us) := match us, hl with | [_, _], _ => by kernel_rfl
abbrev Fu__law_binds (K : PySem.W.Frag) (fd : FuncData) : Prop := FunD K "_law_binds" "_law_binds" (defArgs (top 52)) (defBody (top 52)) (defScope (top 52)) [] [] (He.ga K "_law_binds") fd
theorem z__law_binds (c : He.SaysD fa fn K) : ∃ fd, Fu__law_binds K fd := c.def_ 36 (d := h__law_binds) rfl
theorem y__law_binds {T : Tb} {lv : Nat} {Mf : List D → Option D} {fd : FuncData} (F : Fu__law_binds K fd) (hm : mg "_law_binds" = some (.ref (He.ga K "_law_binds"))) (hF : FnOk P w K mg base L2.CX0 lv (He.ga K "_law_binds") fd ["_law_rows_here", "_law_tops"] (spF T Mf false)) : Has P w K mg base T lv Mf false "_law_binds" [] := has_of F hm hF bd__law_binds
theorem x__law_binds {C : Nat → List D → Option D} {lv : Nat} {fd : FuncData} (F : Fu__law_binds K fd) (G : Gx P w K mg base (T0 K) C lv) (h2 : 2 ≤ lv) : FnOk P w K mg base L2.CX0 (lv + 1) (He.ga K "_law_binds") fd ["_law_rows_here", "_law_tops"] (spF (T0 K) (den C 36) false) := fn_ok F s__law_binds fun cdv A outer s H E hr => b__law_binds rfl G hr (hr.mono h2) s__law_binds.nd
theorem bd__law_read (kV doc pm : Value) (an : Option Addr) (cdv ct : Value) (us : List Value) (hl : us.length = 1) : bindArgs (PySem.W.fnOf "_law_read" "_law_read" (defArgs (top 53)) (defBody (top 53)) (defScope (top 53)) .none kV doc pm an cdv ct) ⟨us, []⟩ = pure ((["_law_told"] : List Str).zip us) := match us, hl with | [_], _ => by kernel_rfl
abbrev Fu__law_read (K : PySem.W.Frag) (fd : FuncData) : Prop := FunD K "_law_read" "_law_read" (defArgs (top 53)) (defBody (top 53)) (defScope (top 53)) [] [] (He.ga K "_law_read") fd
theorem z__law_read (c : He.SaysD fa fn K) : ∃ fd, Fu__law_read K fd := c.def_ 37 (d := h__law_read) rfl
theorem y__law_read {T : Tb} {lv : Nat} {Mf : List D → Option D} {fd : FuncData} (F : Fu__law_read K fd) (hm : mg "_law_read" = some (.ref (He.ga K "_law_read"))) (hF : FnOk P w K mg base L2.CX0 lv (He.ga K "_law_read") fd ["_law_told"] (spF T Mf false)) : Has P w K mg base T lv Mf false "_law_read" [] := has_of F hm hF bd__law_read
theorem x__law_read {C : Nat → List D → Option D} {lv : Nat} {fd : FuncData} (F : Fu__law_read K fd) (G : Gx P w K mg base (T0 K) C lv) (h2 : 2 ≤ lv) : FnOk P w K mg base L2.CX0 (lv + 1) (He.ga K "_law_read") fd ["_law_told"] (spF (T0 K) (den C 37) false) := fn_ok F s__law_read fun cdv A outer s H E hr => b__law_read rfl G hr (hr.mono h2) s__law_read.nd
theorem bd__law_reads (kV doc pm : Value) (an : Option Addr) (cdv ct : Value) (us : List Value) (hl : us.length = 3) : bindArgs (PySem.W.fnOf "_law_reads" "_law_reads" (defArgs (top 54)) (defBody (top 54)) (defScope (top 54)) .none kV doc pm an cdv ct) ⟨us, []⟩ = pure ((["_law_rows_here", "_law_around", "_law_tops"] : List Str).zip us) := match us, hl with | [_, _, _], _ => by kernel_rfl
abbrev Fu__law_reads (K : PySem.W.Frag) (fd : FuncData) : Prop := FunD K "_law_reads" "_law_reads" (defArgs (top 54)) (defBody (top 54)) (defScope (top 54)) [] [] (He.ga K "_law_reads") fd
theorem z__law_reads (c : He.SaysD fa fn K) : ∃ fd, Fu__law_reads K fd := c.def_ 38 (d := h__law_reads) rfl
theorem y__law_reads {T : Tb} {lv : Nat} {Mf : List D → Option D} {fd : FuncData} (F : Fu__law_reads K fd) (hm : mg "_law_reads" = some (.ref (He.ga K "_law_reads"))) (hF : FnOk P w K mg base L2.CX0 lv (He.ga K "_law_reads") fd ["_law_rows_here", "_law_around", "_law_tops"] (spF T Mf false)) : Has P w K mg base T lv Mf false "_law_reads" [] := has_of F hm hF bd__law_reads
theorem x__law_reads {C : Nat → List D → Option D} {lv : Nat} {fd : FuncData} (F : Fu__law_reads K fd) (G : Gx P w K mg base (T0 K) C lv) (h2 : 2 ≤ lv) : FnOk P w K mg base L2.CX0 (lv + 1) (He.ga K "_law_reads") fd ["_law_rows_here", "_law_around", "_law_tops"] (spF (T0 K) (den C 38) false) := fn_ok F s__law_reads fun cdv A outer s H E hr => b__law_reads rfl G hr (hr.mono h2) s__law_reads.nd
theorem bd__law_more (kV doc pm : Value) (an : Option Addr) (cdv ct : Value) (us : List Value) (hl : us.length = 2) : bindArgs (PySem.W.fnOf "_law_more" "_law_more" (defArgs (top 55)) (defBody (top 55)) (defScope (top 55)) .none kV doc pm an cdv ct) ⟨us, []⟩ = pure ((["_law_script", "_law_at"] : List Str).zip us) := match us, hl with | [_, _], _ => by kernel_rfl
abbrev Fu__law_more (K : PySem.W.Frag) (fd : FuncData) : Prop := FunD K "_law_more" "_law_more" (defArgs (top 55)) (defBody (top 55)) (defScope (top 55)) [] [] (He.ga K "_law_more") fd
theorem z__law_more (c : He.SaysD fa fn K) : ∃ fd, Fu__law_more K fd := c.def_ 39 (d := h__law_more) rfl
theorem y__law_more {T : Tb} {lv : Nat} {Mf : List D → Option D} {fd : FuncData} (F : Fu__law_more K fd) (hm : mg "_law_more" = some (.ref (He.ga K "_law_more"))) (hF : FnOk P w K mg base L2.CX0 lv (He.ga K "_law_more") fd ["_law_script", "_law_at"] (spF T Mf false)) : Has P w K mg base T lv Mf false "_law_more" [] := has_of F hm hF bd__law_more
theorem x__law_more {C : Nat → List D → Option D} {lv : Nat} {fd : FuncData} (F : Fu__law_more K fd) (G : Gx P w K mg base (T0 K) C lv) (h2 : 2 ≤ lv) : FnOk P w K mg base L2.CX0 (lv + 1) (He.ga K "_law_more") fd ["_law_script", "_law_at"] (spF (T0 K) (den C 39) false) := fn_ok F s__law_more fun cdv A outer s H E hr => b__law_more rfl G hr (hr.mono h2) s__law_more.nd
theorem bd__law_count (kV doc pm : Value) (an : Option Addr) (cdv ct : Value) (us : List Value) (hl : us.length = 1) : bindArgs (PySem.W.fnOf "_law_count" "_law_count" (defArgs (top 56)) (defBody (top 56)) (defScope (top 56)) .none kV doc pm an cdv ct) ⟨us, []⟩ = pure ((["_law_rows_here"] : List Str).zip us) := match us, hl with | [_], _ => by kernel_rfl
abbrev Fu__law_count (K : PySem.W.Frag) (fd : FuncData) : Prop := FunD K "_law_count" "_law_count" (defArgs (top 56)) (defBody (top 56)) (defScope (top 56)) [] [] (He.ga K "_law_count") fd
theorem z__law_count (c : He.SaysD fa fn K) : ∃ fd, Fu__law_count K fd := c.def_ 40 (d := h__law_count) rfl
theorem y__law_count {T : Tb} {lv : Nat} {Mf : List D → Option D} {fd : FuncData} (F : Fu__law_count K fd) (hm : mg "_law_count" = some (.ref (He.ga K "_law_count"))) (hF : FnOk P w K mg base L2.CX0 lv (He.ga K "_law_count") fd ["_law_rows_here"] (spF T Mf false)) : Has P w K mg base T lv Mf false "_law_count" [] := has_of F hm hF bd__law_count
theorem x__law_count {C : Nat → List D → Option D} {lv : Nat} {fd : FuncData} (F : Fu__law_count K fd) (G : Gx P w K mg base (T0 K) C lv) (h2 : 2 ≤ lv) : FnOk P w K mg base L2.CX0 (lv + 1) (He.ga K "_law_count") fd ["_law_rows_here"] (spF (T0 K) (den C 40) false) := fn_ok F s__law_count fun cdv A outer s H E hr => b__law_count rfl G hr (hr.mono h2) s__law_count.nd
theorem bd_law (kV doc pm : Value) (an : Option Addr) (cdv ct : Value) (us : List Value) (hl : us.length = 1) : bindArgs (PySem.W.fnOf "law" "law" (defArgs (top 57)) (defBody (top 57)) (defScope (top 57)) .none kV doc pm an cdv ct) ⟨us, []⟩ = pure ((["_law_script"] : List Str).zip us) := match us, hl with | [_], _ => by kernel_rfl
abbrev Fu_law (K : PySem.W.Frag) (fd : FuncData) : Prop := FunD K "law" "law" (defArgs (top 57)) (defBody (top 57)) (defScope (top 57)) [] [] (He.ga K "law") fd
theorem z_law (c : He.SaysD fa fn K) : ∃ fd, Fu_law K fd := c.def_ 41 (d := h_law) rfl
theorem y_law {T : Tb} {lv : Nat} {Mf : List D → Option D} {fd : FuncData} (F : Fu_law K fd) (hm : mg "law" = some (.ref (He.ga K "law"))) (hF : FnOk P w K mg base L2.CX0 lv (He.ga K "law") fd ["_law_script"] (spF T Mf false)) : Has P w K mg base T lv Mf false "law" [] := has_of F hm hF bd_law
theorem x_law {C : Nat → List D → Option D} {lv : Nat} {fd : FuncData} (F : Fu_law K fd) (G : Gx P w K mg base (T0 K) C lv) (h2 : 2 ≤ lv) : FnOk P w K mg base L2.CX0 (lv + 1) (He.ga K "law") fd ["_law_script"] (spF (T0 K) (den C 41) false) := fn_ok F s_law fun cdv A outer s H E hr => b_law rfl G hr (hr.mono h2) s_law.nd
abbrev Fu_rows_of_block (K : PySem.W.Frag) (fd : FuncData) : Prop := FunD K "rows_of_block" "rows_of_block" (defArgs (top 27)) (defBody (top 27)) (defScope (top 27)) [.int 0] [] (He.ga K "rows_of_block") fd
theorem z_rows_of_block (c : He.SaysD fa fn K) : ∃ fd, Fu_rows_of_block K fd := c.def_ 13 (d := h_rows_of_block) rfl
theorem x_rows_of_block {C : Nat → List D → Option D} {lv : Nat} {fd : FuncData} (F : Fu_rows_of_block K fd) (G : Gx P w K mg base (T0 K) C lv) (h2 : 2 ≤ lv) : FnOk P w K mg base L2.CX0 (lv + 1) (He.ga K "rows_of_block") fd ["rows", "deep"] (spF (T0 K) (den C 13) false) := fn_ok F s_rows_of_block fun cdv A outer s H E hr => b_rows_of_block rfl G hr (hr.mono h2) s_rows_of_block.nd
abbrev Fu_Around_deeper (K : PySem.W.Frag) (fd : FuncData) : Prop := FunD K "deeper" "Around.deeper" (defArgs (mth 19 1)) (defBody (mth 19 1)) (defScope (mth 19 1)) [] [] (He.ma K (He.ga K "Around") "deeper") fd
theorem z_Around_deeper (c : He.SaysD fa fn K) : ∃ fd, Fu_Around_deeper K fd := c.def_ 43 (d := h_Around_deeper) rfl
theorem x_Around_deeper {C : Nat → List D → Option D} {lv : Nat} {fd : FuncData} (F : Fu_Around_deeper K fd) (G : Gx P w K mg base (T0 K) C lv) (h2 : 2 ≤ lv) : FnOk P w K mg base L2.CX0 (lv + 1) (He.ma K (He.ga K "Around") "deeper") fd ["self"] (spF (T0 K) (den C 42) false) := fn_ok F s_Around_deeper fun cdv A outer s H E hr => b_Around_deeper rfl G hr (hr.mono h2) s_Around_deeper.nd
theorem gx (X : K.In h) (Gm : h.Ns mainGlobals mg) (c : He.SaysD fa fn K) (k : Nat) : Gx P w K mg base (T0 K) (M k) (k + 3) := by
  obtain ⟨fd_is_number, F_is_number⟩ := z_is_number c
  have m_is_number := He.glo_ok X Gm (c.fact 0 (f := .glo "is_number") rfl)
  obtain ⟨fd_is_name, F_is_name⟩ := z_is_name c
  have m_is_name := He.glo_ok X Gm (c.fact 1 (f := .glo "is_name") rfl)
  obtain ⟨fd_is_path, F_is_path⟩ := z_is_path c
  have m_is_path := He.glo_ok X Gm (c.fact 2 (f := .glo "is_path") rfl)
  obtain ⟨fd_are_names, F_are_names⟩ := z_are_names c
  have m_are_names := He.glo_ok X Gm (c.fact 3 (f := .glo "are_names") rfl)
  obtain ⟨fd_is_expression, F_is_expression⟩ := z_is_expression c
  have m_is_expression := He.glo_ok X Gm (c.fact 4 (f := .glo "is_expression") rfl)
  obtain ⟨fd_are_pairs, F_are_pairs⟩ := z_are_pairs c
  have m_are_pairs := He.glo_ok X Gm (c.fact 5 (f := .glo "are_pairs") rfl)
  obtain ⟨fd_is_from, F_is_from⟩ := z_is_from c
  have m_is_from := He.glo_ok X Gm (c.fact 6 (f := .glo "is_from") rfl)
  obtain ⟨fd_is_within, F_is_within⟩ := z_is_within c
  have m_is_within := He.glo_ok X Gm (c.fact 7 (f := .glo "is_within") rfl)
  obtain ⟨fd_is_plain_row, F_is_plain_row⟩ := z_is_plain_row c
  have m_is_plain_row := He.glo_ok X Gm (c.fact 8 (f := .glo "is_plain_row") rfl)
  obtain ⟨fd_is_said, F_is_said⟩ := z_is_said c
  have m_is_said := He.glo_ok X Gm (c.fact 9 (f := .glo "is_said") rfl)
  obtain ⟨fd_is_row, F_is_row⟩ := z_is_row c
  have m_is_row := He.glo_ok X Gm (c.fact 10 (f := .glo "is_row") rfl)
  obtain ⟨fd_is_def, F_is_def⟩ := z_is_def c
  have m_is_def := He.glo_ok X Gm (c.fact 11 (f := .glo "is_def") rfl)
  obtain ⟨fd_are_rows, F_are_rows⟩ := z_are_rows c
  have m_are_rows := He.glo_ok X Gm (c.fact 12 (f := .glo "are_rows") rfl)
  obtain ⟨fd_rows_of_block, F_rows_of_block⟩ := z_rows_of_block c
  have m_rows_of_block := He.glo_ok X Gm (c.fact 13 (f := .glo "rows_of_block") rfl)
  obtain ⟨fd_told_names, F_told_names⟩ := z_told_names c
  have m_told_names := He.glo_ok X Gm (c.fact 14 (f := .glo "told_names") rfl)
  obtain ⟨fd_names_bound, F_names_bound⟩ := z_names_bound c
  have m_names_bound := He.glo_ok X Gm (c.fact 15 (f := .glo "names_bound") rfl)
  obtain ⟨fd_own_names, F_own_names⟩ := z_own_names c
  have m_own_names := He.glo_ok X Gm (c.fact 16 (f := .glo "own_names") rfl)
  obtain ⟨fd_is_plain_or_named, F_is_plain_or_named⟩ := z_is_plain_or_named c
  have m_is_plain_or_named := He.glo_ok X Gm (c.fact 17 (f := .glo "is_plain_or_named") rfl)
  obtain ⟨fd_blocks_in, F_blocks_in⟩ := z_blocks_in c
  have m_blocks_in := He.glo_ok X Gm (c.fact 18 (f := .glo "blocks_in") rfl)
  obtain ⟨fd_many_rows, F_many_rows⟩ := z_many_rows c
  have m_many_rows := He.glo_ok X Gm (c.fact 19 (f := .glo "many_rows") rfl)
  obtain ⟨fd_check_rows, F_check_rows⟩ := z_check_rows c
  have m_check_rows := He.glo_ok X Gm (c.fact 20 (f := .glo "check_rows") rfl)
  obtain ⟨fd_bound, F_bound⟩ := z_bound c
  have m_bound := He.glo_ok X Gm (c.fact 21 (f := .glo "bound") rfl)
  obtain ⟨fd_reached, F_reached⟩ := z_reached c
  have m_reached := He.glo_ok X Gm (c.fact 22 (f := .glo "reached") rfl)
  obtain ⟨fd_module_bindings, F_module_bindings⟩ := z_module_bindings c
  have m_module_bindings := He.glo_ok X Gm (c.fact 23 (f := .glo "module_bindings") rfl)
  obtain ⟨fd_rows_by_top, F_rows_by_top⟩ := z_rows_by_top c
  have m_rows_by_top := He.glo_ok X Gm (c.fact 24 (f := .glo "rows_by_top") rfl)
  obtain ⟨fd_bindings_by_top, F_bindings_by_top⟩ := z_bindings_by_top c
  have m_bindings_by_top := He.glo_ok X Gm (c.fact 25 (f := .glo "bindings_by_top") rfl)
  obtain ⟨fd_names_in, F_names_in⟩ := z_names_in c
  have m_names_in := He.glo_ok X Gm (c.fact 26 (f := .glo "names_in") rfl)
  obtain ⟨fd_expressions_in, F_expressions_in⟩ := z_expressions_in c
  have m_expressions_in := He.glo_ok X Gm (c.fact 27 (f := .glo "expressions_in") rfl)
  obtain ⟨fd_names_read, F_names_read⟩ := z_names_read c
  have m_names_read := He.glo_ok X Gm (c.fact 28 (f := .glo "names_read") rfl)
  obtain ⟨fd__law_cell_at, F__law_cell_at⟩ := z__law_cell_at c
  have m__law_cell_at := He.glo_ok X Gm (c.fact 29 (f := .glo "_law_cell_at") rfl)
  obtain ⟨fd__law_samples, F__law_samples⟩ := z__law_samples c
  have m__law_samples := He.glo_ok X Gm (c.fact 30 (f := .glo "_law_samples") rfl)
  obtain ⟨fd__law_more_samples, F__law_more_samples⟩ := z__law_more_samples c
  have m__law_more_samples := He.glo_ok X Gm (c.fact 31 (f := .glo "_law_more_samples") rfl)
  obtain ⟨fd__law_rows, F__law_rows⟩ := z__law_rows c
  have m__law_rows := He.glo_ok X Gm (c.fact 32 (f := .glo "_law_rows") rfl)
  obtain ⟨fd__law_named, F__law_named⟩ := z__law_named c
  have m__law_named := He.glo_ok X Gm (c.fact 33 (f := .glo "_law_named") rfl)
  obtain ⟨fd__law_flat, F__law_flat⟩ := z__law_flat c
  have m__law_flat := He.glo_ok X Gm (c.fact 34 (f := .glo "_law_flat") rfl)
  obtain ⟨fd__law_telling, F__law_telling⟩ := z__law_telling c
  have m__law_telling := He.glo_ok X Gm (c.fact 35 (f := .glo "_law_telling") rfl)
  obtain ⟨fd__law_binds, F__law_binds⟩ := z__law_binds c
  have m__law_binds := He.glo_ok X Gm (c.fact 36 (f := .glo "_law_binds") rfl)
  obtain ⟨fd__law_read, F__law_read⟩ := z__law_read c
  have m__law_read := He.glo_ok X Gm (c.fact 37 (f := .glo "_law_read") rfl)
  obtain ⟨fd__law_reads, F__law_reads⟩ := z__law_reads c
  have m__law_reads := He.glo_ok X Gm (c.fact 38 (f := .glo "_law_reads") rfl)
  obtain ⟨fd__law_more, F__law_more⟩ := z__law_more c
  have m__law_more := He.glo_ok X Gm (c.fact 39 (f := .glo "_law_more") rfl)
  obtain ⟨fd__law_count, F__law_count⟩ := z__law_count c
  have m__law_count := He.glo_ok X Gm (c.fact 40 (f := .glo "_law_count") rfl)
  obtain ⟨fd_law, F_law⟩ := z_law c
  have m_law := He.glo_ok X Gm (c.fact 41 (f := .glo "law") rfl)
  obtain ⟨fd_Around_deeper, F_Around_deeper⟩ := z_Around_deeper c
  obtain ⟨fd_Around_init, F_Around_init⟩ := c.def_ 42 (d := h_Around_init) rfl
  have m_Around := He.glo_ok X Gm (c.fact 42 (f := .glo "Around") rfl)
  have hcl := He.cls_ok (c.fact 66 (f := .cls "Around") rfl)
  obtain ⟨ds2, rv2, rb2⟩ := FunD.binds1 (ps := ["rows", "deep"]) F_rows_of_block 2 1 (by simp) rfl fun _ _ _ _ _ _ _ us its hl hl2 => match us, its, hl, hl2 with | [_, _], [_], _, _ => ⟨_, rfl, rfl⟩
  cases rv2
  obtain ⟨ds1, rv1, rb1⟩ := FunD.binds1 (ps := ["rows", "deep"]) F_rows_of_block 1 0 (by simp) rfl fun _ _ _ _ _ _ _ us its hl hl2 => match us, its, hl, hl2 with | [_], [_], _, _ => ⟨_, rfl, rfl⟩
  induction k with
  | zero =>
    exact {
      b_all := He.free_ok X Gm (c.fact 43 (f := .free "all") rfl)
      b_any := He.free_ok X Gm (c.fact 44 (f := .free "any") rfl)
      b_bool := He.free_ok X Gm (c.fact 45 (f := .free "bool") rfl)
      b_enumerate := He.free_ok X Gm (c.fact 46 (f := .free "enumerate") rfl)
      b_int := He.free_ok X Gm (c.fact 47 (f := .free "int") rfl)
      b_isinstance := He.free_ok X Gm (c.fact 48 (f := .free "isinstance") rfl)
      b_len := He.free_ok X Gm (c.fact 49 (f := .free "len") rfl)
      b_list := He.free_ok X Gm (c.fact 50 (f := .free "list") rfl)
      b_range := He.free_ok X Gm (c.fact 51 (f := .free "range") rfl)
      b_set := He.free_ok X Gm (c.fact 52 (f := .free "set") rfl)
      b_sorted := He.free_ok X Gm (c.fact 53 (f := .free "sorted") rfl)
      b_str := He.free_ok X Gm (c.fact 54 (f := .free "str") rfl)
      b_sum := He.free_ok X Gm (c.fact 55 (f := .free "sum") rfl)
      b_tuple := He.free_ok X Gm (c.fact 56 (f := .free "tuple") rfl)
      c_ALL := He.str_ok X Gm (c.fact 57 (f := .str "ALL" (sS [42])) rfl)
      c_DEEPEST := He.int_ok X Gm (c.fact 58 (f := .int "DEEPEST" 4) rfl)
      c_LETTERS := He.str_ok X Gm (c.fact 59 (f := .str "LETTERS" (sS [97, 98, 99, 100, 101, 102, 103, 104, 105, 106, 107, 108, 109, 110, 111, 112, 113, 114, 115, 116, 117, 118, 119, 120, 121, 122])) rfl)
      c_LONGEST := He.int_ok X Gm (c.fact 60 (f := .int "LONGEST" 8) rfl)
      c_MOST_DOTS := He.int_ok X Gm (c.fact 61 (f := .int "MOST_DOTS" 3) rfl)
      c_MOST_GIVEN := He.int_ok X Gm (c.fact 62 (f := .int "MOST_GIVEN" 3) rfl)
      c_MOST_NAMES := He.int_ok X Gm (c.fact 63 (f := .int "MOST_NAMES" 6) rfl)
      c_MOST_NUMBER := He.int_ok X Gm (c.fact 64 (f := .int "MOST_NUMBER" 9999) rfl)
      c_MOST_ROWS := He.int_ok X Gm (c.fact 65 (f := .int "MOST_ROWS" 40) rfl)
      f__law_binds := y__law_binds F__law_binds m__law_binds (fn_none fun _ => rfl)
      f__law_cell_at := y__law_cell_at F__law_cell_at m__law_cell_at (fn_none fun _ => rfl)
      f__law_count := y__law_count F__law_count m__law_count (fn_none fun _ => rfl)
      f__law_flat := y__law_flat F__law_flat m__law_flat (fn_none fun _ => rfl)
      f__law_more := y__law_more F__law_more m__law_more (fn_none fun _ => rfl)
      f__law_more_samples := y__law_more_samples F__law_more_samples m__law_more_samples (fn_none fun _ => rfl)
      f__law_named := y__law_named F__law_named m__law_named (fn_none fun _ => rfl)
      f__law_read := y__law_read F__law_read m__law_read (fn_none fun _ => rfl)
      f__law_reads := y__law_reads F__law_reads m__law_reads (fn_none fun _ => rfl)
      f__law_rows := y__law_rows F__law_rows m__law_rows (fn_none fun _ => rfl)
      f__law_samples := y__law_samples F__law_samples m__law_samples (fn_none fun _ => rfl)
      f__law_telling := y__law_telling F__law_telling m__law_telling (fn_none fun _ => rfl)
      f_are_names := y_are_names F_are_names m_are_names (fn_none fun _ => rfl)
      f_are_pairs := y_are_pairs F_are_pairs m_are_pairs (fn_none fun _ => rfl)
      f_are_rows := y_are_rows F_are_rows m_are_rows (fn_none fun _ => rfl)
      f_bindings_by_top := y_bindings_by_top F_bindings_by_top m_bindings_by_top (fn_none fun _ => rfl)
      f_blocks_in := y_blocks_in F_blocks_in m_blocks_in (fn_none fun _ => rfl)
      f_bound := y_bound F_bound m_bound (fn_none fun _ => rfl)
      f_check_rows := y_check_rows F_check_rows m_check_rows (fn_none fun _ => rfl)
      f_expressions_in := y_expressions_in F_expressions_in m_expressions_in (fn_none fun _ => rfl)
      f_is_def := y_is_def F_is_def m_is_def (fn_none fun _ => rfl)
      f_is_expression := y_is_expression F_is_expression m_is_expression (fn_none fun _ => rfl)
      f_is_from := y_is_from F_is_from m_is_from (fn_none fun _ => rfl)
      f_is_name := y_is_name F_is_name m_is_name (fn_none fun _ => rfl)
      f_is_number := y_is_number F_is_number m_is_number (fn_none fun _ => rfl)
      f_is_path := y_is_path F_is_path m_is_path (fn_none fun _ => rfl)
      f_is_plain_or_named := y_is_plain_or_named F_is_plain_or_named m_is_plain_or_named (fn_none fun _ => rfl)
      f_is_plain_row := y_is_plain_row F_is_plain_row m_is_plain_row (fn_none fun _ => rfl)
      f_is_row := y_is_row F_is_row m_is_row (fn_none fun _ => rfl)
      f_is_within := y_is_within F_is_within m_is_within (fn_none fun _ => rfl)
      f_many_rows := y_many_rows F_many_rows m_many_rows (fn_none fun _ => rfl)
      f_module_bindings := y_module_bindings F_module_bindings m_module_bindings (fn_none fun _ => rfl)
      f_names_bound := y_names_bound F_names_bound m_names_bound (fn_none fun _ => rfl)
      f_names_in := y_names_in F_names_in m_names_in (fn_none fun _ => rfl)
      f_names_read := y_names_read F_names_read m_names_read (fn_none fun _ => rfl)
      f_own_names := y_own_names F_own_names m_own_names (fn_none fun _ => rfl)
      f_reached := y_reached F_reached m_reached (fn_none fun _ => rfl)
      f_rows_by_top := y_rows_by_top F_rows_by_top m_rows_by_top (fn_none fun _ => rfl)
      f_rows_of_block := ⟨⟨_, _, _, _, (fn_none fun _ => rfl), m_rows_of_block, F_rows_of_block.kp, rb2, .nil⟩⟩
      f_told_names := y_told_names F_told_names m_told_names (fn_none fun _ => rfl)
      g_rows_of_block := ⟨⟨_, _, _, ds1, (fn_none fun _ => rfl), m_rows_of_block, F_rows_of_block.kp, rb1, rv1⟩⟩
      v_is_name := ⟨⟨_, m_is_name, rfl⟩⟩
      v_is_path := ⟨⟨_, m_is_path, rfl⟩⟩
      v_is_said := ⟨⟨_, m_is_said, rfl⟩⟩
      dyn := ⟨fun a i hi => by
          have e : (i = 1 ∧ a = He.ga K "is_name") ∨ (i = 2 ∧ a = He.ga K "is_path") ∨ (i = 9 ∧ a = He.ga K "is_said") := by
            unfold T0 at hi
            simp only at hi
            split at hi <;> first | (cases hi; simp) | cases hi
          rcases e with ⟨rfl, rfl⟩ | ⟨rfl, rfl⟩ | ⟨rfl, rfl⟩
          · exact ⟨_, _, (fn_none fun _ => rfl), F_is_name.kp, FunD.bindsN (ps := ["thing"]) F_is_name bd_is_name⟩
          · exact ⟨_, _, (fn_none fun _ => rfl), F_is_path.kp, FunD.bindsN (ps := ["thing"]) F_is_path bd_is_path⟩
          · exact ⟨_, _, (fn_none fun _ => rfl), F_is_said.kp, FunD.bindsN (ps := ["thing"]) F_is_said bd_is_said⟩⟩
      k_Around := ⟨⟨_, _, _, _, rfl, (fun ds ls e => by unfold mkA at e; split at e <;> first | (cases e; rfl) | cases e), He.mkr_ok (c.fact 68 (f := .mkr "Around") rfl), ok_init F_Around_init hcl (He.noat_ok (c.fact 69 (f := .noat "Around" "deep") rfl)) (He.noat_ok (c.fact 70 (f := .noat "Around" "block") rfl)) (He.noat_ok (c.fact 71 (f := .noat "Around" "defs") rfl)) (He.noat_ok (c.fact 72 (f := .noat "Around" "is_own") rfl)), m_Around, FunD.bindsN (ps := ["self", "deep", "block", "defs"]) F_Around_init (fun _ _ _ _ _ _ us hl => match us, hl with | [_, _, _, _], _ => rfl)⟩⟩
      m_deeper := ⟨⟨_, _, _, _, rfl, hcl, He.meth_ok (c.fact 67 (f := .meth "Around" "deeper") rfl), (fn_none fun _ => rfl), FunD.bindsN (ps := ["self"]) F_Around_deeper (fun _ _ _ _ _ _ us hl => match us, hl with | [_], _ => rfl), nd_deeper⟩⟩
      cls := fun cc k e => by
          unfold T0 at e
          simp only at e
          split at e
          · cases e
            refine ⟨hcl, rfl, fun f hf => ?_⟩
            simp only [List.mem_cons, List.not_mem_nil, or_false] at hf
            rcases hf with rfl | rfl | rfl | rfl
            · exact He.noat_ok (c.fact 69 (f := .noat "Around" "deep") rfl)
            · exact He.noat_ok (c.fact 70 (f := .noat "Around" "block") rfl)
            · exact He.noat_ok (c.fact 71 (f := .noat "Around" "defs") rfl)
            · exact He.noat_ok (c.fact 72 (f := .noat "Around" "is_own") rfl)
          · cases e }
  | succ k ih =>
    exact {
      b_all := He.free_ok X Gm (c.fact 43 (f := .free "all") rfl)
      b_any := He.free_ok X Gm (c.fact 44 (f := .free "any") rfl)
      b_bool := He.free_ok X Gm (c.fact 45 (f := .free "bool") rfl)
      b_enumerate := He.free_ok X Gm (c.fact 46 (f := .free "enumerate") rfl)
      b_int := He.free_ok X Gm (c.fact 47 (f := .free "int") rfl)
      b_isinstance := He.free_ok X Gm (c.fact 48 (f := .free "isinstance") rfl)
      b_len := He.free_ok X Gm (c.fact 49 (f := .free "len") rfl)
      b_list := He.free_ok X Gm (c.fact 50 (f := .free "list") rfl)
      b_range := He.free_ok X Gm (c.fact 51 (f := .free "range") rfl)
      b_set := He.free_ok X Gm (c.fact 52 (f := .free "set") rfl)
      b_sorted := He.free_ok X Gm (c.fact 53 (f := .free "sorted") rfl)
      b_str := He.free_ok X Gm (c.fact 54 (f := .free "str") rfl)
      b_sum := He.free_ok X Gm (c.fact 55 (f := .free "sum") rfl)
      b_tuple := He.free_ok X Gm (c.fact 56 (f := .free "tuple") rfl)
      c_ALL := He.str_ok X Gm (c.fact 57 (f := .str "ALL" (sS [42])) rfl)
      c_DEEPEST := He.int_ok X Gm (c.fact 58 (f := .int "DEEPEST" 4) rfl)
      c_LETTERS := He.str_ok X Gm (c.fact 59 (f := .str "LETTERS" (sS [97, 98, 99, 100, 101, 102, 103, 104, 105, 106, 107, 108, 109, 110, 111, 112, 113, 114, 115, 116, 117, 118, 119, 120, 121, 122])) rfl)
      c_LONGEST := He.int_ok X Gm (c.fact 60 (f := .int "LONGEST" 8) rfl)
      c_MOST_DOTS := He.int_ok X Gm (c.fact 61 (f := .int "MOST_DOTS" 3) rfl)
      c_MOST_GIVEN := He.int_ok X Gm (c.fact 62 (f := .int "MOST_GIVEN" 3) rfl)
      c_MOST_NAMES := He.int_ok X Gm (c.fact 63 (f := .int "MOST_NAMES" 6) rfl)
      c_MOST_NUMBER := He.int_ok X Gm (c.fact 64 (f := .int "MOST_NUMBER" 9999) rfl)
      c_MOST_ROWS := He.int_ok X Gm (c.fact 65 (f := .int "MOST_ROWS" 40) rfl)
      f__law_binds := y__law_binds F__law_binds m__law_binds (x__law_binds F__law_binds ih (by omega))
      f__law_cell_at := y__law_cell_at F__law_cell_at m__law_cell_at (x__law_cell_at F__law_cell_at ih (by omega))
      f__law_count := y__law_count F__law_count m__law_count (x__law_count F__law_count ih (by omega))
      f__law_flat := y__law_flat F__law_flat m__law_flat (x__law_flat F__law_flat ih (by omega))
      f__law_more := y__law_more F__law_more m__law_more (x__law_more F__law_more ih (by omega))
      f__law_more_samples := y__law_more_samples F__law_more_samples m__law_more_samples (x__law_more_samples F__law_more_samples ih (by omega))
      f__law_named := y__law_named F__law_named m__law_named (x__law_named F__law_named ih (by omega))
      f__law_read := y__law_read F__law_read m__law_read (x__law_read F__law_read ih (by omega))
      f__law_reads := y__law_reads F__law_reads m__law_reads (x__law_reads F__law_reads ih (by omega))
      f__law_rows := y__law_rows F__law_rows m__law_rows (x__law_rows F__law_rows ih (by omega))
      f__law_samples := y__law_samples F__law_samples m__law_samples (x__law_samples F__law_samples ih (by omega))
      f__law_telling := y__law_telling F__law_telling m__law_telling (x__law_telling F__law_telling ih (by omega))
      f_are_names := y_are_names F_are_names m_are_names (x_are_names F_are_names ih (by omega))
      f_are_pairs := y_are_pairs F_are_pairs m_are_pairs (x_are_pairs F_are_pairs ih (by omega))
      f_are_rows := y_are_rows F_are_rows m_are_rows (x_are_rows F_are_rows ih (by omega))
      f_bindings_by_top := y_bindings_by_top F_bindings_by_top m_bindings_by_top (x_bindings_by_top F_bindings_by_top ih (by omega))
      f_blocks_in := y_blocks_in F_blocks_in m_blocks_in (x_blocks_in F_blocks_in ih (by omega))
      f_bound := y_bound F_bound m_bound (x_bound F_bound ih (by omega))
      f_check_rows := y_check_rows F_check_rows m_check_rows (x_check_rows F_check_rows ih (by omega))
      f_expressions_in := y_expressions_in F_expressions_in m_expressions_in (x_expressions_in F_expressions_in ih (by omega))
      f_is_def := y_is_def F_is_def m_is_def (x_is_def F_is_def ih (by omega))
      f_is_expression := y_is_expression F_is_expression m_is_expression (x_is_expression F_is_expression ih (by omega))
      f_is_from := y_is_from F_is_from m_is_from (x_is_from F_is_from ih (by omega))
      f_is_name := y_is_name F_is_name m_is_name (x_is_name F_is_name ih (by omega))
      f_is_number := y_is_number F_is_number m_is_number (x_is_number F_is_number ih (by omega))
      f_is_path := y_is_path F_is_path m_is_path (x_is_path F_is_path ih (by omega))
      f_is_plain_or_named := y_is_plain_or_named F_is_plain_or_named m_is_plain_or_named (x_is_plain_or_named F_is_plain_or_named ih (by omega))
      f_is_plain_row := y_is_plain_row F_is_plain_row m_is_plain_row (x_is_plain_row F_is_plain_row ih (by omega))
      f_is_row := y_is_row F_is_row m_is_row (x_is_row F_is_row ih (by omega))
      f_is_within := y_is_within F_is_within m_is_within (x_is_within F_is_within ih (by omega))
      f_many_rows := y_many_rows F_many_rows m_many_rows (x_many_rows F_many_rows ih (by omega))
      f_module_bindings := y_module_bindings F_module_bindings m_module_bindings (x_module_bindings F_module_bindings ih (by omega))
      f_names_bound := y_names_bound F_names_bound m_names_bound (x_names_bound F_names_bound ih (by omega))
      f_names_in := y_names_in F_names_in m_names_in (x_names_in F_names_in ih (by omega))
      f_names_read := y_names_read F_names_read m_names_read (x_names_read F_names_read ih (by omega))
      f_own_names := y_own_names F_own_names m_own_names (x_own_names F_own_names ih (by omega))
      f_reached := y_reached F_reached m_reached (x_reached F_reached ih (by omega))
      f_rows_by_top := y_rows_by_top F_rows_by_top m_rows_by_top (x_rows_by_top F_rows_by_top ih (by omega))
      f_rows_of_block := ⟨⟨_, _, _, _, (x_rows_of_block F_rows_of_block ih (by omega)), m_rows_of_block, F_rows_of_block.kp, rb2, .nil⟩⟩
      f_told_names := y_told_names F_told_names m_told_names (x_told_names F_told_names ih (by omega))
      g_rows_of_block := ⟨⟨_, _, _, ds1, (x_rows_of_block F_rows_of_block ih (by omega)), m_rows_of_block, F_rows_of_block.kp, rb1, rv1⟩⟩
      v_is_name := ⟨⟨_, m_is_name, rfl⟩⟩
      v_is_path := ⟨⟨_, m_is_path, rfl⟩⟩
      v_is_said := ⟨⟨_, m_is_said, rfl⟩⟩
      dyn := ⟨fun a i hi => by
          have e : (i = 1 ∧ a = He.ga K "is_name") ∨ (i = 2 ∧ a = He.ga K "is_path") ∨ (i = 9 ∧ a = He.ga K "is_said") := by
            unfold T0 at hi
            simp only at hi
            split at hi <;> first | (cases hi; simp) | cases hi
          rcases e with ⟨rfl, rfl⟩ | ⟨rfl, rfl⟩ | ⟨rfl, rfl⟩
          · exact ⟨_, _, (x_is_name F_is_name ih (by omega)), F_is_name.kp, FunD.bindsN (ps := ["thing"]) F_is_name bd_is_name⟩
          · exact ⟨_, _, (x_is_path F_is_path ih (by omega)), F_is_path.kp, FunD.bindsN (ps := ["thing"]) F_is_path bd_is_path⟩
          · exact ⟨_, _, (x_is_said F_is_said ih (by omega)), F_is_said.kp, FunD.bindsN (ps := ["thing"]) F_is_said bd_is_said⟩⟩
      k_Around := ⟨⟨_, _, _, _, rfl, (fun ds ls e => by unfold mkA at e; split at e <;> first | (cases e; rfl) | cases e), He.mkr_ok (c.fact 68 (f := .mkr "Around") rfl), ok_init F_Around_init hcl (He.noat_ok (c.fact 69 (f := .noat "Around" "deep") rfl)) (He.noat_ok (c.fact 70 (f := .noat "Around" "block") rfl)) (He.noat_ok (c.fact 71 (f := .noat "Around" "defs") rfl)) (He.noat_ok (c.fact 72 (f := .noat "Around" "is_own") rfl)), m_Around, FunD.bindsN (ps := ["self", "deep", "block", "defs"]) F_Around_init (fun _ _ _ _ _ _ us hl => match us, hl with | [_, _, _, _], _ => rfl)⟩⟩
      m_deeper := ⟨⟨_, _, _, _, rfl, hcl, He.meth_ok (c.fact 67 (f := .meth "Around" "deeper") rfl), (x_Around_deeper F_Around_deeper ih (by omega)), FunD.bindsN (ps := ["self"]) F_Around_deeper (fun _ _ _ _ _ _ us hl => match us, hl with | [_], _ => rfl), nd_deeper⟩⟩
      cls := fun cc k e => by
          unfold T0 at e
          simp only at e
          split at e
          · cases e
            refine ⟨hcl, rfl, fun f hf => ?_⟩
            simp only [List.mem_cons, List.not_mem_nil, or_false] at hf
            rcases hf with rfl | rfl | rfl | rfl
            · exact He.noat_ok (c.fact 69 (f := .noat "Around" "deep") rfl)
            · exact He.noat_ok (c.fact 70 (f := .noat "Around" "block") rfl)
            · exact He.noat_ok (c.fact 71 (f := .noat "Around" "defs") rfl)
            · exact He.noat_ok (c.fact 72 (f := .noat "Around" "is_own") rfl)
          · cases e }
end
end K04
end
section
set_option Elab.async false
set_option linter.all false
set_option maxRecDepth 100000
set_option maxHeartbeats 4000000
/-! K04Q try of k04. -/
namespace K04
open PD
abbrev S (s : List Nat) : D := .str s
abbrev O := Option (Bool × D)
/-! ### module_bindings (23) -/
/-- one row's turn: m what it adds -/
def MBok (k : Nat) (r : D) (m : List D) : Prop := ∀ (t : O) (acc : List D) (y z : O), acc.length + m.length ≤ lim → ∃ y' z', d_module_bindings_f1 (M k) [t, some (true, .lst acc), some (false, r), y, z] = some (.nx [t, some (true, .lst (acc ++ m)), some (false, r), y', z'])
theorem mb_list {k : Nat} {l ms : List D} (hs : Acc (MBok k) l ms) (hz : ms.length ≤ lim) : M (k + 1) 23 [.tup l] = some (.lst ms) := by
  have z := go_acc (J := O × O × O) (E := fun acc j => [some (false, .tup l), some (true, .lst acc), j.1, j.2.1, j.2.2]) (P := MBok k) (step := fun d r => (bindT (.nm 2) d r).bind fun r1 => d_module_bindings_f1 (M k) r1)
    (fun r mm hr acc j hl => by
      obtain ⟨y', z', e⟩ := hr (some (false, .tup l)) acc j.2.1 j.2.2 hl
      exact ⟨(some (false, r), y', z'), e⟩) hs (acc := []) (j := (none, none, none)) (by simpa using hz)
  obtain ⟨j', e⟩ := z
  show ((d_module_bindings (M k) (startE 5 [.tup l])).bind fun o => match o with | .nx _ => if true then none else some .non | .rt d => some d) = _
  unfold d_module_bindings
  rw [q_seq (ρ' := [some (false, .tup l), some (true, .lst []), none, none, none]) rfl]
  rw [q_seq (ρ' := [some (false, .tup l), some (true, .lst ms), j'.1, j'.2.1, j'.2.2]) ?_]
  · rfl
  · rw [q_for (l := l) rfl]
    exact e
abbrev wt : D := .tup [S [119, 104, 101, 110], S [116, 114, 121]]
/-- a row that is neither when nor try -/
theorem mb_plain {k : Nat} {r : D} {w : List Nat} {nb m2 : List D} (h0 : dIdx r (.int 0) = some (S w)) (hw : cmpd .isIn (S w) wt = some (.bl false)) (h15 : M k 15 [r] = some (.lst nb)) (h25 : M k 25 [r] = some (.lst m2)) (hn : nb.length ≤ lim) :
    MBok k r (nb.map (fun n => .tup [n, S w]) ++ m2) := by
  intro t acc y z hl
  rw [List.length_append, List.length_map] at hl
  refine ⟨y, z, ?_⟩
  unfold d_module_bindings_f1
  refine (q_seq (ρ' := [t, some (true, .lst (acc ++ (nb.map (fun n => .tup [n, S w]) ++ m2))), some (false, r), y, z]) ?_).trans rfl
  refine (q_if (b := false) (by show ((dIdx r (.int 0)).bind _) = _; rw [h0]; exact hw)).trans ?_
  refine (q_seq (ρ' := [t, some (true, .lst (acc ++ nb.map (fun n => .tup [n, S w]))), some (false, r), y, z]) ?_).trans ?_
  · refine q_ext (l := acc) (m := nb.map (fun n => .tup [n, S w])) ?_ rfl (by rw [List.length_map]; omega)
    show ((M k 15 [r]).bind lstD).bind (fun l => (goLc _ l).bind mkL) = _
    rw [h15]
    show (goLc _ nb).bind mkL = _
    rw [goLc_all (h := fun n => .tup [n, S w]) (fun d hd => by
      show (((((dIdx r (.int 0)).bind fun x => (some ([] : List D)).bind fun q => some (x :: q)).bind fun q => some (d :: q))).bind mkT).bind (fun x => some (some x)) = _
      rw [h0]; rfl)]
    show mkL _ = _
    unfold mkL
    rw [List.length_map, if_pos hn]
  refine (q_seq (ρ' := [t, some (true, .lst (acc ++ (nb.map (fun n => .tup [n, S w]) ++ m2))), some (false, r), y, z]) ?_).trans rfl
  refine (q_ext (l := acc ++ nb.map (fun n => .tup [n, S w])) (m := m2) h25 rfl ?_).trans ?_
  · rw [List.length_append, List.length_map]; omega
  · rw [← List.append_assoc]; rfl
/-- a when or a try: its blocks -/
theorem mb_block {k : Nat} {r : D} {w : List Nat} {bs gs : List D} (h0 : dIdx r (.int 0) = some (S w)) (hw : cmpd .isIn (S w) wt = some (.bl true)) (h18 : M k 18 [r] = some (.lst bs)) (h23 : Acc (fun b m => M k 23 [b] = some (.lst m)) bs gs) : MBok k r gs := by
  intro t acc y z hl
  have zz := go_acc (J := O) (E := fun acc j => [t, some (true, .lst acc), some (false, r), j, z]) (P := fun b m => M k 23 [b] = some (.lst m)) (step := fun d ρ => (bindT (.nm 3) d ρ).bind fun r1 => d_module_bindings_f2 (M k) r1)
    (fun b gm hb acc j hz => ⟨some (false, b), by
      show d_module_bindings_f2 (M k) [t, some (true, .lst acc), some (false, r), some (false, b), z] = _
      unfold d_module_bindings_f2
      refine (q_seq (ρ' := [t, some (true, .lst (acc ++ gm)), some (false, r), some (false, b), z]) ?_).trans rfl
      exact q_ext (l := acc) (m := gm) hb rfl hz⟩) h23 (acc := acc) (j := y) hl
  obtain ⟨j', e⟩ := zz
  refine ⟨j', z, ?_⟩
  unfold d_module_bindings_f1
  refine (q_seq (ρ' := [t, some (true, .lst (acc ++ gs)), some (false, r), j', z]) ?_).trans rfl
  refine (q_if (b := true) (by show ((dIdx r (.int 0)).bind _) = _; rw [h0]; exact hw)).trans ?_
  refine (q_seq (ρ' := [t, some (true, .lst (acc ++ gs)), some (false, r), j', z]) ?_).trans rfl
  refine (q_for (l := bs) ?_).trans e
  show (M k 18 [r]).bind lstD = _
  rw [h18]; rfl

/-! ### names_read (28) -/
def NRok (k : Nat) (dl tl : D) (r : D) (m : List D) : Prop := ∀ (t : O) (acc : List D) (a b c : O), acc.length + m.length ≤ lim → ∃ a' b' c', d_names_read_f1 (M k) [t, some (false, dl), some (false, tl), some (true, .lst acc), some (false, r), a, b, c] = some (.nx [t, some (false, dl), some (false, tl), some (true, .lst (acc ++ m)), some (false, r), a', b', c'])
theorem nr_list {k : Nat} {dl tl : D} {l ms : List D} (hs : Acc (NRok k dl tl) l ms) (hz : ms.length ≤ lim) : M (k + 1) 28 [.tup l, dl, tl] = some (.lst ms) := by
  have z := go_acc (J := O × O × O × O) (E := fun acc j => [some (false, .tup l), some (false, dl), some (false, tl), some (true, .lst acc), j.1, j.2.1, j.2.2.1, j.2.2.2]) (P := NRok k dl tl) (step := fun d r => (bindT (.nm 4) d r).bind fun r1 => d_names_read_f1 (M k) r1)
    (fun r mm hr acc j hl => by
      obtain ⟨a', b', c', e⟩ := hr (some (false, .tup l)) acc j.2.1 j.2.2.1 j.2.2.2 hl
      exact ⟨(some (false, r), a', b', c'), e⟩) hs (acc := []) (j := (none, none, none, none)) (by simpa using hz)
  obtain ⟨j', e⟩ := z
  show ((d_names_read (M k) (startE 8 [.tup l, dl, tl])).bind fun o => match o with | .nx _ => if false then none else some .non | .rt d => some d) = _
  unfold d_names_read
  rw [q_seq (ρ' := [some (false, .tup l), some (false, dl), some (false, tl), some (true, .lst []), none, none, none, none]) rfl]
  rw [q_seq (ρ' := [some (false, .tup l), some (false, dl), some (false, tl), some (true, .lst ms), j'.1, j'.2.1, j'.2.2.1, j'.2.2.2]) ?_]
  · rfl
  · rw [q_for (l := l) rfl]
    exact e

/-- whether a name is told, by the defs around and the names told top -/
def keepT (dl tl n : D) : Option D := vOr (v2 (cmpd .eq) (vVar 1) (vLst (vNil))) (vOr (v2 (cmpd .isIn) (vVar 5) (vVar 2)) (v1 dNot (v1 dAny (vLc (vIl (vVar 1)) (.nm 7) [7] (vT0) (v2 (cmpd .isIn) (vVar 5) (vVar 7)))))) [none, some (false, dl), some (false, tl), none, none, some (false, n), none, none]
theorem nr_name {k : Nat} {dl tl n : D} {b : Bool} (h : keepT dl tl n = some (.bl b)) (t : O) (acc : List D) (r : D) (y z : O) (hl : acc.length + (if b then [n] else []).length ≤ lim) :
    d_names_read_f2 (M k) [t, some (false, dl), some (false, tl), some (true, .lst acc), some (false, r), some (false, n), y, z] = some (.nx [t, some (false, dl), some (false, tl), some (true, .lst (acc ++ if b then [n] else [])), some (false, r), some (false, n), y, z]) := by
  unfold d_names_read_f2
  refine (q_seq (ρ' := [t, some (false, dl), some (false, tl), some (true, .lst (acc ++ if b then [n] else [])), some (false, r), some (false, n), y, z]) ?_).trans rfl
  refine (q_if (b := b) h).trans ?_
  cases b with
  | true =>
    refine (q_seq (ρ' := [t, some (false, dl), some (false, tl), some (true, .lst (acc ++ [n])), some (false, r), some (false, n), y, z]) ?_).trans rfl
    exact q_app (l := acc) (d := n) rfl rfl (Nat.lt_of_succ_le (by simpa using hl))
  | false =>
    rw [if_neg (by simp), if_neg (by simp), List.append_nil]
    rfl

theorem nr_lc {k : Nat} {r : D} {es : List D} {nm : D → List D} (h27 : M k 27 [r] = some (.lst es)) (h26 : ∀ e ∈ es, M k 26 [e] = some (.lst (nm e))) (hz : (es.flatMap nm).length ≤ lim) (t x1 x2 x3 a b c : O) :
    vLc2 (vIl (vCall (M k) 27 (vCons (vVar 4) vNil))) (.nm 6) [6, 5] (vT0) (vIl (vCall (M k) 26 (vCons (vVar 6) vNil))) (.nm 5) [5] (vT0) (vVar 5) [t, x1, x2, x3, some (false, r), a, b, c] = some (.lst (es.flatMap nm)) := by
  show ((M k 27 [r]).bind lstD).bind (fun l => (allM _ l).bind fun ls => mkL ls.flatten) = _
  rw [h27]
  show (allM _ es).bind (fun ls => mkL ls.flatten) = _
  rw [allM_all (h := nm) (fun e he => by
    show ((M k 26 [e]).bind lstD).bind (fun l2 => goLc _ l2) = _
    rw [h26 e he]
    show goLc _ (nm e) = _
    refine (goLc_all (h := fun d => d) (fun d hd => ?_)).trans (by rw [List.map_id'])
    rfl)]
  show mkL (es.map nm).flatten = _
  unfold mkL
  rw [← List.flatMap_def, if_pos hz]

abbrev kp (p : D → Bool) (n : D) : List D := if p n then [n] else []
/-- the names of a row's own expressions -/
theorem nr_own {k : Nat} {dl tl r : D} {es : List D} {nm : D → List D} {p : D → Bool} (h27 : M k 27 [r] = some (.lst es)) (h26 : ∀ e ∈ es, M k 26 [e] = some (.lst (nm e))) (hz : (es.flatMap nm).length ≤ lim) (hp : ∀ n ∈ es.flatMap nm, keepT dl tl n = some (.bl (p n))) (t : O) (acc : List D) (a b c : O) (hl : acc.length + ((es.flatMap nm).flatMap (kp p)).length ≤ lim) :
    ∃ a', vFor (vIl (vLc2 (vIl (vCall (M k) 27 (vCons (vVar 4) vNil))) (.nm 6) [6, 5] (vT0) (vIl (vCall (M k) 26 (vCons (vVar 6) vNil))) (.nm 5) [5] (vT0) (vVar 5))) [4] (.nm 5) (d_names_read_f2 (M k)) [t, some (false, dl), some (false, tl), some (true, .lst acc), some (false, r), a, b, c] = some (.nx [t, some (false, dl), some (false, tl), some (true, .lst (acc ++ (es.flatMap nm).flatMap (kp p))), some (false, r), a', b, c]) := by
  have z := go_accH (J := O) (E := fun acc j => [t, some (false, dl), some (false, tl), some (true, .lst acc), some (false, r), j, b, c]) (h := kp p) (step := fun d r => (bindT (.nm 5) d r).bind fun r1 => d_names_read_f2 (M k) r1) (l := es.flatMap nm)
    (fun n hn acc j hz => ⟨some (false, n), nr_name (k := k) (hp n hn) t acc r b c hz⟩) (acc := acc) (j := a) hl
  obtain ⟨j', e⟩ := z
  refine ⟨j', (q_for (l := es.flatMap nm) ?_).trans e⟩
  show (vLc2 _ _ _ _ _ _ _ _ _ [t, some (false, dl), some (false, tl), some (true, .lst acc), some (false, r), a, b, c]).bind lstD = _
  rw [nr_lc h27 h26 hz]; rfl
/-- a row that is no def -/
theorem nr_plain {k : Nat} {dl tl r : D} {w : List Nat} {es bs gs : List D} {nm : D → List D} {p : D → Bool} (h0 : dIdx r (.int 0) = some (S w)) (hw : cmpd .eq (S w) (S [100, 101, 102]) = some (.bl false)) (h27 : M k 27 [r] = some (.lst es)) (h26 : ∀ e ∈ es, M k 26 [e] = some (.lst (nm e))) (hz : (es.flatMap nm).length ≤ lim) (hp : ∀ n ∈ es.flatMap nm, keepT dl tl n = some (.bl (p n)))
    (h18 : M k 18 [r] = some (.lst bs)) (h28 : Acc (fun b m => M k 28 [b, dl, tl] = some (.lst m)) bs gs) : NRok k dl tl r ((es.flatMap nm).flatMap (kp p) ++ gs) := by
  intro t acc a b c hl
  rw [List.length_append] at hl
  obtain ⟨a', e1⟩ := nr_own h27 h26 hz hp t acc a b c (by omega)
  have z := go_acc (J := O) (E := fun acc j => [t, some (false, dl), some (false, tl), some (true, .lst acc), some (false, r), a', b, j]) (P := fun b m => M k 28 [b, dl, tl] = some (.lst m)) (step := fun d r => (bindT (.nm 7) d r).bind fun r1 => d_names_read_f3 (M k) r1)
    (fun x gm hx acc j hz => ⟨some (false, x), by
      show d_names_read_f3 (M k) [t, some (false, dl), some (false, tl), some (true, .lst acc), some (false, r), a', b, some (false, x)] = _
      unfold d_names_read_f3
      refine (q_seq (ρ' := [t, some (false, dl), some (false, tl), some (true, .lst (acc ++ gm)), some (false, r), a', b, some (false, x)]) ?_).trans rfl
      exact q_ext (l := acc) (m := gm) hx rfl hz⟩) h28 (acc := acc ++ (es.flatMap nm).flatMap (kp p)) (j := c) (by rw [List.length_append]; omega)
  obtain ⟨j', e2⟩ := z
  refine ⟨a', b, j', ?_⟩
  unfold d_names_read_f1
  refine (q_seq e1).trans ?_
  refine (q_seq (ρ' := [t, some (false, dl), some (false, tl), some (true, .lst (acc ++ ((es.flatMap nm).flatMap (kp p) ++ gs))), some (false, r), a', b, j']) ?_).trans rfl
  refine (q_if (b := false) (by show ((dIdx r (.int 0)).bind _) = _; rw [h0]; exact hw)).trans ?_
  refine (q_seq (ρ' := [t, some (false, dl), some (false, tl), some (true, .lst (acc ++ ((es.flatMap nm).flatMap (kp p) ++ gs))), some (false, r), a', b, j']) ?_).trans rfl
  refine (q_for (l := bs) ?_).trans ?_
  · show (M k 18 [r]).bind lstD = _
    rw [h18]; rfl
  · rw [← List.append_assoc]; exact e2

/-- a def -/
theorem nr_def {k : Nat} {dls : List D} {tl r gv bd ol tp : D} {es m : List D} {nm : D → List D} {p : D → Bool} (h0 : dIdx r (.int 0) = some (S [100, 101, 102])) (h2 : dIdx r (.int 2) = some gv) (h3 : dIdx r (.int 3) = some bd) (h27 : M k 27 [r] = some (.lst es)) (h26 : ∀ e ∈ es, M k 26 [e] = some (.lst (nm e))) (hz : (es.flatMap nm).length ≤ lim) (hp : ∀ n ∈ es.flatMap nm, keepT (.lst dls) tl n = some (.bl (p n)))
    (h16 : M k 16 [gv, bd] = some ol) (h14 : M k 14 [bd, S [116, 111, 112]] = some tp) (hdl : dls.length + 1 ≤ lim) (h28 : M k 28 [bd, .lst (ol :: dls), tp] = some (.lst m)) : NRok k (.lst dls) tl r ((es.flatMap nm).flatMap (kp p) ++ m) := by
  intro t acc a b c hl
  rw [List.length_append] at hl
  obtain ⟨a', e1⟩ := nr_own h27 h26 hz hp t acc a b c (by omega)
  refine ⟨a', b, c, ?_⟩
  unfold d_names_read_f1
  refine (q_seq e1).trans ?_
  refine (q_seq (ρ' := [t, some (false, .lst dls), some (false, tl), some (true, .lst (acc ++ ((es.flatMap nm).flatMap (kp p) ++ m))), some (false, r), a', b, c]) ?_).trans rfl
  refine (q_if (b := true) (by show ((dIdx r (.int 0)).bind _) = _; rw [h0]; rfl)).trans ?_
  refine (q_seq (ρ' := [t, some (false, .lst dls), some (false, tl), some (true, .lst (acc ++ ((es.flatMap nm).flatMap (kp p) ++ m))), some (false, r), a', b, c]) ?_).trans rfl
  refine (q_ext (l := acc ++ (es.flatMap nm).flatMap (kp p)) (m := m) ?_ rfl (by rw [List.length_append]; omega)).trans ?_
  · have e2 : v2 dCat (vLst (vCons (vCall (M k) 16 (vCons (v2 dIdx (vVar 4) (vK (.int 2))) (vCons (v2 dIdx (vVar 4) (vK (.int 3))) vNil))) vNil)) (vVar 1) [t, some (false, .lst dls), some (false, tl), some (true, .lst (acc ++ (es.flatMap nm).flatMap (kp p))), some (false, r), a', b, c] = some (.lst (ol :: dls)) := by
      show (((((dIdx r (.int 2)).bind fun x => ((dIdx r (.int 3)).bind fun x => some [x]).bind fun q => some (x :: q)).bind fun ds => M k 16 ds).bind fun x => some [x]).bind mkL).bind (fun x => dCat x (.lst dls)) = _
      rw [h2, h3]
      show (((M k 16 [gv, bd]).bind fun x => some [x]).bind mkL).bind (fun x => dCat x (.lst dls)) = _
      rw [h16]
      show mkL ([ol] ++ dls) = _
      unfold mkL
      rw [if_pos (by simpa [Nat.add_comm] using hdl)]; rfl
    have e3 : vCall (M k) 14 (vCons (v2 dIdx (vVar 4) (vK (.int 3))) (vCons (vK (.str [116, 111, 112])) vNil)) [t, some (false, .lst dls), some (false, tl), some (true, .lst (acc ++ (es.flatMap nm).flatMap (kp p))), some (false, r), a', b, c] = some tp := by
      show (((dIdx r (.int 3)).bind fun x => some [x, S [116, 111, 112]]).bind fun ds => M k 14 ds) = _
      rw [h3]; exact h14
    show (((dIdx r (.int 3)).bind fun x => ((v2 dCat _ _ [t, some (false, .lst dls), some (false, tl), some (true, .lst (acc ++ (es.flatMap nm).flatMap (kp p))), some (false, r), a', b, c]).bind fun y => ((vCall (M k) 14 _ [t, some (false, .lst dls), some (false, tl), some (true, .lst (acc ++ (es.flatMap nm).flatMap (kp p))), some (false, r), a', b, c]).bind fun z => some [z]).bind fun q => some (y :: q)).bind fun q => some (x :: q)).bind fun ds => M k 28 ds) = _
    rw [h3, e2, e3]
    exact h28
  · rw [← List.append_assoc]; rfl

/-! ### rows_of_block (13) -/
def RBok (k : Nat) (dp : Int) (r : D) (m : List D) : Prop := ∀ (t : O) (acc : List D) (y : O), acc.length + m.length ≤ lim → ∃ y', d_rows_of_block_f1 (M k) [t, some (false, .int dp), some (true, .lst acc), some (false, r), y] = some (.nx [t, some (false, .int dp), some (true, .lst (acc ++ m)), some (false, r), y'])
theorem rb_list {k : Nat} {dp : Int} {l ms : List D} (hs : Acc (RBok k dp) l ms) (hz : ms.length ≤ lim) : M (k + 1) 13 [.tup l, .int dp] = some (.lst ms) := by
  have z := go_acc (J := O × O) (E := fun acc j => [some (false, .tup l), some (false, .int dp), some (true, .lst acc), j.1, j.2]) (P := RBok k dp) (step := fun d r => (bindT (.nm 3) d r).bind fun r1 => d_rows_of_block_f1 (M k) r1)
    (fun r mm hr acc j hl => by
      obtain ⟨y', e⟩ := hr (some (false, .tup l)) acc j.2 hl
      exact ⟨(some (false, r), y'), e⟩) hs (acc := []) (j := (none, none)) (by simpa using hz)
  obtain ⟨j', e⟩ := z
  show ((d_rows_of_block (M k) (startE 5 [.tup l, .int dp])).bind fun o => match o with | .nx _ => if false then none else some .non | .rt d => some d) = _
  unfold d_rows_of_block
  rw [q_seq (ρ' := [some (false, .tup l), some (false, .int dp), some (true, .lst []), none, none]) rfl]
  rw [q_seq (ρ' := [some (false, .tup l), some (false, .int dp), some (true, .lst ms), j'.1, j'.2]) ?_]
  · rfl
  · rw [q_for (l := l) rfl]
    exact e
def condR (dp : Int) (r : D) : Option D := vAnd (v2 (cmpd .lt) (vVar 1) (vK (.int 4))) (vAnd (v1 (dIsi .tuple) (vVar 3)) (vAnd (v2 (cmpd .ne) (vVar 3) (vTup (vNil))) (v1 (dIsi .str) (v2 dIdx (vVar 3) (vK (.int 0)))))) [none, some (false, .int dp), none, some (false, r), none]
def blR (r : D) : Option (List D) := vIt (vIf (v2 (cmpd .isIn) (v2 dIdx (vVar 3) (vK (.int 0))) (vTup (vCons (vK (.str [119, 104, 101, 110])) (vCons (vK (.str [116, 114, 121])) vNil)))) (vSlc dSlT (vVar 3) (vSo (v1 dNeg (vK (.int 2)))) (vNo)) (vTup (vNil))) [none, none, none, some (false, r), none]
theorem rb_row {k : Nat} {dp : Int} {r : D} {bs gs : List D} (hc : condR dp r = some (.bl true)) (hb : blR r = some bs) (h13 : Acc (fun b m => (∃ l, b = .tup l) ∧ M k 13 [b, .int (dp + 1)] = some (.lst m)) bs gs) : RBok k dp r (r :: gs) := by
  intro t acc y hl
  rw [List.length_cons] at hl
  have z := go_acc (J := O) (E := fun acc j => [t, some (false, .int dp), some (true, .lst acc), some (false, r), j]) (P := fun b m => (∃ l, b = .tup l) ∧ M k 13 [b, .int (dp + 1)] = some (.lst m)) (step := fun d r => (bindT (.nm 4) d r).bind fun r1 => d_rows_of_block_f2 (M k) r1)
    (fun b gm hb acc j hz => ⟨some (false, b), by
      obtain ⟨⟨l, rfl⟩, h⟩ := hb
      show d_rows_of_block_f2 (M k) [t, some (false, .int dp), some (true, .lst acc), some (false, r), some (false, .tup l)] = _
      unfold d_rows_of_block_f2
      refine (q_seq (ρ' := [t, some (false, .int dp), some (true, .lst (acc ++ gm)), some (false, r), some (false, .tup l)]) ?_).trans rfl
      exact q_ext (l := acc) (m := gm) h rfl hz⟩) h13 (acc := acc ++ [r]) (j := y) (by rw [List.length_append]; simp only [List.length_cons, List.length_nil]; omega)
  obtain ⟨j', e⟩ := z
  refine ⟨j', ?_⟩
  unfold d_rows_of_block_f1
  refine (q_seq (q_app (l := acc) (d := r) rfl rfl (by omega))).trans ?_
  refine (q_seq (ρ' := [t, some (false, .int dp), some (true, .lst (acc ++ (r :: gs))), some (false, r), j']) ?_).trans rfl
  refine (q_if (b := true) hc).trans ?_
  refine (q_seq (ρ' := [t, some (false, .int dp), some (true, .lst (acc ++ (r :: gs))), some (false, r), j']) ?_).trans rfl
  refine (q_for (l := bs) hb).trans ?_
  rw [show acc ++ r :: gs = acc ++ [r] ++ gs by simp]
  exact e

/-! ### told_names (14) -/
def TNok (k : Nat) (w : List Nat) (r : D) (m : List D) : Prop := ∀ (t : O) (acc : List D) (y : O), acc.length + m.length ≤ lim → d_told_names_f1 (M k) [t, some (false, S w), some (true, .lst acc), some (false, r), y] = some (.nx [t, some (false, S w), some (true, .lst (acc ++ m)), some (false, r), y])
theorem tn_list {k : Nat} {w : List Nat} {rows : D} {fl ms : List D} (h13 : M k 13 [rows, .int 0] = some (.lst fl)) (hs : Acc (TNok k w) fl ms) (hz : ms.length ≤ lim) : M (k + 1) 14 [rows, S w] = some (.lst ms) := by
  have z := go_acc (J := O × O) (E := fun acc j => [some (false, rows), some (false, S w), some (true, .lst acc), j.1, j.2]) (P := TNok k w) (step := fun d r => (bindT (.nm 3) d r).bind fun r1 => d_told_names_f1 (M k) r1)
    (fun r mm hr acc j hl => ⟨(some (false, r), j.2), hr (some (false, rows)) acc j.2 hl⟩) hs (acc := []) (j := (none, none)) (by simpa using hz)
  obtain ⟨j', e⟩ := z
  show ((d_told_names (M k) (startE 5 [rows, S w])).bind fun o => match o with | .nx _ => if false then none else some .non | .rt d => some d) = _
  unfold d_told_names
  rw [q_seq (ρ' := [some (false, rows), some (false, S w), some (true, .lst []), none, none]) rfl]
  rw [q_seq (ρ' := [some (false, rows), some (false, S w), some (true, .lst ms), j'.1, j'.2]) ?_]
  · rfl
  · refine (q_for (l := fl) ?_).trans e
    show ((M k 13 [rows, .int 0]).bind lstD) = _
    rw [h13]; rfl
def condT (w : List Nat) (r : D) : Option D := vAnd (v1 (dIsi .tuple) (vVar 3)) (vAnd (v2 (cmpd .eq) (v1 dLen (vVar 3)) (vK (.int 2))) (vAnd (v1 (dIsi .str) (v2 dIdx (vVar 3) (vK (.int 0)))) (v2 (cmpd .eq) (v2 dIdx (vVar 3) (vK (.int 0))) (vVar 1)))) [none, some (false, S w), none, some (false, r), none]
theorem tn_no {k : Nat} {w : List Nat} {r : D} (h : condT w r = some (.bl false)) : TNok k w r [] := by
  intro t acc y hl
  unfold d_told_names_f1
  refine (q_seq (ρ' := [t, some (false, S w), some (true, .lst (acc ++ [])), some (false, r), y]) ?_).trans rfl
  refine (q_if (b := false) h).trans ?_
  rw [List.append_nil]; rfl
theorem tn_yes {k : Nat} {w : List Nat} {r : D} {ns : List D} (h : condT w r = some (.bl true)) (h1 : dIdx r (.int 1) = some (.tup ns)) (hz : ns.length ≤ lim) : TNok k w r ns := by
  intro t acc y hl
  unfold d_told_names_f1
  refine (q_seq (ρ' := [t, some (false, S w), some (true, .lst (acc ++ ns)), some (false, r), y]) ?_).trans rfl
  refine (q_if (b := true) h).trans ?_
  refine (q_seq (ρ' := [t, some (false, S w), some (true, .lst (acc ++ ns)), some (false, r), y]) ?_).trans rfl
  refine q_ext (l := acc) (m := ns) ?_ rfl hl
  show (((dIdx r (.int 1)).bind fun x => dIsi .tuple x).bind fun x => (truD x).bind fun c => if c then (((dIdx r (.int 1)).bind tupD).bind fun l => (goLc (fLc (.nm 4) [4] vT0 (vVar 4) [t, some (false, S w), some (true, .lst acc), some (false, r), y]) l).bind mkL) else some (.lst [])) = _
  rw [h1]
  show (goLc (fLc (.nm 4) [4] vT0 (vVar 4) [t, some (false, S w), some (true, .lst acc), some (false, r), y]) ns).bind mkL = _
  refine (congrArg (fun o => Option.bind o mkL) (goLc_all (h := fun d => d) (l := ns) fun d hd => ?_)).trans ?_
  · rfl
  · show mkL (ns.map fun d => d) = _
    unfold mkL
    rw [List.map_id', if_pos hz]

/-! ### _law_flat (34) -/
def FLok (k : Nat) (r : D) (m : List D) : Prop := ∀ (t : O) (acc : List D), acc.length + m.length ≤ lim → d__law_flat_f1 (M k) [t, some (true, .lst acc), some (false, r)] = some (.nx [t, some (true, .lst (acc ++ m)), some (false, r)])
theorem fl_list {k : Nat} {l ms : List D} (hs : Acc (FLok k) l ms) (hz : ms.length ≤ lim) : M (k + 1) 34 [.tup l] = some (.lst ms) := by
  have z := go_acc (J := O) (E := fun acc j => [some (false, .tup l), some (true, .lst acc), j]) (P := FLok k) (step := fun d r => (bindT (.nm 2) d r).bind fun r1 => d__law_flat_f1 (M k) r1)
    (fun r mm hr acc j hl => ⟨some (false, r), hr (some (false, .tup l)) acc hl⟩) hs (acc := []) (j := none) (by simpa using hz)
  obtain ⟨j', e⟩ := z
  show ((d__law_flat (M k) (startE 3 [.tup l])).bind fun o => match o with | .nx _ => if false then none else some .non | .rt d => some d) = _
  unfold d__law_flat
  rw [q_seq (ρ' := [some (false, .tup l), some (true, .lst []), none]) rfl]
  rw [q_seq (ρ' := [some (false, .tup l), some (true, .lst ms), j']) ?_]
  · rfl
  · rw [q_for (l := l) rfl]
    exact e
theorem fl_plain {k : Nat} {r : D} {w : List Nat} (h0 : dIdx r (.int 0) = some (S w)) (hw : cmpd .isIn (S w) wt = some (.bl false)) : FLok k r [r] := by
  intro t acc hl
  unfold d__law_flat_f1
  refine (q_seq (q_app (l := acc) (d := r) rfl rfl (Nat.lt_of_succ_le (by simpa using hl)))).trans ?_
  refine (q_seq (ρ' := [t, some (true, .lst (acc ++ [r])), some (false, r)]) ?_).trans rfl
  refine (q_if (b := false) (by show ((dIdx r (.int 0)).bind _) = _; rw [h0]; exact hw)).trans rfl

theorem fl_block {k : Nat} {r a b : D} {w : List Nat} {l1 l2 : List D} (h0 : dIdx r (.int 0) = some (S w)) (hw : cmpd .isIn (S w) wt = some (.bl true)) (ha : dIdx r (.int (-2)) = some a) (hb : dIdx r (.int (-1)) = some b) (h1 : M k 34 [a] = some (.lst l1)) (h2 : M k 34 [b] = some (.lst l2)) : FLok k r (r :: (l1 ++ l2)) := by
  intro t acc hl
  rw [List.length_cons, List.length_append] at hl
  unfold d__law_flat_f1
  refine (q_seq (q_app (l := acc) (d := r) rfl rfl (by omega))).trans ?_
  refine (q_seq (ρ' := [t, some (true, .lst (acc ++ (r :: (l1 ++ l2)))), some (false, r)]) ?_).trans rfl
  refine (q_if (b := true) (by show ((dIdx r (.int 0)).bind _) = _; rw [h0]; exact hw)).trans ?_
  refine (q_seq (ρ' := [t, some (true, .lst (acc ++ (r :: (l1 ++ l2)))), some (false, r)]) ?_).trans rfl
  refine (q_asg (d := .lst (acc ++ (r :: (l1 ++ l2)))) ?_ (by show 1 < 3; decide)).trans rfl
  show (((((dIdx r (.int (-2))).bind fun x => some [x]).bind fun ds => M k 34 ds).bind fun y => dCat (.lst (acc ++ [r])) y).bind fun x => ((((dIdx r (.int (-1))).bind fun x => some [x]).bind fun ds => M k 34 ds).bind fun y => dCat x y)) = _
  rw [ha, hb]
  show (((M k 34 [a]).bind fun y => dCat (.lst (acc ++ [r])) y).bind fun x => ((M k 34 [b]).bind fun y => dCat x y)) = _
  rw [h1, h2]
  show ((mkL ((acc ++ [r]) ++ l1)).bind fun x => dCat x (.lst l2)) = _
  unfold mkL
  rw [if_pos (by simp only [List.length_append, List.length_cons, List.length_nil]; omega)]
  show mkL (((acc ++ [r]) ++ l1) ++ l2) = _
  unfold mkL
  rw [if_pos (by simp only [List.length_append, List.length_cons, List.length_nil]; omega)]
  simp

/-! ### _law_telling (35) -/
def TEok (k : Nat) (w : List Nat) (r : D) (m : List D) : Prop := ∀ (t : O) (acc : List D), acc.length + m.length ≤ lim → d__law_telling_f1 (M k) [t, some (false, S w), some (true, .lst acc), some (false, r)] = some (.nx [t, some (false, S w), some (true, .lst (acc ++ m)), some (false, r)])
theorem te_list {k : Nat} {w : List Nat} {rows : D} {fl ms : List D} (h34 : M k 34 [rows] = some (.lst fl)) (hs : Acc (TEok k w) fl ms) (hz : ms.length ≤ lim) : M (k + 1) 35 [rows, S w] = some (.lst ms) := by
  have z := go_acc (J := O) (E := fun acc j => [some (false, rows), some (false, S w), some (true, .lst acc), j]) (P := TEok k w) (step := fun d r => (bindT (.nm 3) d r).bind fun r1 => d__law_telling_f1 (M k) r1)
    (fun r mm hr acc j hl => ⟨some (false, r), hr (some (false, rows)) acc hl⟩) hs (acc := []) (j := none) (by simpa using hz)
  obtain ⟨j', e⟩ := z
  show ((d__law_telling (M k) (startE 4 [rows, S w])).bind fun o => match o with | .nx _ => if false then none else some .non | .rt d => some d) = _
  unfold d__law_telling
  rw [q_seq (ρ' := [some (false, rows), some (false, S w), some (true, .lst []), none]) rfl]
  rw [q_seq (ρ' := [some (false, rows), some (false, S w), some (true, .lst ms), j']) ?_]
  · rfl
  · refine (q_for (l := fl) ?_).trans e
    show ((M k 34 [rows]).bind lstD) = _
    rw [h34]; rfl
theorem te_no {k : Nat} {w v : List Nat} {r : D} (h0 : dIdx r (.int 0) = some (S v)) (h : cmpd .eq (S v) (S w) = some (.bl false)) : TEok k w r [] := by
  intro t acc hl
  unfold d__law_telling_f1
  refine (q_seq (ρ' := [t, some (false, S w), some (true, .lst (acc ++ [])), some (false, r)]) ?_).trans rfl
  refine (q_if (b := false) (by show ((dIdx r (.int 0)).bind _) = _; rw [h0]; exact h)).trans ?_
  rw [List.append_nil]; rfl
theorem te_yes {k : Nat} {w v : List Nat} {r : D} {ns : List D} (h0 : dIdx r (.int 0) = some (S v)) (h : cmpd .eq (S v) (S w) = some (.bl true)) (h1 : dIdx r (.int 1) = some (.tup ns)) (hz : ns.length ≤ lim) : TEok k w r ns := by
  intro t acc hl
  unfold d__law_telling_f1
  refine (q_seq (ρ' := [t, some (false, S w), some (true, .lst (acc ++ ns)), some (false, r)]) ?_).trans rfl
  refine (q_if (b := true) (by show ((dIdx r (.int 0)).bind _) = _; rw [h0]; exact h)).trans ?_
  refine (q_seq (ρ' := [t, some (false, S w), some (true, .lst (acc ++ ns)), some (false, r)]) ?_).trans rfl
  refine (q_asg (d := .lst (acc ++ ns)) ?_ (by show 2 < 4; decide)).trans rfl
  show (((dIdx r (.int 1)).bind fun x => dToL x).bind fun y => dCat (.lst acc) y) = _
  rw [h1]
  show ((mkL ns).bind fun y => dCat (.lst acc) y) = _
  unfold mkL
  rw [if_pos hz]
  show mkL (acc ++ ns) = _
  unfold mkL
  rw [if_pos (by rw [List.length_append]; exact hl)]

/-! ### _law_binds (36) -/
def LBok (k : Nat) (tp r : D) (m : List D) : Prop := ∀ (t : O) (acc : List D) (y : O), acc.length + m.length ≤ lim → d__law_binds_f1 (M k) [t, some (false, tp), some (true, .lst acc), some (false, r), y] = some (.nx [t, some (false, tp), some (true, .lst (acc ++ m)), some (false, r), y])
theorem lb_list {k : Nat} {tp rows : D} {fl ms : List D} (h34 : M k 34 [rows] = some (.lst fl)) (hs : Acc (LBok k tp) fl ms) (hz : ms.length ≤ lim) : M (k + 1) 36 [rows, tp] = some (.lst ms) := by
  have z := go_acc (J := O × O) (E := fun acc j => [some (false, rows), some (false, tp), some (true, .lst acc), j.1, j.2]) (P := LBok k tp) (step := fun d r => (bindT (.nm 3) d r).bind fun r1 => d__law_binds_f1 (M k) r1)
    (fun r mm hr acc j hl => ⟨(some (false, r), j.2), hr (some (false, rows)) acc j.2 hl⟩) hs (acc := []) (j := (none, none)) (by simpa using hz)
  obtain ⟨j', e⟩ := z
  show ((d__law_binds (M k) (startE 5 [rows, tp])).bind fun o => match o with | .nx _ => if false then none else some .non | .rt d => some d) = _
  unfold d__law_binds
  rw [q_seq (ρ' := [some (false, rows), some (false, tp), some (true, .lst []), none, none]) rfl]
  rw [q_seq (ρ' := [some (false, rows), some (false, tp), some (true, .lst ms), j'.1, j'.2]) ?_]
  · rfl
  · refine (q_for (l := fl) ?_).trans e
    show ((M k 34 [rows]).bind lstD) = _
    rw [h34]; rfl
def keepB (tp n : D) : Option D := vOr (v1 dIsN (vVar 1)) (v2 (cmpd .isIn) (vVar 4) (vVar 1)) [none, some (false, tp), none, none, some (false, n)]

theorem lb_own {k : Nat} {tp r : D} {w : List Nat} {nb : List D} {p : D → Bool} (h0 : dIdx r (.int 0) = some (S w)) (h33 : M k 33 [r] = some (.lst nb)) (hn : nb.length ≤ lim) (hp : ∀ n ∈ nb, keepB tp n = some (.bl (p n))) (t : O) (acc : List D) (y : O) (hl : acc.length + (nb.filter p).length ≤ lim) :
    vAsg .fr (v2 dCat (vVar 2) (vLc (vIl (vCall (M k) 33 (vCons (vVar 3) vNil))) (.nm 4) [4] (vT1 (vOr (v1 dIsN (vVar 1)) (v2 (cmpd .isIn) (vVar 4) (vVar 1)))) (vTup (vCons (vVar 4) (vCons (v2 dIdx (vVar 3) (vK (.int 0))) vNil))))) [3] 2 [t, some (false, tp), some (true, .lst acc), some (false, r), y] = some (.nx [t, some (false, tp), some (true, .lst (acc ++ (nb.filter p).map fun n => .tup [n, S w])), some (false, r), y]) := by
  refine (q_asg (d := .lst (acc ++ (nb.filter p).map fun n => .tup [n, S w])) ?_ (by show 2 < 5; decide)).trans rfl
  have e1 : vLc (vIl (vCall (M k) 33 (vCons (vVar 3) vNil))) (.nm 4) [4] (vT1 (vOr (v1 dIsN (vVar 1)) (v2 (cmpd .isIn) (vVar 4) (vVar 1)))) (vTup (vCons (vVar 4) (vCons (v2 dIdx (vVar 3) (vK (.int 0))) vNil))) [t, some (false, tp), some (true, .lst acc), some (false, r), y] = some (.lst ((nb.filter p).map fun n => .tup [n, S w])) := by
    show ((M k 33 [r]).bind lstD).bind (fun l => (goLc _ l).bind mkL) = _
    rw [h33]
    show (goLc _ nb).bind mkL = _
    refine (congrArg (fun o => Option.bind o mkL) (goLc_flt (p := p) (h := fun n => .tup [n, S w]) (l := nb) fun d hd => ?_)).trans ?_
    · show (((keepB tp d).bind fun x => (truD x).bind fun b => if b then some true else some false).bind fun b => if b then (((((dIdx r (.int 0)).bind fun x => (some ([] : List D)).bind fun q => some (x :: q)).bind fun q => some (d :: q))).bind mkT).bind (fun x => some (some x)) else some none) = _
      rw [hp d hd, h0]
      cases p d <;> rfl
    · show mkL _ = _
      unfold mkL
      rw [if_pos (by rw [List.length_map]; exact Nat.le_trans (List.length_filter_le _ _) hn)]
  show ((vLc _ _ _ _ _ [t, some (false, tp), some (true, .lst acc), some (false, r), y]).bind fun y => dCat (.lst acc) y) = _
  rw [e1]
  show mkL (acc ++ _) = _
  unfold mkL
  rw [if_pos (by rw [List.length_append, List.length_map]; exact hl)]

abbrev bm (w : List Nat) (p : D → Bool) (nb : List D) : List D := (nb.filter p).map fun n => .tup [n, S w]
theorem lb_plain {k : Nat} {tp r : D} {w : List Nat} {nb : List D} {p : D → Bool} (h0 : dIdx r (.int 0) = some (S w)) (hw1 : cmpd .eq (S w) (S [100, 101, 102]) = some (.bl false)) (hw2 : cmpd .eq (S w) (S [98, 111, 120]) = some (.bl false)) (h33 : M k 33 [r] = some (.lst nb)) (hn : nb.length ≤ lim) (hp : ∀ n ∈ nb, keepB tp n = some (.bl (p n))) : LBok k tp r (bm w p nb) := by
  intro t acc y hl
  rw [List.length_map] at hl
  unfold d__law_binds_f1
  refine (q_seq (lb_own h0 h33 hn hp t acc y hl)).trans ?_
  refine (q_seq (ρ' := [t, some (false, tp), some (true, .lst (acc ++ bm w p nb)), some (false, r), y]) ?_).trans rfl
  refine (q_if (b := false) (by show ((dIdx r (.int 0)).bind _) = _; rw [h0]; exact hw1)).trans ?_
  refine (q_seq (ρ' := [t, some (false, tp), some (true, .lst (acc ++ bm w p nb)), some (false, r), y]) ?_).trans rfl
  exact (q_if (b := false) (by show ((dIdx r (.int 0)).bind _) = _; rw [h0]; exact hw2)).trans rfl
theorem lb_box {k : Nat} {tp r bd : D} {nb m : List D} {p : D → Bool} (h0 : dIdx r (.int 0) = some (S [98, 111, 120])) (h2 : dIdx r (.int 2) = some bd) (h33 : M k 33 [r] = some (.lst nb)) (hn : nb.length ≤ lim) (hp : ∀ n ∈ nb, keepB tp n = some (.bl (p n))) (h36 : M k 36 [bd, .lst []] = some (.lst m)) : LBok k tp r (bm [98, 111, 120] p nb ++ m) := by
  intro t acc y hl
  rw [List.length_append, List.length_map] at hl
  unfold d__law_binds_f1
  refine (q_seq (lb_own h0 h33 hn hp t acc y (by omega))).trans ?_
  refine (q_seq (ρ' := [t, some (false, tp), some (true, .lst (acc ++ (bm [98, 111, 120] p nb ++ m))), some (false, r), y]) ?_).trans rfl
  refine (q_if (b := false) (by show ((dIdx r (.int 0)).bind _) = _; rw [h0]; rfl)).trans ?_
  refine (q_seq (ρ' := [t, some (false, tp), some (true, .lst (acc ++ (bm [98, 111, 120] p nb ++ m))), some (false, r), y]) ?_).trans rfl
  refine (q_if (b := true) (by show ((dIdx r (.int 0)).bind _) = _; rw [h0]; rfl)).trans ?_
  refine (q_seq (ρ' := [t, some (false, tp), some (true, .lst (acc ++ (bm [98, 111, 120] p nb ++ m))), some (false, r), y]) ?_).trans rfl
  refine (q_asg (d := .lst (acc ++ (bm [98, 111, 120] p nb ++ m))) ?_ (by show 2 < 5; decide)).trans rfl
  show ((((dIdx r (.int 2)).bind fun x => some [x, .lst []]).bind fun ds => M k 36 ds).bind fun z => dCat (.lst (acc ++ bm [98, 111, 120] p nb)) z) = _
  rw [h2]
  show ((M k 36 [bd, .lst []]).bind fun z => dCat (.lst (acc ++ bm [98, 111, 120] p nb)) z) = _
  rw [h36]
  show mkL (acc ++ bm [98, 111, 120] p nb ++ m) = _
  unfold mkL
  rw [if_pos (by simp only [List.length_append, List.length_map]; omega), List.append_assoc]
theorem lb_def {k : Nat} {tp r bd tq : D} {nb m : List D} {p : D → Bool} (h0 : dIdx r (.int 0) = some (S [100, 101, 102])) (h3 : dIdx r (.int 3) = some bd) (h33 : M k 33 [r] = some (.lst nb)) (hn : nb.length ≤ lim) (hp : ∀ n ∈ nb, keepB tp n = some (.bl (p n))) (h35 : M k 35 [bd, S [116, 111, 112]] = some tq) (h36 : M k 36 [bd, tq] = some (.lst m)) : LBok k tp r (bm [100, 101, 102] p nb ++ m) := by
  intro t acc y hl
  rw [List.length_append, List.length_map] at hl
  unfold d__law_binds_f1
  refine (q_seq (lb_own h0 h33 hn hp t acc y (by omega))).trans ?_
  refine (q_seq (ρ' := [t, some (false, tp), some (true, .lst (acc ++ (bm [100, 101, 102] p nb ++ m))), some (false, r), y]) ?_).trans rfl
  refine (q_if (b := true) (by show ((dIdx r (.int 0)).bind _) = _; rw [h0]; rfl)).trans ?_
  refine (q_seq (ρ' := [t, some (false, tp), some (true, .lst (acc ++ (bm [100, 101, 102] p nb ++ m))), some (false, r), y]) ?_).trans rfl
  refine (q_asg (d := .lst (acc ++ (bm [100, 101, 102] p nb ++ m))) ?_ (by show 2 < 5; decide)).trans rfl
  show ((((dIdx r (.int 3)).bind fun x => ((((dIdx r (.int 3)).bind fun x => some [x, S [116, 111, 112]]).bind fun ds => M k 35 ds).bind fun z => some [z]).bind fun q => some (x :: q)).bind fun ds => M k 36 ds).bind fun z => dCat (.lst (acc ++ bm [100, 101, 102] p nb)) z) = _
  rw [h3]
  show ((((M k 35 [bd, S [116, 111, 112]]).bind fun z => some [z]).bind fun q => some (bd :: q)).bind fun ds => M k 36 ds).bind (fun z => dCat (.lst (acc ++ bm [100, 101, 102] p nb)) z) = _
  rw [h35]
  show ((M k 36 [bd, tq]).bind fun z => dCat (.lst (acc ++ bm [100, 101, 102] p nb)) z) = _
  rw [h36]
  show mkL (acc ++ bm [100, 101, 102] p nb ++ m) = _
  unfold mkL
  rw [if_pos (by simp only [List.length_append, List.length_map]; omega), List.append_assoc]

/-! ### rows_by_top (24), bindings_by_top (25) -/
abbrev db : D := .tup [S [100, 101, 102], S [98, 111, 120]]
def RTok (k : Nat) (tps r : D) (m : List D) : Prop := ∀ (t z : O) (acc : List D), acc.length + m.length ≤ lim → d_rows_by_top_f2 (M k) [t, some (true, .lst acc), some (false, tps), z, some (false, r)] = some (.nx [t, some (true, .lst (acc ++ m)), some (false, tps), z, some (false, r)])
theorem rt_plain {k : Nat} {tps r : D} {w : List Nat} (h0 : dIdx r (.int 0) = some (S w)) (hw : cmpd .isIn (S w) db = some (.bl false)) : RTok k tps r [.tup [r, tps]] := by
  intro t z acc hl
  unfold d_rows_by_top_f2
  refine (q_seq (q_app (l := acc) (d := .tup [r, tps]) rfl rfl (Nat.lt_of_succ_le (by simpa using hl)))).trans ?_
  refine (q_seq (ρ' := [t, some (true, .lst (acc ++ [.tup [r, tps]])), some (false, tps), z, some (false, r)]) ?_).trans rfl
  exact (q_if (b := false) (by show ((dIdx r (.int 0)).bind _) = _; rw [h0]; exact hw)).trans rfl
theorem rt_nest {k : Nat} {tps r : D} {w : List Nat} {l : List D} (h0 : dIdx r (.int 0) = some (S w)) (hw : cmpd .isIn (S w) db = some (.bl true)) (h24 : M k 24 [r] = some (.lst l)) : RTok k tps r (.tup [r, tps] :: l) := by
  intro t z acc hl
  rw [List.length_cons] at hl
  unfold d_rows_by_top_f2
  refine (q_seq (q_app (l := acc) (d := .tup [r, tps]) rfl rfl (by omega))).trans ?_
  refine (q_seq (ρ' := [t, some (true, .lst (acc ++ (.tup [r, tps] :: l))), some (false, tps), z, some (false, r)]) ?_).trans rfl
  refine (q_if (b := true) (by show ((dIdx r (.int 0)).bind _) = _; rw [h0]; exact hw)).trans ?_
  refine (q_seq (ρ' := [t, some (true, .lst (acc ++ (.tup [r, tps] :: l))), some (false, tps), z, some (false, r)]) ?_).trans rfl
  refine (q_ext (l := acc ++ [.tup [r, tps]]) (m := l) h24 rfl (by simp only [List.length_append, List.length_cons, List.length_nil]; omega)).trans ?_
  rw [show acc ++ D.tup [r, tps] :: l = acc ++ [D.tup [r, tps]] ++ l by simp]; rfl

theorem rt_row {k : Nat} {r bd tps : D} {w : List Nat} {fl ms : List D} (h0 : dIdx r (.int 0) = some (S w)) (hw : cmpd .isIn (S w) db = some (.bl true)) (ht : ∀ t x y z u : O, vIf (v2 (cmpd .eq) (v2 dIdx (vVar 0) (vK (.int 0))) (vK (.str [100, 101, 102]))) (vCall (M k) 14 (vCons (v2 dIdx (vVar 0) (vK (.int 3))) (vCons (vK (.str [116, 111, 112])) vNil))) (vLst (vNil)) [some (false, r), x, y, z, u] = some tps)
    (h18 : M k 18 [r] = some (.lst [bd])) (h13 : M k 13 [bd, .int 0] = some (.lst fl)) (hs : Acc (RTok k tps) fl ms) (hz : ms.length ≤ lim) : M (k + 1) 24 [r] = some (.lst ms) := by
  have z := go_acc (J := O) (E := fun acc j => [some (false, r), some (true, .lst acc), some (false, tps), some (false, bd), j]) (P := RTok k tps) (step := fun d r => (bindT (.nm 4) d r).bind fun r1 => d_rows_by_top_f2 (M k) r1)
    (fun q mm hq acc j hl => ⟨some (false, q), hq (some (false, r)) (some (false, bd)) acc hl⟩) hs (acc := []) (j := none) (by simpa using hz)
  obtain ⟨j', e⟩ := z
  show ((d_rows_by_top (M k) (startE 5 [r])).bind fun o => match o with | .nx _ => if false then none else some .non | .rt d => some d) = _
  unfold d_rows_by_top
  rw [q_seq (ρ' := [some (false, r), some (true, .lst []), none, none, none]) rfl]
  rw [q_seq (ρ' := [some (false, r), some (true, .lst []), some (false, tps), none, none]) (q_asg (d := tps) (ht none (some (true, .lst [])) none none none) (by show 2 < 5; decide))]
  rw [q_seq (ρ' := [some (false, r), some (true, .lst ms), some (false, tps), some (false, bd), j']) ?_]
  · rfl
  · refine (q_for (l := [bd]) ?_).trans ?_
    · show ((((((dIdx r (.int 0)).bind fun x => (some db).bind fun y => cmpd .isIn x y).bind fun x => (truD x).bind fun c => if c then M k 18 [r] else some (.lst [])))).bind lstD) = _
      rw [h0]
      show (((cmpd .isIn (S w) db).bind fun x => (truD x).bind fun c => if c then M k 18 [r] else some (.lst [])).bind lstD) = _
      rw [hw]
      show (M k 18 [r]).bind lstD = _
      rw [h18]; rfl
    · show ((d_rows_by_top_f1 (M k) [some (false, r), some (true, .lst []), some (false, tps), some (false, bd), none]).bind fun o => match o with | .nx ρ' => some (Out.nx ρ') | .rt x => some (.rt x)) = _
      have e1 : d_rows_by_top_f1 (M k) [some (false, r), some (true, .lst []), some (false, tps), some (false, bd), none] = some (.nx [some (false, r), some (true, .lst ms), some (false, tps), some (false, bd), j']) := by
        unfold d_rows_by_top_f1
        refine (q_seq ((q_for (l := fl) ?_).trans e)).trans ?_
        · show ((M k 13 [bd, .int 0]).bind lstD) = _
          rw [h13]; rfl
        · rfl
      rw [e1]; rfl

def BTok (k : Nat) (q : D) (m : List D) : Prop := ∃ (x : D) (tl nb : List D) (w : List Nat) (p : D → Bool), q = .tup [x, .lst tl] ∧ dIdx x (.int 0) = some (S w) ∧ M k 15 [x] = some (.lst nb) ∧ (∀ n ∈ nb, cmpd .isIn n (.lst tl) = some (.bl (p n))) ∧ m = bm w p nb
/-- of the pairs (row, tops): the names that the row binds and the tops tell -/
theorem bt_row {k : Nat} {r : D} {qs gs : List D} (h24 : M k 24 [r] = some (.lst qs)) (hs : Acc (BTok k) qs gs) (hz : gs.length ≤ lim) : M (k + 1) 25 [r] = some (.lst gs) := by
  show ((d_bindings_by_top (M k) (startE 4 [r])).bind fun o => match o with | .nx _ => if false then none else some .non | .rt d => some d) = _
  unfold d_bindings_by_top
  rw [q_seqR (d := .lst gs) (q_ret ?_)]
  · rfl
  · show ((M k 24 [r]).bind lstD).bind (fun l => (allM _ l).bind fun ls => mkL ls.flatten) = _
    rw [h24]
    show (allM _ qs).bind (fun ls => mkL ls.flatten) = _
    obtain ⟨ls, e1, e2⟩ := allM_acc (f := fLc2 (.tp [1, 2]) [1, 2, 3] (vT0) (vIl (vCall (M k) 15 (vCons (vVar 1) vNil))) (.nm 3) [3] (vT1 (v2 (cmpd .isIn) (vVar 3) (vVar 2))) (vTup (vCons (vVar 3) (vCons (v2 dIdx (vVar 1) (vK (.int 0))) vNil))) [some (false, r), none, none, none]) (P := BTok k) (fun q m hq => by
      obtain ⟨x, tl, nb, w, p, rfl, h0, h15, hp, rfl⟩ := hq
      show ((M k 15 [x]).bind lstD).bind (fun l2 => goLc _ l2) = _
      rw [h15]
      show goLc _ nb = _
      refine goLc_flt (p := p) (h := fun n => .tup [n, S w]) (l := nb) fun d hd => ?_
      show (((cmpd .isIn d (.lst tl)).bind fun x => (truD x).bind fun b => if b then some true else some false).bind fun b => if b then (((((dIdx x (.int 0)).bind fun x => (some ([] : List D)).bind fun q => some (x :: q)).bind fun q => some (d :: q))).bind mkT).bind (fun x => some (some x)) else some none) = _
      rw [hp d hd, h0]
      cases p d <;> rfl) hs
    refine (congrArg (fun o => Option.bind o fun ls => mkL ls.flatten) e1).trans ?_
    show mkL ls.flatten = _
    unfold mkL
    rw [e2, if_pos hz]
end K04
end
section
set_option Elab.async false
set_option linter.all false
set_option maxRecDepth 100000
set_option maxHeartbeats 4000000
/-! K04Q: own_names, the rows' looks, counts, the law's reads. -/
namespace K04
open PD
abbrev sL (l : List (List Nat)) : List D := l.map D.str
theorem flat_strs : ∀ (l : List (List Nat)), (sL l).all flat = true
  | [] => rfl
  | s :: l => by rw [show sL (s :: l) = D.str s :: sL l from rfl, List.all_cons, flat_strs l]; rfl
theorem inf_strs (s : List Nat) : ∀ (l : List (List Nat)), inf (.str s) (sL l) = l.contains s
  | [] => rfl
  | x :: l => by
    have h := inf_strs s l
    unfold inf at h ⊢
    rw [show sL (x :: l) = D.str x :: sL l from rfl, List.any_cons, h, List.contains_cons]
    congr 1
    show (x == s) = (s == x)
    rw [Bool.eq_iff_iff, beq_iff_eq, beq_iff_eq]; exact eq_comm
theorem in_lst (s : List Nat) (l : List (List Nat)) : cmpd .isIn (.str s) (.lst (sL l)) = some (.bl (l.contains s)) := by
  have e : (if flat (.str s) && (sL l).all flat then some (D.bl (inf (.str s) (sL l))) else none) = some (.bl (l.contains s)) := by rw [flat_strs, inf_strs]; rfl
  rcases s with _ | ⟨c, _ | ⟨d, r⟩⟩ <;> exact e
theorem in_tup (s : List Nat) (l : List (List Nat)) : cmpd .isIn (.str s) (.tup (sL l)) = some (.bl (l.contains s)) := by
  have e : (if flat (.str s) && (sL l).all flat then some (D.bl (inf (.str s) (sL l))) else none) = some (.bl (l.contains s)) := by rw [flat_strs, inf_strs]; rfl
  rcases s with _ | ⟨c, _ | ⟨d, r⟩⟩ <;> exact e
theorem nin_lst (s : List Nat) (l : List (List Nat)) : cmpd .notIn (.str s) (.lst (sL l)) = some (.bl (!l.contains s)) := by
  have e : (if flat (.str s) && (sL l).all flat then some (D.bl (!inf (.str s) (sL l))) else none) = some (.bl (!l.contains s)) := by rw [flat_strs, inf_strs]; rfl
  rcases s with _ | ⟨c, _ | ⟨d, r⟩⟩ <;> exact e

/-! ### own_names (16) -/
def KS (m : List (List Nat × D)) (seen : List (List Nat)) : Prop := (∀ s, (m.any fun p => p.1 == s) = seen.contains s) ∧ m.length ≤ seen.length
theorem ks_put {m : List (List Nat × D)} {seen : List (List Nat)} (h : KS m seen) (s : List Nat) (v : D) : KS (dputD m s v) (seen ++ [s]) := by
  unfold dputD
  have e1 : ∀ x, (seen ++ [s]).contains x = (seen.contains x || x == s) := fun x => by
    rw [Bool.eq_iff_iff]; simp [List.contains_iff_mem]
  have e2 : ∀ x : List Nat, (s == x) = (x == s) := fun x => by rw [Bool.eq_iff_iff, beq_iff_eq, beq_iff_eq]; exact eq_comm
  split
  · rename_i hs
    refine ⟨fun x => ?_, by rw [List.length_map, List.length_append]; have := h.2; simp only [List.length_cons, List.length_nil]; omega⟩
    rw [e1, ← h.1 x, List.any_map]
    have e3 : (m.any ((fun p => p.1 == x) ∘ fun p => if p.1 == s then (p.1, v) else p)) = m.any fun p => p.1 == x := by
      congr 1; funext p
      show ((if p.1 == s then (p.1, v) else p).1 == x) = _
      split <;> rfl
    rw [e3]
    by_cases hx : x = s
    · subst hx; rw [hs]; rfl
    · have : (x == s) = false := by simpa using hx
      rw [this, Bool.or_false]
  · refine ⟨fun x => ?_, by rw [List.length_append, List.length_append]; have := h.2; simp only [List.length_cons, List.length_nil]; omega⟩
    rw [e1, List.any_append, h.1 x]
    simp [e2]
theorem ks_nil : KS [] [] := ⟨fun _ => rfl, Nat.le_refl _⟩
theorem dc_ok {f : D → Option (List Nat × D)} (hf : ∀ s, f (.str s) = some (s, .bl true)) : ∀ (gs : List (List Nat)) (m : List (List Nat × D)) (seen : List (List Nat)), KS m seen → ∃ m', goDc f (sL gs) m = some m' ∧ KS m' (seen ++ gs)
  | [], m, seen, h => ⟨m, rfl, by simpa using h⟩
  | g :: gs, m, seen, h => by
    obtain ⟨m', e, hk⟩ := dc_ok hf gs _ _ (ks_put h g (.bl true))
    refine ⟨m', ?_, by simpa using hk⟩
    show ((f (.str g)).bind fun kv => goDc f (sL gs) (dputD m kv.1 kv.2)) = _
    rw [hf]; exact e
def OWok (k : Nat) (r : D) (nb : List (List Nat)) : Prop := ∀ (t u : O) (m : List (List Nat × D)) (seen : List (List Nat)) (x y : O), KS m seen → seen.length + nb.length ≤ lim → ∃ m' x', KS m' (seen ++ nb) ∧ d_own_names_f1 (M k) [t, u, some (true, .dic m), x, some (false, r), y] = some (.nx [t, u, some (true, .dic m'), x', some (false, r), y])
def condO (k : Nat) (r : D) : Option D := vAnd (v1 (dIsi .tuple) (vVar 4)) (vAnd (v2 (cmpd .ne) (vVar 4) (vTup (vNil))) (vAnd (v1 (dIsi .str) (v2 dIdx (vVar 4) (vK (.int 0)))) (vCall (M k) 17 (vCons (vVar 4) vNil)))) [none, none, none, none, some (false, r), none]
theorem ow_no {k : Nat} {r : D} (h : condO k r = some (.bl false)) : OWok k r [] := by
  intro t u m seen x y hk hz
  refine ⟨m, x, by simpa using hk, ?_⟩
  unfold d_own_names_f1
  refine (q_seq (ρ' := [t, u, some (true, .dic m), x, some (false, r), y]) ?_).trans rfl
  exact (q_if (b := false) h).trans rfl
theorem ow_loop {k : Nat} {t u y : O} {r : D} : ∀ (nb : List (List Nat)) (m : List (List Nat × D)) (seen : List (List Nat)) (x : O), KS m seen → seen.length + nb.length ≤ lim → ∃ m' x', KS m' (seen ++ nb) ∧ goFor (fun d ρ => (bindT (.nm 3) d ρ).bind fun r1 => d_own_names_f2 (M k) r1) (sL nb) [t, u, some (true, .dic m), x, some (false, r), y] = some (.nx [t, u, some (true, .dic m'), x', some (false, r), y])
  | [], m, seen, x, hk, _ => ⟨m, x, by simpa using hk, rfl⟩
  | s :: nb, m, seen, x, hk, hz => by
    rw [List.length_cons] at hz
    obtain ⟨m', x', hk', e⟩ := ow_loop (k := k) (t := t) (u := u) (y := y) (r := r) nb _ _ (some (false, .str s)) (ks_put hk s (.bl true)) (by rw [List.length_append]; simp only [List.length_cons, List.length_nil]; omega)
    refine ⟨m', x', by simpa using hk', ?_⟩
    have e1 : d_own_names_f2 (M k) [t, u, some (true, .dic m), some (false, .str s), some (false, r), y] = some (.nx [t, u, some (true, .dic (dputD m s (.bl true))), some (false, .str s), some (false, r), y]) := by
      unfold d_own_names_f2
      refine (q_seq (ρ' := [t, u, some (true, .dic (dputD m s (.bl true))), some (false, .str s), some (false, r), y]) ?_).trans rfl
      show (if m.length < lim then some (Out.nx _) else none) = _
      rw [if_pos (by have := hk.2; omega)]; rfl
    show ((d_own_names_f2 (M k) [t, u, some (true, .dic m), some (false, .str s), some (false, r), y]).bind fun o => match o with | .nx ρ' => goFor (fun d ρ => (bindT (.nm 3) d ρ).bind fun r1 => d_own_names_f2 (M k) r1) (sL nb) ρ' | .rt x => some (.rt x)) = _
    rw [e1]; exact e
theorem ow_yes {k : Nat} {r : D} {nb : List (List Nat)} (h : condO k r = some (.bl true)) (h15 : M k 15 [r] = some (.lst (sL nb))) : OWok k r nb := by
  intro t u m seen x y hk hz
  obtain ⟨m', x', hk', e⟩ := ow_loop (k := k) (t := t) (u := u) (y := y) (r := r) nb m seen x hk hz
  refine ⟨m', x', hk', ?_⟩
  unfold d_own_names_f1
  refine (q_seq (ρ' := [t, u, some (true, .dic m'), x', some (false, r), y]) ?_).trans rfl
  refine (q_if (b := true) h).trans ?_
  refine (q_seq (ρ' := [t, u, some (true, .dic m'), x', some (false, r), y]) ?_).trans rfl
  refine (q_for (l := sL nb) ?_).trans e
  show (M k 15 [r]).bind lstD = _
  rw [h15]; rfl
theorem ow_rows {k : Nat} {t u y : O} : ∀ {fl : List D} {nbs : List (List Nat)}, Acc (OWok k) fl nbs → ∀ (m : List (List Nat × D)) (seen : List (List Nat)) (x z : O), KS m seen → seen.length + nbs.length ≤ lim → ∃ m' x' z', KS m' (seen ++ nbs) ∧ goFor (fun d ρ => (bindT (.nm 4) d ρ).bind fun r1 => d_own_names_f1 (M k) r1) fl [t, u, some (true, .dic m), x, z, y] = some (.nx [t, u, some (true, .dic m'), x', z', y])
  | _, _, .nil, m, seen, x, z, hk, _ => ⟨m, x, z, by simpa using hk, rfl⟩
  | _, _, .cons (r := r) (m := nb) (l := fl) (ms := nbs) h ht, m, seen, x, z, hk, hz => by
    rw [List.length_append] at hz
    obtain ⟨m1, x1, hk1, e1⟩ := h t u m seen x y hk (by omega)
    obtain ⟨m2, x2, z2, hk2, e2⟩ := ow_rows (t := t) (u := u) (y := y) ht m1 _ x1 (some (false, r)) hk1 (by rw [List.length_append]; omega)
    refine ⟨m2, x2, z2, by simpa using hk2, ?_⟩
    show ((d_own_names_f1 (M k) [t, u, some (true, .dic m), x, some (false, r), y]).bind fun o => match o with | .nx ρ' => goFor (fun d ρ => (bindT (.nm 4) d ρ).bind fun r1 => d_own_names_f1 (M k) r1) fl ρ' | .rt x => some (.rt x)) = _
    rw [e1]; exact e2
/-- the names bound, less those told -/
def OwnIs (ol seen told : List (List Nat)) : Prop := ol.length ≤ seen.length ∧ ∀ s, s ∈ ol ↔ s ∈ seen ∧ s ∉ told
theorem own_ok {k : Nat} {gs nbs t1 t2 : List (List Nat)} {rows : D} {fl : List D} (h13 : M k 13 [rows, .int 0] = some (.lst fl)) (ho : Acc (OWok k) fl nbs) (h1 : M k 14 [rows, S [116, 111, 112]] = some (.lst (sL t1))) (h2 : M k 14 [rows, S [111, 117, 116, 101, 114]] = some (.lst (sL t2))) (hz : (gs ++ nbs).length ≤ lim) (ht : (t1 ++ t2).length ≤ lim) :
    ∃ ol, M (k + 1) 16 [.tup (sL gs), rows] = some (.lst (sL ol)) ∧ OwnIs ol (gs ++ nbs) (t1 ++ t2) := by
  rw [List.length_append] at hz
  obtain ⟨m0, e0, hk0⟩ := dc_ok (f := fDc (.nm 3) [3] (vVar 3) (vK (.bl true)) [some (false, .tup (sL gs)), some (false, rows), none, none, none, none]) (fun s => rfl) gs [] [] ks_nil
  rw [List.nil_append] at hk0
  obtain ⟨m1, x1, z1, hk1, e1⟩ := ow_rows (k := k) (t := some (false, .tup (sL gs))) (u := some (false, rows)) (y := none) ho m0 gs none none hk0 (by omega)
  have hm1 : m1.length ≤ lim := by have := hk1.2; rw [List.length_append] at this; omega
  refine ⟨(m1.map (·.1)).filter fun s => !(t1 ++ t2).contains s, ?_, ?_, ?_⟩
  · show ((d_own_names (M k) (startE 6 [.tup (sL gs), rows])).bind fun o => match o with | .nx _ => if false then none else some .non | .rt d => some d) = _
    unfold d_own_names
    rw [q_seq (ρ' := [some (false, .tup (sL gs)), some (false, rows), some (true, .dic m0), none, none, none]) ?a]
    rw [q_seq (ρ' := [some (false, .tup (sL gs)), some (false, rows), some (true, .dic m1), x1, z1, none]) ?b]
    rw [q_seq (ρ' := [some (false, .tup (sL gs)), some (false, rows), some (true, .dic m1), x1, z1, some (true, .lst (sL (t1 ++ t2)))]) ?c]
    rw [q_seqR (d := .lst (sL ((m1.map (·.1)).filter fun s => !(t1 ++ t2).contains s))) (q_ret ?d)]
    · rfl
    case a =>
      refine (q_asg (d := .dic m0) ?_ (by show 2 < 6; decide)).trans rfl
      show ((goDc (fDc (.nm 3) [3] (vVar 3) (vK (.bl true)) [some (false, .tup (sL gs)), some (false, rows), none, none, none, none]) (sL gs) []).bind fun m => if (sL gs).length ≤ lim then some (D.dic m) else none) = _
      rw [e0, List.length_map]
      show (if gs.length ≤ lim then some (D.dic m0) else none) = _
      rw [if_pos (by omega)]
    case b =>
      refine (q_for (l := fl) ?_).trans e1
      show (M k 13 [rows, .int 0]).bind lstD = _
      rw [h13]; rfl
    case c =>
      refine (q_asg (d := .lst (sL (t1 ++ t2))) ?_ (by show 5 < 6; decide)).trans rfl
      show ((M k 14 [rows, S [116, 111, 112]]).bind fun x => (M k 14 [rows, S [111, 117, 116, 101, 114]]).bind fun y => dCat x y) = _
      rw [h1, h2]
      show mkL (sL t1 ++ sL t2) = _
      unfold mkL
      rw [if_pos (by simp only [List.length_append, List.length_map] at ht ⊢; exact ht), ← List.map_append]
    case d =>
      show ((goLc (fLc (.nm 3) [3] (vT1 (v2 (cmpd .notIn) (vVar 3) (vVar 5))) (vVar 3) [some (false, .tup (sL gs)), some (false, rows), none, x1, z1, some (true, .lst (sL (t1 ++ t2)))]) (m1.map fun p => .str p.1)).bind mkL) = _
      have e2 : ∀ l : List (List Nat), goLc (fLc (.nm 3) [3] (vT1 (v2 (cmpd .notIn) (vVar 3) (vVar 5))) (vVar 3) [some (false, .tup (sL gs)), some (false, rows), none, x1, z1, some (true, .lst (sL (t1 ++ t2)))]) (sL l) = some (sL (l.filter fun s => !(t1 ++ t2).contains s)) := by
        intro l
        induction l with
        | nil => rfl
        | cons s l ih =>
          show ((fLc _ _ _ _ _ (.str s)).bind fun o => (goLc _ (sL l)).bind fun r => some (match o with | none => r | some x => x :: r)) = _
          rw [ih]
          show (((cmpd .notIn (.str s) (.lst (sL (t1 ++ t2)))).bind fun x => (truD x).bind fun b => if b then some true else some false).bind fun b => if b then some (some (D.str s)) else some none).bind _ = _
          rw [nin_lst, List.filter_cons]
          cases (t1 ++ t2).contains s <;> rfl
      have e3 := e2 (m1.map (·.1))
      rw [show (m1.map fun p => D.str p.1) = sL (m1.map fun x => x.1) by simp [sL, Function.comp_def], e3]
      show mkL _ = _
      unfold mkL
      rw [if_pos (by rw [List.length_map]; exact Nat.le_trans (List.length_filter_le _ _) (by rw [List.length_map]; exact hm1))]
  · exact Nat.le_trans (List.length_filter_le _ _) (by rw [List.length_map]; exact hk1.2)
  · intro s
    have h3 := hk1.1 s
    rw [List.mem_filter]
    have h4 : s ∈ m1.map (·.1) ↔ (m1.any fun p => p.1 == s) = true := by simp [List.any_eq_true]
    rw [h4, h3]
    simp [List.contains_iff_mem]
end K04
end
section
set_option Elab.async false
set_option linter.all false
set_option maxRecDepth 100000
set_option maxHeartbeats 4000000
/-! K04R: is_row, is_def, are_rows; whether a name is kept. -/
namespace K04
open PD
theorem bs {α β : Type} {o : Option α} {x : α} {f : α → Option β} (h : o = some x) : o.bind f = f x := by rw [h]; rfl
theorem plns_all {n : Nat} : ∀ {l : List D}, plns n l = true ↔ ∀ d ∈ l, pln n d = true
  | [] => by simp [plns]
  | d :: l => by rw [plns, Bool.and_eq_true, plns_all (l := l)]; simp
theorem lcB {α : Type} {enc : α → D} {p : α → Bool} {f : D → Option (Option D)} : ∀ {l : List α}, (∀ s ∈ l, f (enc s) = some (some (D.bl (p s)))) → goLc f (l.map enc) = some (l.map fun s => .bl (p s))
  | [], _ => rfl
  | s :: l, h => by
    show ((f (enc s)).bind fun o => (goLc f (l.map enc)).bind fun r => some (match o with | none => r | some x => x :: r)) = _
    rw [h s (by simp), lcB (l := l) fun x hx => h x (by simp [hx])]; rfl
theorem allM_bl {α : Type} (p : α → Bool) : ∀ (l : List α), allM truD (l.map fun s => .bl (p s)) = some (l.map p)
  | [] => rfl
  | s :: l => by
    show ((truD (D.bl (p s))).bind fun x => (allM truD (l.map fun s => .bl (p s))).bind fun r => some (x :: r)) = _
    rw [allM_bl p l]; rfl
theorem anyB {α : Type} (p : α → Bool) (l : List α) : dAny (D.lst (l.map fun s => .bl (p s))) = some (D.bl (l.any p)) := by
  show ((allM truD (l.map fun s => .bl (p s))).bind fun bs => some (D.bl (bs.any id))) = _
  rw [allM_bl]; simp [List.any_map]
theorem allB {α : Type} (p : α → Bool) (l : List α) : dAll (D.lst (l.map fun s => .bl (p s))) = some (D.bl (l.all p)) := by
  show ((allM truD (l.map fun s => .bl (p s))).bind fun bs => some (D.bl (bs.all id))) = _
  rw [allM_bl]; simp [List.all_map]
theorem anyL {α : Type} {enc : α → D} {p : α → Bool} {f : D → Option (Option D)} {l : List α} (h : ∀ s ∈ l, f (enc s) = some (some (D.bl (p s)))) (hz : l.length ≤ lim) : (((goLc f (l.map enc)).bind mkL).bind fun x => dAny x) = some (D.bl (l.any p)) := by
  rw [lcB h]
  show ((mkL (l.map fun s => .bl (p s))).bind fun x => dAny x) = _
  unfold mkL
  rw [if_pos (by rw [List.length_map]; exact hz)]
  exact anyB p l
theorem allL {α : Type} {enc : α → D} {p : α → Bool} {f : D → Option (Option D)} {l : List α} (h : ∀ s ∈ l, f (enc s) = some (some (D.bl (p s)))) (hz : l.length ≤ lim) : (((goLc f (l.map enc)).bind mkL).bind fun x => dAll x) = some (D.bl (l.all p)) := by
  rw [lcB h]
  show ((mkL (l.map fun s => .bl (p s))).bind fun x => dAll x) = _
  unfold mkL
  rw [if_pos (by rw [List.length_map]; exact hz)]
  exact allB p l
/-! ### are_rows (12) -/
theorem ar_ok {k : Nat} {l : List D} {dp : Int} {bk df ow : D} (hp : pln 60 (D.tup l) = true) (hd : dp ≤ 4) (hs : ∀ r ∈ l, M k 10 [r, .ins 0 [.int dp, bk, df, ow]] = some (D.bl true)) (hz : l.length ≤ lim) : M (k + 1) 12 [.tup l, .ins 0 [.int dp, bk, df, ow]] = some (D.bl true) := by
  show ((d_are_rows (M k) (startE 3 [.tup l, .ins 0 [.int dp, bk, df, ow]])).bind fun o => match o with | .nx _ => if false then none else some .non | .rt d => some d) = _
  unfold d_are_rows
  have hne : cmpd .ne (D.tup l) (D.tup []) = some (D.bl (!eqd (D.tup l) (D.tup []))) := by
    show (if pln 60 (D.tup l) && pln 60 (D.tup []) then some (D.bl (!eqd (D.tup l) (D.tup []))) else none) = _
    rw [hp]; rfl
  rw [q_seq (ρ' := [some (false, .tup l), some (false, .ins 0 [.int dp, bk, df, ow]), none]) ?a]
  rw [q_seqR (d := .bl true) (q_ret ?b)]
  · rfl
  case a =>
    refine (q_if (b := false) ?_).trans rfl
    show ((cmpd .ne (D.tup l) (D.tup [])).bind fun x => (truD x).bind fun k => if k then cmpd .gt (D.int dp) (D.int 4) else some (D.bl false)) = _
    rw [hne]
    have hg : cmpd .gt (D.int dp) (D.int 4) = some (D.bl false) := by
      show some (D.bl (decide ((4 : Int) < dp))) = _
      rw [decide_eq_false (by omega)]
    show (if (!eqd (D.tup l) (D.tup [])) = true then cmpd .gt (D.int dp) (D.int 4) else some (D.bl false)) = _
    rw [hg]; split <;> rfl
  case b =>
    have e := allL (enc := fun d : D => d) (p := fun _ => true) (l := l) (f := fLc (.nm 2) [2] vT0 (vCall (M k) 10 (vCons (vVar 2) (vCons (vVar 1) vNil))) [some (false, .tup l), some (false, .ins 0 [.int dp, bk, df, ow]), none]) (fun r hr => by
      show ((M k 10 [r, .ins 0 [.int dp, bk, df, ow]]).bind fun x => some (some x)) = _
      rw [hs r hr]; rfl) hz
    rw [List.map_id'] at e
    refine Eq.trans e ?_
    simp
/-! ### is_row (10) of a def, of a box -/
theorem ne_e {x : D} {l : List D} (hp : pln 60 (D.tup (x :: l)) = true) : cmpd .eq (D.tup (x :: l)) (D.tup []) = some (D.bl false) := by
  show (if pln 60 (D.tup (x :: l)) && pln 60 (D.tup []) then some (D.bl (eqd (D.tup (x :: l)) (D.tup []))) else none) = _
  rw [hp]; rfl
theorem ne_n {x : D} {l : List D} (hp : pln 60 (D.tup (x :: l)) = true) : cmpd .ne (D.tup (x :: l)) (D.tup []) = some (D.bl true) := by
  show (if pln 60 (D.tup (x :: l)) && pln 60 (D.tup []) then some (D.bl (!eqd (D.tup (x :: l)) (D.tup []))) else none) = _
  rw [hp]; rfl
abbrev rDef (nm gv bd : D) : D := .tup [S [100, 101, 102], nm, gv, bd]
abbrev rBox (nm bd : D) : D := .tup [S [98, 111, 120], nm, bd]
theorem ir_def {k : Nat} {nm gv bd A : D} (hp : pln 60 (rDef nm gv bd) = true) (h7 : M k 7 [rDef nm gv bd, A] = some (D.bl true)) (h11 : M k 11 [rDef nm gv bd, A] = some (D.bl true)) : M (k + 1) 10 [rDef nm gv bd, A] = some (D.bl true) := by
  show ((d_is_row (M k) (startE 2 [rDef nm gv bd, A])).bind fun o => match o with | .nx _ => if false then none else some .non | .rt d => some d) = _
  unfold d_is_row
  rw [q_seq (ρ' := [some (false, rDef nm gv bd), some (false, A)]) ?a]
  rw [q_seq (ρ' := [some (false, rDef nm gv bd), some (false, A)]) rfl]
  rw [q_seq (ρ' := [some (false, rDef nm gv bd), some (false, A)]) ?b]
  rw [q_seq (ρ' := [some (false, rDef nm gv bd), some (false, A)]) rfl]
  rw [q_seq (ρ' := [some (false, rDef nm gv bd), some (false, A)]) rfl]
  rw [q_seqR (d := .bl true) (q_ret h11)]
  · rfl
  case a =>
    refine (q_if (b := false) ?_).trans rfl
    show ((cmpd .eq (rDef nm gv bd) (D.tup [])).bind fun x => (truD x).bind fun k => if k then some (D.bl true) else some (D.bl false)) = _
    rw [ne_e hp]; rfl
  case b =>
    refine (q_if (b := false) ?_).trans rfl
    show ((M k 7 [rDef nm gv bd, A]).bind fun x => dNot x) = _
    rw [h7]; rfl
theorem ir_box {k : Nat} {nm bd bk df ow : D} {dp : Int} (hp : pln 60 (rBox nm bd) = true) (h7 : M k 7 [rBox nm bd, .ins 0 [.int dp, bk, df, ow]] = some (D.bl true)) (h12 : M k 12 [bd, .ins 0 [.int (dp + 1), S [98, 111, 120], df, .bl (decide (dp + 1 = 1))]] = some (D.bl true)) : M (k + 1) 10 [rBox nm bd, .ins 0 [.int dp, bk, df, ow]] = some (D.bl true) := by
  show ((d_is_row (M k) (startE 2 [rBox nm bd, .ins 0 [.int dp, bk, df, ow]])).bind fun o => match o with | .nx _ => if false then none else some .non | .rt d => some d) = _
  unfold d_is_row
  rw [q_seq (ρ' := [some (false, rBox nm bd), some (false, .ins 0 [.int dp, bk, df, ow])]) ?a]
  rw [q_seq (ρ' := [some (false, rBox nm bd), some (false, .ins 0 [.int dp, bk, df, ow])]) rfl]
  rw [q_seq (ρ' := [some (false, rBox nm bd), some (false, .ins 0 [.int dp, bk, df, ow])]) ?b]
  rw [q_seq (ρ' := [some (false, rBox nm bd), some (false, .ins 0 [.int dp, bk, df, ow])]) rfl]
  rw [q_seqR (d := .bl true) ?c]
  · rfl
  case a =>
    refine (q_if (b := false) ?_).trans rfl
    show ((cmpd .eq (rBox nm bd) (D.tup [])).bind fun x => (truD x).bind fun k => if k then some (D.bl true) else some (D.bl false)) = _
    rw [ne_e hp]; rfl
  case b =>
    refine (q_if (b := false) ?_).trans rfl
    show ((M k 7 [rBox nm bd, .ins 0 [.int dp, bk, df, ow]]).bind fun x => dNot x) = _
    rw [h7]; rfl
  case c =>
    refine (q_if (b := true) rfl).trans ?_
    exact q_seqR (q_ret h12)
abbrev encO (os : List (List (List Nat))) : List D := os.map fun o => .lst (sL o)
/-! ### is_def (11) -/
theorem id_ok {k : Nat} {nm bk ow : D} {gs t1 t2 ol : List (List Nat)} {os : List (List (List Nat))} {dp : Int} {rows : D}
    (h16 : M k 16 [.tup (sL gs), rows] = some (D.lst (sL ol))) (h12 : M k 12 [rows, .ins 0 [.int (dp + 1), S [100, 101, 102], .lst (encO os ++ [.lst (sL ol)]), .bl (decide (dp + 1 = 1))]] = some (D.bl true))
    (h1 : M k 14 [rows, S [116, 111, 112]] = some (D.lst (sL t1))) (h2 : M k 14 [rows, S [111, 117, 116, 101, 114]] = some (D.lst (sL t2)))
    (hc : (t2.any fun s => gs.contains s || t1.contains s) = false) (hd : (t1.any fun s => gs.contains s) = false) (he : (t2.all fun s => os.any fun o => o.contains s) = true) (z1 : t1.length ≤ lim) (z2 : t2.length ≤ lim) (zo : os.length + 1 ≤ lim) :
    M (k + 1) 11 [rDef nm (D.tup (sL gs)) rows, .ins 0 [.int dp, bk, .lst (encO os), ow]] = some (D.bl true) := by
  show ((d_is_def (M k) (startE 10 [rDef nm (D.tup (sL gs)) rows, .ins 0 [.int dp, bk, .lst (encO os), ow]])).bind fun o => match o with | .nx _ => if false then none else some .non | .rt d => some d) = _
  unfold d_is_def
  generalize hA : D.ins 0 [.int dp, bk, .lst (encO os), ow] = A
  generalize hr : rDef nm (D.tup (sL gs)) rows = r
  rw [q_seq (ρ' := [some (false, r), some (false, A), some (false, S [100, 101, 102]), some (false, nm), some (false, .tup (sL gs)), some (false, rows), none, none, none, none]) (by subst hr; rfl)]
  rw [q_seq (ρ' := [some (false, r), some (false, A), some (false, S [100, 101, 102]), some (false, nm), some (false, .tup (sL gs)), some (false, rows), none, none, none, none]) ?a]
  rw [q_seq (ρ' := [some (false, r), some (false, A), some (false, S [100, 101, 102]), some (false, nm), some (false, .tup (sL gs)), some (false, rows), some (false, .lst (sL t1)), some (false, .lst (sL t2)), none, none]) ?b]
  rw [q_seq (ρ' := [some (false, r), some (false, A), some (false, S [100, 101, 102]), some (false, nm), some (false, .tup (sL gs)), some (false, rows), some (false, .lst (sL t1)), some (false, .lst (sL t2)), none, none]) ?c]
  rw [q_seqR (d := .bl true) (q_ret ?d)]
  · rfl
  case a =>
    refine (q_if (b := false) ?_).trans rfl
    have e1 : (vMk 0 mkA (vCons (v2 (bopd .add) (vFld GS [100, 101, 101, 112] (vVar 1)) (vK (D.int 1))) (vCons (vK (D.str [100, 101, 102])) (vCons (v2 dCat (vFld GS [100, 101, 102, 115] (vVar 1)) (vLst (vCons (vCall (M k) 16 (vCons (vVar 4) (vCons (vVar 5) vNil))) vNil))) vNil)))) [some (false, r), some (false, A), some (false, S [100, 101, 102]), some (false, nm), some (false, .tup (sL gs)), some (false, rows), none, none, none, none] = some (D.ins 0 [.int (dp + 1), S [100, 101, 102], .lst (encO os ++ [.lst (sL ol)]), .bl (decide (dp + 1 = 1))]) := by
      subst hA
      have e2 : (v2 dCat (vFld GS [100, 101, 102, 115] (vVar 1)) (vLst (vCons (vCall (M k) 16 (vCons (vVar 4) (vCons (vVar 5) vNil))) vNil))) [some (false, r), some (false, .ins 0 [.int dp, bk, .lst (encO os), ow]), some (false, S [100, 101, 102]), some (false, nm), some (false, .tup (sL gs)), some (false, rows), none, none, none, none] = some (D.lst (encO os ++ [.lst (sL ol)])) := by
        show (((M k 16 [.tup (sL gs), rows]).bind fun x => some [x]).bind mkL).bind (fun y => dCat (D.lst (encO os)) y) = _
        rw [h16]
        show mkL (encO os ++ [.lst (sL ol)]) = _
        unfold mkL
        rw [if_pos (by rw [List.length_append, List.length_map]; exact zo)]
      show (((((v2 dCat (vFld GS [100, 101, 102, 115] (vVar 1)) (vLst (vCons (vCall (M k) 16 (vCons (vVar 4) (vCons (vVar 5) vNil))) vNil))) [some (false, r), some (false, .ins 0 [.int dp, bk, .lst (encO os), ow]), some (false, S [100, 101, 102]), some (false, nm), some (false, .tup (sL gs)), some (false, rows), none, none, none, none]).bind fun x => some [x]).bind fun q => some (S [100, 101, 102] :: q)).bind (fun q => some (D.int (dp + 1) :: q))).bind (fun ds => (mkA ds).bind fun ls => some (D.ins 0 ls)) = _
      rw [e2]; rfl
    show ((((vMk 0 mkA _ [some (false, r), some (false, A), some (false, S [100, 101, 102]), some (false, nm), some (false, .tup (sL gs)), some (false, rows), none, none, none, none]).bind fun x => some [x]).bind fun q => some (rows :: q)).bind (fun ds => M k 12 ds)).bind (fun x => dNot x) = _
    rw [e1]
    show ((M k 12 [rows, .ins 0 [.int (dp + 1), S [100, 101, 102], .lst (encO os ++ [.lst (sL ol)]), .bl (decide (dp + 1 = 1))]]).bind fun x => dNot x) = _
    rw [h12]; rfl
  case b =>
    show ((((M k 14 [rows, S [116, 111, 112]]).bind fun x => ((M k 14 [rows, S [111, 117, 116, 101, 114]]).bind fun y => some [y]).bind fun q => some (x :: q)).bind mkT).bind fun d => (tupD d).bind fun l => (bindL [6, 7] l _).bind fun r => some (Out.nx r)) = _
    rw [h1, h2]; rfl
  case c =>
    refine (q_if (b := false) ?_).trans rfl
    have e1 := anyL (enc := D.str) (p := fun s => gs.contains s || t1.contains s) (l := t2) (f := fLc (.nm 8) [8] vT0 (vOr (v2 (cmpd .isIn) (vVar 8) (vVar 4)) (v2 (cmpd .isIn) (vVar 8) (vVar 6))) [some (false, r), some (false, A), some (false, S [100, 101, 102]), some (false, nm), some (false, .tup (sL gs)), some (false, rows), some (false, .lst (sL t1)), some (false, .lst (sL t2)), none, none]) (fun s hs => by
      show ((((cmpd .isIn (D.str s) (D.tup (sL gs))).bind fun x => (truD x).bind fun k => if k then some (D.bl true) else cmpd .isIn (D.str s) (D.lst (sL t1)))).bind fun x => some (some x)) = _
      rw [in_tup, in_lst]
      cases gs.contains s <;> rfl) z2
    have e2 := anyL (enc := D.str) (p := fun s => gs.contains s) (l := t1) (f := fLc (.nm 8) [8] vT0 (v2 (cmpd .isIn) (vVar 8) (vVar 4)) [some (false, r), some (false, A), some (false, S [100, 101, 102]), some (false, nm), some (false, .tup (sL gs)), some (false, rows), some (false, .lst (sL t1)), some (false, .lst (sL t2)), none, none]) (fun s hs => by
      show ((cmpd .isIn (D.str s) (D.tup (sL gs))).bind fun x => some (some x)) = _
      rw [in_tup]; rfl) z1
    rw [hc] at e1
    rw [hd] at e2
    show ((((goLc _ (sL t2)).bind mkL).bind fun x => dAny x).bind fun x => (truD x).bind fun k => if k then some (D.bl true) else (((goLc _ (sL t1)).bind mkL).bind fun x => dAny x)) = _
    refine (bs e1).trans ?_
    exact e2
  case d =>
    have e1 := allL (enc := D.str) (p := fun s => os.any fun o => o.contains s) (l := t2) (f := fLc (.nm 8) [8] vT0 (v1 dAny (vLc (vIl (vFld GS [100, 101, 102, 115] (vVar 1))) (.nm 9) [9] (vT0) (v2 (cmpd .isIn) (vVar 8) (vVar 9)))) [some (false, r), some (false, A), some (false, S [100, 101, 102]), some (false, nm), some (false, .tup (sL gs)), some (false, rows), some (false, .lst (sL t1)), some (false, .lst (sL t2)), none, none]) (fun s hs => by
      subst hA
      have e3 := anyL (enc := fun o : List (List Nat) => .lst (sL o)) (p := fun o => o.contains s) (l := os) (f := fLc (.nm 9) [9] vT0 (v2 (cmpd .isIn) (vVar 8) (vVar 9)) [some (false, r), some (false, .ins 0 [.int dp, bk, .lst (encO os), ow]), some (false, S [100, 101, 102]), some (false, nm), some (false, .tup (sL gs)), some (false, rows), some (false, .lst (sL t1)), some (false, .lst (sL t2)), some (false, .str s), none]) (fun o ho => by
        show ((cmpd .isIn (D.str s) (D.lst (sL o))).bind fun x => some (some x)) = _
        rw [in_lst]; rfl) (by omega)
      show ((((goLc _ (encO os)).bind mkL).bind fun x => dAny x).bind fun x => some (some x)) = _
      exact (bs e3).trans rfl) z2
    rw [he] at e1
    exact e1
end K04
end
section
set_option Elab.async false
set_option linter.all false
set_option maxRecDepth 100000
set_option maxHeartbeats 4000000
/-! K04T: whether a name is kept; the law's reads; counts. -/
namespace K04
open PD
theorem sL_app (a b : List (List Nat)) : sL (a ++ b) = sL a ++ sL b := List.map_append
def kb (os : List (List (List Nat))) (ts : List (List Nat)) (s : List Nat) : Bool := ts.contains s || !(os.any fun o => o.contains s)
def Nm (s : List Nat) : Prop := s.all (· < 1114112) = true
theorem pln_strs {n : Nat} {o : List (List Nat)} (h : ∀ s ∈ o, Nm s) : plns n (sL o) = true := plns_all.2 fun d hd => by
  obtain ⟨s, hs, rfl⟩ := List.mem_map.1 hd
  unfold pln; exact h s hs
theorem pln_os {os : List (List (List Nat))} (h : ∀ o ∈ os, ∀ s ∈ o, Nm s) : pln 60 (D.lst (encO os)) = true := by
  show plns 59 (encO os) = true
  refine plns_all.2 fun d hd => ?_
  obtain ⟨o, ho, rfl⟩ := List.mem_map.1 hd
  exact pln_strs (n := 58) (h o ho)
theorem any_os {s : List Nat} {os : List (List (List Nat))} {f : D → Option (Option D)} (hf : ∀ o, f (D.lst (sL o)) = ((cmpd .isIn (D.str s) (D.lst (sL o))).bind fun x => some (some x))) (hz : os.length ≤ lim) : (((goLc f (encO os)).bind mkL).bind fun x => dAny x) = some (D.bl (os.any fun o => o.contains s)) :=
  anyL (enc := fun o : List (List Nat) => .lst (sL o)) (p := fun o => o.contains s) (fun o _ => by rw [hf, in_lst]; rfl) hz
theorem keepT_kb {os : List (List (List Nat))} {ts : List (List Nat)} {s : List Nat} (h : ∀ o ∈ os, ∀ s ∈ o, Nm s) (hz : os.length ≤ lim) : keepT (D.lst (encO os)) (D.lst (sL ts)) (D.str s) = some (D.bl (kb os ts s)) := by
  unfold keepT
  have he : cmpd .eq (D.lst (encO os)) (D.lst []) = some (D.bl (eqd (D.lst (encO os)) (D.lst []))) := by
    show (if pln 60 (D.lst (encO os)) && pln 60 (D.lst []) then some (D.bl (eqd (D.lst (encO os)) (D.lst []))) else none) = _
    rw [pln_os h]; rfl
  show ((cmpd .eq (D.lst (encO os)) (D.lst [])).bind fun x => (truD x).bind fun k => if k then some (D.bl true) else ((cmpd .isIn (D.str s) (D.lst (sL ts))).bind fun x => (truD x).bind fun k => if k then some (D.bl true) else ((((goLc (fLc (.nm 7) [7] vT0 (v2 (cmpd .isIn) (vVar 5) (vVar 7)) [none, some (false, .lst (encO os)), some (false, .lst (sL ts)), none, none, some (false, .str s), none, none]) (encO os)).bind mkL).bind fun x => dAny x).bind fun x => dNot x))) = _
  rw [he, in_lst, any_os (os := os) (s := s) (fun _ => rfl) hz]
  unfold kb
  cases os with
  | nil => simp [eqd, eqds, truD]
  | cons o os =>
    show (if ts.contains s = true then some (D.bl true) else some (D.bl (!((o :: os).any fun o => o.contains s)))) = _
    cases ts.contains s <;> rfl
/-- the law's own look -/
def keepL (ar tl n : D) : Option D := vOr (v2 (cmpd .isIn) (vVar 7) (vVar 2)) (v1 dNot (v1 dAny (vLc (vIl (vVar 1)) (.nm 8) [8] (vT0) (v2 (cmpd .isIn) (vVar 7) (vVar 8))))) [none, some (false, ar), some (false, tl), none, none, none, none, some (false, n), none, none, none]
theorem keepL_kb {os : List (List (List Nat))} {ts : List (List Nat)} {s : List Nat} (hz : os.length ≤ lim) : keepL (D.lst (encO os)) (D.lst (sL ts)) (D.str s) = some (D.bl (kb os ts s)) := by
  unfold keepL
  show ((cmpd .isIn (D.str s) (D.lst (sL ts))).bind fun x => (truD x).bind fun k => if k then some (D.bl true) else ((((goLc (fLc (.nm 8) [8] vT0 (v2 (cmpd .isIn) (vVar 7) (vVar 8)) [none, some (false, .lst (encO os)), some (false, .lst (sL ts)), none, none, none, none, some (false, .str s), none, none, none]) (encO os)).bind mkL).bind fun x => dAny x).bind fun x => dNot x)) = _
  rw [in_lst, any_os (os := os) (s := s) (fun _ => rfl) hz]
  unfold kb
  cases ts.contains s <;> rfl
/-- two lists of own names, alike -/
inductive Alike : List (List (List Nat)) → List (List (List Nat)) → Prop
  | nil : Alike [] []
  | cons {a b : List (List Nat)} {os ps : List (List (List Nat))} (h : ∀ s, s ∈ a ↔ s ∈ b) (t : Alike os ps) : Alike (a :: os) (b :: ps)
theorem Alike.any {os ps : List (List (List Nat))} (h : Alike os ps) (s : List Nat) : (os.any fun o => o.contains s) = ps.any fun o => o.contains s := by
  induction h with
  | nil => rfl
  | cons h t ih =>
    rw [List.any_cons, List.any_cons, ih]
    congr 1
    rw [Bool.eq_iff_iff]; simpa [List.contains_iff_mem] using h s
theorem Alike.kb {os ps : List (List (List Nat))} (h : Alike os ps) (ts : List (List Nat)) : kb os ts = kb ps ts := by
  funext s; unfold K04.kb; rw [h.any s]
/-! ### _law_reads (38) -/
def LRok (k : Nat) (ar tl r : D) (m : List D) : Prop := ∀ (t : O) (acc : List D) (a b c d e f : O), acc.length + m.length ≤ lim → ∃ a' b' c' d' e' f', d__law_reads_f1 (M k) [t, some (false, ar), some (false, tl), some (true, .lst acc), some (false, r), a, b, c, d, e, f] = some (.nx [t, some (false, ar), some (false, tl), some (true, .lst (acc ++ m)), some (false, r), a', b', c', d', e', f'])
theorem lr_list {k : Nat} {ar tl rows : D} {fl ms : List D} (h34 : M k 34 [rows] = some (D.lst fl)) (hs : Acc (LRok k ar tl) fl ms) (hz : ms.length ≤ lim) : M (k + 1) 38 [rows, ar, tl] = some (D.lst ms) := by
  have z := go_acc (J := O × O × O × O × O × O × O) (E := fun acc j => [some (false, rows), some (false, ar), some (false, tl), some (true, .lst acc), j.1, j.2.1, j.2.2.1, j.2.2.2.1, j.2.2.2.2.1, j.2.2.2.2.2.1, j.2.2.2.2.2.2]) (P := LRok k ar tl) (step := fun d r => (bindT (.nm 4) d r).bind fun r1 => d__law_reads_f1 (M k) r1)
    (fun r mm hr acc j hl => by
      obtain ⟨a, b, c, d, e, f, h⟩ := hr (some (false, rows)) acc j.2.1 j.2.2.1 j.2.2.2.1 j.2.2.2.2.1 j.2.2.2.2.2.1 j.2.2.2.2.2.2 hl
      exact ⟨(some (false, r), a, b, c, d, e, f), h⟩) hs (acc := []) (j := (none, none, none, none, none, none, none)) (by simpa using hz)
  obtain ⟨j', e⟩ := z
  show ((d__law_reads (M k) (startE 11 [rows, ar, tl])).bind fun o => match o with | .nx _ => if false then none else some .non | .rt d => some d) = _
  unfold d__law_reads
  rw [q_seq (ρ' := [some (false, rows), some (false, ar), some (false, tl), some (true, .lst []), none, none, none, none, none, none, none]) rfl]
  rw [q_seq (ρ' := [some (false, rows), some (false, ar), some (false, tl), some (true, .lst ms), j'.1, j'.2.1, j'.2.2.1, j'.2.2.2.1, j'.2.2.2.2.1, j'.2.2.2.2.2.1, j'.2.2.2.2.2.2]) ?_]
  · rfl
  · refine (q_for (l := fl) ?_).trans e
    show ((M k 34 [rows]).bind lstD) = _
    rw [h34]; rfl
abbrev atsF : Fs := vIt (vGet (vDct [[108, 101, 116], [115, 101, 116], [115, 97, 121], [119, 104, 101, 110], [103, 105, 118, 101]] [(vTup (vCons (vK (D.int 2)) vNil), []), (vTup (vCons (vK (D.int 1)) (vCons (vK (D.int 3)) vNil)), []), (vTup (vCons (vK (D.int 1)) vNil), []), (vTup (vCons (vK (D.int 1)) vNil), []), (vTup (vCons (vK (D.int 1)) vNil), [])]) (v2 dIdx (vVar 4) (vK (D.int 0))) (vTup (vNil)))
/-- the names that a row's expressions tell, by the law -/
def LNok (k : Nat) (r : D) (ns : List (List Nat)) : Prop := ∀ (t ar tl fd a b c d e : O), ∃ a', vFor atsF [] (.nm 6) (d__law_reads_f2 (M k)) [t, ar, tl, fd, some (false, r), some (true, .lst []), a, b, c, d, e] = some (.nx [t, ar, tl, fd, some (false, r), some (true, .lst (sL ns)), a', b, c, d, e])
theorem lr_own {os : List (List (List Nat))} {ts ns : List (List Nat)} (hz : os.length ≤ lim) (hn : ns.length ≤ lim) (t : O) (acc : List D) (r : D) (a b c d e : O) (hl : acc.length + (ns.filter (kb os ts)).length ≤ lim) :
    vAsg .fr (v2 dCat (vVar 3) (vLc (vIl (vVar 5)) (.nm 7) [7] (vT1 (vOr (v2 (cmpd .isIn) (vVar 7) (vVar 2)) (v1 dNot (v1 dAny (vLc (vIl (vVar 1)) (.nm 8) [8] (vT0) (v2 (cmpd .isIn) (vVar 7) (vVar 8))))))) (vVar 7))) [] 3 [t, some (false, .lst (encO os)), some (false, .lst (sL ts)), some (true, .lst acc), some (false, r), some (true, .lst (sL ns)), a, b, c, d, e] = some (.nx [t, some (false, .lst (encO os)), some (false, .lst (sL ts)), some (true, .lst (acc ++ sL (ns.filter (kb os ts)))), some (false, r), some (true, .lst (sL ns)), a, b, c, d, e]) := by
  refine (q_asg (d := .lst (acc ++ sL (ns.filter (kb os ts)))) ?_ (by show 3 < 11; decide)).trans rfl
  have e1 : ∀ l : List (List Nat), goLc (fLc (.nm 7) [7] (vT1 (vOr (v2 (cmpd .isIn) (vVar 7) (vVar 2)) (v1 dNot (v1 dAny (vLc (vIl (vVar 1)) (.nm 8) [8] (vT0) (v2 (cmpd .isIn) (vVar 7) (vVar 8))))))) (vVar 7) [t, some (false, .lst (encO os)), some (false, .lst (sL ts)), some (true, .lst acc), some (false, r), some (true, .lst (sL ns)), a, b, c, d, e]) (sL l) = some (sL (l.filter (kb os ts))) := by
    intro l
    induction l with
    | nil => rfl
    | cons s l ih =>
      show ((fLc _ _ _ _ _ (D.str s)).bind fun o => (goLc _ (sL l)).bind fun r => some (match o with | none => r | some x => x :: r)) = _
      rw [ih]
      show (((keepL (D.lst (encO os)) (D.lst (sL ts)) (D.str s)).bind fun x => (truD x).bind fun b => if b then some true else some false).bind fun b => if b then some (some (D.str s)) else some none).bind _ = _
      rw [keepL_kb hz, List.filter_cons]
      cases kb os ts s <;> rfl
  show (((goLc _ (sL ns)).bind mkL).bind fun y => dCat (D.lst acc) y) = _
  refine (congrArg (fun o => (Option.bind o mkL).bind fun y => dCat (D.lst acc) y) (e1 ns)).trans ?_
  show ((mkL (sL (ns.filter (kb os ts)))).bind fun y => dCat (D.lst acc) y) = _
  unfold mkL
  rw [if_pos (by rw [List.length_map]; exact Nat.le_trans (List.length_filter_le _ _) hn)]
  show mkL (acc ++ sL (ns.filter (kb os ts))) = _
  unfold mkL
  rw [if_pos (by rw [List.length_append, List.length_map]; exact hl)]
theorem lr_plain {k : Nat} {os : List (List (List Nat))} {ts ns : List (List Nat)} {r : D} {w : List Nat} (h0 : dIdx r (D.int 0) = some (S w)) (hw1 : cmpd .eq (S w) (S [98, 111, 120]) = some (D.bl false)) (hw2 : cmpd .eq (S w) (S [100, 101, 102]) = some (D.bl false)) (hn : LNok k r ns) (hz : os.length ≤ lim) (hl2 : ns.length ≤ lim) : LRok k (D.lst (encO os)) (D.lst (sL ts)) r (sL (ns.filter (kb os ts))) := by
  intro t acc a b c d e f hl
  rw [List.length_map] at hl
  obtain ⟨b', e1⟩ := hn t (some (false, .lst (encO os))) (some (false, .lst (sL ts))) (some (true, .lst acc)) b c d e f
  refine ⟨some (true, .lst (sL ns)), b', c, d, e, f, ?_⟩
  unfold d__law_reads_f1
  refine (q_seq (ρ' := [t, some (false, .lst (encO os)), some (false, .lst (sL ts)), some (true, .lst acc), some (false, r), some (true, .lst []), b, c, d, e, f]) rfl).trans ?_
  refine (q_seq e1).trans ?_
  refine (q_seq (lr_own hz hl2 t acc r b' c d e f hl)).trans ?_
  refine (q_seq (ρ' := [t, some (false, .lst (encO os)), some (false, .lst (sL ts)), some (true, .lst (acc ++ sL (ns.filter (kb os ts)))), some (false, r), some (true, .lst (sL ns)), b', c, d, e, f]) ?_).trans rfl
  refine (q_if (b := false) (by show ((dIdx r (D.int 0)).bind _) = _; rw [h0]; exact hw1)).trans ?_
  refine (q_seq (ρ' := [t, some (false, .lst (encO os)), some (false, .lst (sL ts)), some (true, .lst (acc ++ sL (ns.filter (kb os ts)))), some (false, r), some (true, .lst (sL ns)), b', c, d, e, f]) ?_).trans rfl
  exact (q_if (b := false) (by show ((dIdx r (D.int 0)).bind _) = _; rw [h0]; exact hw2)).trans rfl
theorem lr_box {k : Nat} {os : List (List (List Nat))} {ts : List (List Nat)} {nm bd : D} {m : List D} (hz : os.length ≤ lim) (h38 : M k 38 [bd, .lst (encO os), .lst (sL ts)] = some (D.lst m)) : LRok k (D.lst (encO os)) (D.lst (sL ts)) (rBox nm bd) m := by
  intro t acc a b c d e f hl
  refine ⟨some (true, .lst []), b, c, d, e, f, ?_⟩
  have e0 := lr_own (os := os) (ts := ts) (ns := []) hz (Nat.zero_le _) t acc (rBox nm bd) b c d e f (by simp; omega)
  unfold d__law_reads_f1
  refine (q_seq (ρ' := [t, some (false, .lst (encO os)), some (false, .lst (sL ts)), some (true, .lst acc), some (false, rBox nm bd), some (true, .lst []), b, c, d, e, f]) rfl).trans ?_
  refine (q_seq (ρ' := [t, some (false, .lst (encO os)), some (false, .lst (sL ts)), some (true, .lst acc), some (false, rBox nm bd), some (true, .lst []), b, c, d, e, f]) rfl).trans ?_
  refine (q_seq e0).trans ?_
  refine (q_seq (ρ' := [t, some (false, .lst (encO os)), some (false, .lst (sL ts)), some (true, .lst (acc ++ m)), some (false, rBox nm bd), some (true, .lst []), b, c, d, e, f]) ?_).trans rfl
  refine (q_if (b := true) rfl).trans ?_
  refine (q_seq (ρ' := [t, some (false, .lst (encO os)), some (false, .lst (sL ts)), some (true, .lst (acc ++ m)), some (false, rBox nm bd), some (true, .lst []), b, c, d, e, f]) ?_).trans rfl
  refine (q_asg (d := .lst (acc ++ m)) ?_ (by show 3 < 11; decide)).trans rfl
  show ((M k 38 [bd, .lst (encO os), .lst (sL ts)]).bind fun z => dCat (D.lst (acc ++ [])) z) = _
  rw [h38, List.append_nil]
  show mkL (acc ++ m) = _
  unfold mkL
  rw [if_pos (by rw [List.length_append]; exact hl)]
theorem lr_inner {k : Nat} {A B C G F0 H0 I0 J0 K0 : O} : ∀ {fl : List D} {nbs : List (List Nat)}, Acc (fun r (nb : List (List Nat)) => M k 33 [r] = some (D.lst (sL nb))) fl nbs → ∀ (seen : List (List Nat)) (x : O), seen.length + nbs.length ≤ lim → ∃ x', goFor (fun d ρ => (bindT (.nm 10) d ρ).bind fun r1 => d__law_reads_f3 (M k) r1) fl [A, B, C, G, F0, H0, I0, J0, some (true, .lst (sL seen)), K0, x] = some (.nx [A, B, C, G, F0, H0, I0, J0, some (true, .lst (sL (seen ++ nbs))), K0, x'])
  | _, _, .nil, seen, x, _ => ⟨x, by rw [List.append_nil]; rfl⟩
  | _, _, .cons (r := r) (m := nb) (l := fl) (ms := nbs) h ht, seen, x, hz => by
    rw [List.length_append] at hz
    obtain ⟨x', e⟩ := lr_inner (A := A) (B := B) (C := C) (G := G) (F0 := F0) (H0 := H0) (I0 := I0) (J0 := J0) (K0 := K0) ht (seen ++ nb) (some (false, r)) (by rw [List.length_append]; omega)
    refine ⟨x', ?_⟩
    have e1 : d__law_reads_f3 (M k) [A, B, C, G, F0, H0, I0, J0, some (true, .lst (sL seen)), K0, some (false, r)] = some (.nx [A, B, C, G, F0, H0, I0, J0, some (true, .lst (sL (seen ++ nb))), K0, some (false, r)]) := by
      unfold d__law_reads_f3
      refine (q_seq (ρ' := [A, B, C, G, F0, H0, I0, J0, some (true, .lst (sL (seen ++ nb))), K0, some (false, r)]) ?_).trans rfl
      refine (q_asg (d := .lst (sL (seen ++ nb))) ?_ (by show 8 < 11; decide)).trans rfl
      show ((M k 33 [r]).bind fun z => dCat (D.lst (sL seen)) z) = _
      rw [h]
      show mkL (sL seen ++ sL nb) = _
      unfold mkL
      rw [if_pos (by rw [List.length_append, List.length_map, List.length_map]; omega), sL_app]
    show ((d__law_reads_f3 (M k) [A, B, C, G, F0, H0, I0, J0, some (true, .lst (sL seen)), K0, some (false, r)]).bind fun o => match o with | .nx ρ' => goFor (fun d ρ => (bindT (.nm 10) d ρ).bind fun r1 => d__law_reads_f3 (M k) r1) fl ρ' | .rt x => some (.rt x)) = _
    rw [e1, ← List.append_assoc]; exact e
theorem lr_def {k : Nat} {os : List (List (List Nat))} {ts gs nbs t1 t2 : List (List Nat)} {nm bd : D} {fl m : List D} (hz : os.length + 1 ≤ lim) (h34 : M k 34 [bd] = some (D.lst fl)) (h33 : Acc (fun r (nb : List (List Nat)) => M k 33 [r] = some (D.lst (sL nb))) fl nbs) (h1 : M k 35 [bd, S [116, 111, 112]] = some (D.lst (sL t1))) (h2 : M k 35 [bd, S [111, 117, 116, 101, 114]] = some (D.lst (sL t2)))
    (zs : gs.length + nbs.length ≤ lim) (zt : t1.length + t2.length ≤ lim) (h38 : M k 38 [bd, .lst (encO (((gs ++ nbs).filter fun s => !(t1 ++ t2).contains s) :: os)), .lst (sL t1)] = some (D.lst m)) : LRok k (D.lst (encO os)) (D.lst (sL ts)) (rDef nm (D.tup (sL gs)) bd) m := by
  intro t acc a b c d e f hl
  have e0 := lr_own (os := os) (ts := ts) (ns := []) (by omega) (Nat.zero_le _) t acc (rDef nm (D.tup (sL gs)) bd) b c d e f (by simp; omega)
  obtain ⟨f', e1⟩ := lr_inner (k := k) (A := t) (B := some (false, .lst (encO os))) (C := some (false, .lst (sL ts))) (G := some (true, .lst (acc ++ []))) (F0 := some (false, rDef nm (D.tup (sL gs)) bd)) (H0 := some (true, .lst [])) (I0 := b) (J0 := c) (K0 := some (true, .lst (sL (t1 ++ t2)))) h33 gs f zs
  refine ⟨some (true, .lst []), b, c, some (false, .lst (sL ((gs ++ nbs).filter fun s => !(t1 ++ t2).contains s))), some (true, .lst (sL (t1 ++ t2))), f', ?_⟩
  unfold d__law_reads_f1
  refine (q_seq (ρ' := [t, some (false, .lst (encO os)), some (false, .lst (sL ts)), some (true, .lst acc), some (false, rDef nm (D.tup (sL gs)) bd), some (true, .lst []), b, c, d, e, f]) rfl).trans ?_
  refine (q_seq (ρ' := [t, some (false, .lst (encO os)), some (false, .lst (sL ts)), some (true, .lst acc), some (false, rDef nm (D.tup (sL gs)) bd), some (true, .lst []), b, c, d, e, f]) rfl).trans ?_
  refine (q_seq e0).trans ?_
  refine (q_seq (ρ' := [t, some (false, .lst (encO os)), some (false, .lst (sL ts)), some (true, .lst (acc ++ m)), some (false, rDef nm (D.tup (sL gs)) bd), some (true, .lst []), b, c, some (false, .lst (sL ((gs ++ nbs).filter fun s => !(t1 ++ t2).contains s))), some (true, .lst (sL (t1 ++ t2))), f']) ?_).trans rfl
  refine (q_if (b := false) rfl).trans ?_
  refine (q_seq (ρ' := [t, some (false, .lst (encO os)), some (false, .lst (sL ts)), some (true, .lst (acc ++ m)), some (false, rDef nm (D.tup (sL gs)) bd), some (true, .lst []), b, c, some (false, .lst (sL ((gs ++ nbs).filter fun s => !(t1 ++ t2).contains s))), some (true, .lst (sL (t1 ++ t2))), f']) ?_).trans rfl
  refine (q_if (b := true) rfl).trans ?_
  refine (q_seq (ρ' := [t, some (false, .lst (encO os)), some (false, .lst (sL ts)), some (true, .lst (acc ++ [])), some (false, rDef nm (D.tup (sL gs)) bd), some (true, .lst []), b, c, d, some (true, .lst (sL (t1 ++ t2))), f]) ?a).trans ?_
  rotate_left
  refine (q_seq (ρ' := [t, some (false, .lst (encO os)), some (false, .lst (sL ts)), some (true, .lst (acc ++ [])), some (false, rDef nm (D.tup (sL gs)) bd), some (true, .lst []), b, c, some (true, .lst (sL gs)), some (true, .lst (sL (t1 ++ t2))), f]) ?b).trans ?_
  rotate_left
  refine (q_seq (ρ' := [t, some (false, .lst (encO os)), some (false, .lst (sL ts)), some (true, .lst (acc ++ [])), some (false, rDef nm (D.tup (sL gs)) bd), some (true, .lst []), b, c, some (true, .lst (sL (gs ++ nbs))), some (true, .lst (sL (t1 ++ t2))), f']) ?c).trans ?_
  rotate_left
  refine (q_seq (ρ' := [t, some (false, .lst (encO os)), some (false, .lst (sL ts)), some (true, .lst (acc ++ [])), some (false, rDef nm (D.tup (sL gs)) bd), some (true, .lst []), b, c, some (true, .lst (sL ((gs ++ nbs).filter fun s => !(t1 ++ t2).contains s))), some (true, .lst (sL (t1 ++ t2))), f']) ?d).trans ?_
  rotate_left
  refine (q_seq (ρ' := [t, some (false, .lst (encO os)), some (false, .lst (sL ts)), some (true, .lst (acc ++ m)), some (false, rDef nm (D.tup (sL gs)) bd), some (true, .lst []), b, c, some (false, .lst (sL ((gs ++ nbs).filter fun s => !(t1 ++ t2).contains s))), some (true, .lst (sL (t1 ++ t2))), f']) ?e).trans rfl
  case a =>
    refine (q_asg (d := .lst (sL (t1 ++ t2))) ?_ (by show 9 < 11; decide)).trans rfl
    show ((M k 35 [bd, S [116, 111, 112]]).bind fun x => (M k 35 [bd, S [111, 117, 116, 101, 114]]).bind fun y => dCat x y) = _
    rw [h1, h2]
    show mkL (sL t1 ++ sL t2) = _
    unfold mkL
    rw [if_pos (by rw [List.length_append, List.length_map, List.length_map]; exact zt), sL_app]
  case b =>
    refine (q_asg (d := .lst (sL gs)) ?_ (by show 8 < 11; decide)).trans rfl
    show mkL (sL gs) = _
    unfold mkL
    rw [if_pos (by rw [List.length_map]; omega)]
  case c =>
    refine (q_for (l := fl) ?_).trans e1
    show (M k 34 [bd]).bind lstD = _
    rw [h34]; rfl
  case d =>
    refine (q_asg (d := .lst (sL ((gs ++ nbs).filter fun s => !(t1 ++ t2).contains s))) ?_ (by show 8 < 11; decide)).trans rfl
    have e2 : ∀ l : List (List Nat), goLc (fLc (.nm 7) [7] (vT1 (v2 (cmpd .notIn) (vVar 7) (vVar 9))) (vVar 7) [t, some (false, .lst (encO os)), some (false, .lst (sL ts)), some (true, .lst (acc ++ [])), some (false, rDef nm (D.tup (sL gs)) bd), some (true, .lst []), b, c, some (true, .lst (sL (gs ++ nbs))), some (true, .lst (sL (t1 ++ t2))), f']) (sL l) = some (sL (l.filter fun s => !(t1 ++ t2).contains s)) := by
      intro l
      induction l with
      | nil => rfl
      | cons s l ih =>
        show ((fLc _ _ _ _ _ (D.str s)).bind fun o => (goLc _ (sL l)).bind fun r => some (match o with | none => r | some x => x :: r)) = _
        rw [ih]
        show (((cmpd .notIn (D.str s) (D.lst (sL (t1 ++ t2)))).bind fun x => (truD x).bind fun b => if b then some true else some false).bind fun b => if b then some (some (D.str s)) else some none).bind _ = _
        rw [nin_lst, List.filter_cons]
        cases (t1 ++ t2).contains s <;> rfl
    show ((goLc _ (sL (gs ++ nbs))).bind mkL) = _
    refine (bs (e2 (gs ++ nbs))).trans ?_
    show mkL _ = _
    unfold mkL
    rw [if_pos (by rw [List.length_map]; exact Nat.le_trans (List.length_filter_le _ _) (by rw [List.length_append]; exact zs))]
  case e =>
    refine (q_asg (d := .lst (acc ++ m)) ?_ (by show 3 < 11; decide)).trans rfl
    generalize hq : ((gs ++ nbs).filter fun s => !(t1 ++ t2).contains s) = ol at h38
    have e3 : mkL ([D.lst (sL ol)] ++ encO os) = some (D.lst (encO (ol :: os))) := by
      unfold mkL
      rw [if_pos (by rw [List.length_append, List.length_map]; simp only [List.length_cons, List.length_nil]; omega)]; rfl
    show ((((mkL ([D.lst (sL ol)] ++ encO os)).bind fun y => ((M k 35 [bd, S [116, 111, 112]]).bind fun z => some [z]).bind fun q => some (y :: q)).bind fun q => some (bd :: q)).bind fun ds => M k 38 ds).bind (fun z => dCat (D.lst (acc ++ [])) z) = _
    rw [e3, h1]
    show ((M k 38 [bd, .lst (encO (ol :: os)), .lst (sL t1)]).bind fun z => dCat (D.lst (acc ++ [])) z) = _
    rw [h38, List.append_nil]
    show mkL (acc ++ m) = _
    unfold mkL
    rw [if_pos (by rw [List.length_append]; exact hl)]
end K04
end
section
set_option Elab.async false
set_option linter.all false
set_option maxRecDepth 100000
set_option maxHeartbeats 4000000
/-! K04U: counts, check_rows, bound, reached. -/
namespace K04
open PD
theorem Acc.map {α β : Type} {P : D → List α → Prop} (g : α → β) : ∀ {l : List D} {ns : List α}, Acc P l ns → Acc (fun r m => ∃ ns', m = ns'.map g ∧ P r ns') l (ns.map g)
  | _, _, .nil => .nil
  | _, _, .cons h t => by rw [List.map_append]; exact .cons ⟨_, rfl, h⟩ (Acc.map g t)
theorem allM_int : ∀ (ns : List Int), allM intD (ns.map D.int) = some ns
  | [] => rfl
  | n :: ns => by
    show ((intD (D.int n)).bind fun x => (allM intD (ns.map D.int)).bind fun r => some (x :: r)) = _
    rw [allM_int ns]; rfl
/-! ### many_rows (19) -/
def MRok (k : Nat) (r : D) (ns : List Int) : Prop := ∃ bs, M k 18 [r] = some (D.lst bs) ∧ goLc (fun b => (M k 19 [b]).bind fun x => some (some x)) bs = some (ns.map D.int)
theorem mr_list {k : Nat} {l : List D} {ns : List Int} (h : Acc (MRok k) l ns) (hz : ns.length ≤ lim) : M (k + 1) 19 [.tup l] = some (D.int (l.length + ns.sum)) := by
  show ((d_many_rows (M k) (startE 3 [.tup l])).bind fun o => match o with | .nx _ => if false then none else some .non | .rt d => some d) = _
  unfold d_many_rows
  rw [q_seqR (d := .int (l.length + ns.sum)) (q_ret ?_)]
  · rfl
  · obtain ⟨ls, e1, e2⟩ := allM_acc (f := fLc2 (.nm 1) [1, 2] vT0 (vIl (vCall (M k) 18 (vCons (vVar 1) vNil))) (.nm 2) [2] vT0 (vCall (M k) 19 (vCons (vVar 2) vNil)) [some (false, .tup l), none, none]) (fun q m hq => by
      obtain ⟨ns', rfl, bs, h18, h19⟩ := hq
      show ((M k 18 [q]).bind lstD).bind (fun l2 => goLc _ l2) = _
      rw [h18]
      exact h19) (Acc.map D.int h)
    have e3 : (vLc2 (vIt (vVar 0)) (.nm 1) [1, 2] (vT0) (vIl (vCall (M k) 18 (vCons (vVar 1) vNil))) (.nm 2) [2] (vT0) (vCall (M k) 19 (vCons (vVar 2) vNil))) [some (false, .tup l), none, none] = some (D.lst (ns.map D.int)) := by
      show ((allM _ l).bind fun ls => mkL ls.flatten) = _
      rw [e1]
      show mkL ls.flatten = _
      unfold mkL
      rw [e2, if_pos (by rw [List.length_map]; exact hz)]
    show ((vLc2 _ _ _ _ _ _ _ _ _ [some (false, .tup l), none, none]).bind fun x => dSum x).bind (fun y => bopd .add (D.int l.length) y) = _
    rw [e3]
    show ((allM intD (ns.map D.int)).bind fun ns => some (D.int ns.sum)).bind (fun y => bopd .add (D.int l.length) y) = _
    rw [allM_int]; rfl
/-! ### _law_count (40) -/
def CTok (k : Nat) (r : D) (ns : List Int) : Prop := ∀ (t : O) (n : Int), d__law_count_f1 (M k) [t, some (false, .int n), some (false, r)] = some (.nx [t, some (false, .int (n + ns.sum)), some (false, r)])
theorem ct_loop {k : Nat} {t : O} : ∀ {l : List D} {ns : List Int}, Acc (CTok k) l ns → ∀ (n : Int) (x : O), ∃ x', goFor (fun d ρ => (bindT (.nm 2) d ρ).bind fun r1 => d__law_count_f1 (M k) r1) l [t, some (false, .int n), x] = some (.nx [t, some (false, .int (n + ns.sum)), x'])
  | _, _, .nil, n, x => ⟨x, by simp [goFor]⟩
  | _, _, .cons (r := r) (m := m) (l := l) (ms := ms) h ht, n, x => by
    obtain ⟨x', e⟩ := ct_loop (t := t) ht (n + m.sum) (some (false, r))
    refine ⟨x', ?_⟩
    show ((d__law_count_f1 (M k) [t, some (false, .int n), some (false, r)]).bind fun o => match o with | .nx ρ' => goFor (fun d ρ => (bindT (.nm 2) d ρ).bind fun r1 => d__law_count_f1 (M k) r1) l ρ' | .rt x => some (.rt x)) = _
    rw [h t n, List.sum_append, ← Int.add_assoc]; exact e
theorem ct_list {k : Nat} {l : List D} {ns : List Int} (h : Acc (CTok k) l ns) : M (k + 1) 40 [.tup l] = some (D.int (l.length + ns.sum)) := by
  obtain ⟨x', e⟩ := ct_loop (t := some (false, .tup l)) h l.length none
  show ((d__law_count (M k) (startE 3 [.tup l])).bind fun o => match o with | .nx _ => if false then none else some .non | .rt d => some d) = _
  unfold d__law_count
  rw [q_seq (ρ' := [some (false, .tup l), some (false, .int l.length), none]) rfl]
  rw [q_seq (ρ' := [some (false, .tup l), some (false, .int (l.length + ns.sum)), x']) ((q_for (l := l) rfl).trans e)]
  rfl
theorem ct_plain {k : Nat} {r : D} {w : List Nat} (h0 : dIdx r (D.int 0) = some (S w)) (hw1 : cmpd .isIn (S w) db = some (D.bl false)) (hw2 : cmpd .isIn (S w) wt = some (D.bl false)) : CTok k r [] := by
  intro t n
  unfold d__law_count_f1
  refine (q_seq (ρ' := [t, some (false, .int n), some (false, r)]) ?_).trans ?_
  · exact (q_if (b := false) (by show ((dIdx r (D.int 0)).bind _) = _; rw [h0]; exact hw1)).trans rfl
  refine (q_seq (ρ' := [t, some (false, .int (n + ([] : List Int).sum)), some (false, r)]) ?_).trans rfl
  refine (q_if (b := false) (by show ((dIdx r (D.int 0)).bind _) = _; rw [h0]; exact hw2)).trans ?_
  rw [List.sum_nil, Int.add_zero]; rfl
theorem ct_nest {k : Nat} {r bd : D} {w : List Nat} {c : Int} (h0 : dIdx r (D.int 0) = some (S w)) (hw1 : cmpd .isIn (S w) db = some (D.bl true)) (hw2 : cmpd .isIn (S w) wt = some (D.bl false)) (hb : dIdx r (D.int (-1)) = some bd) (h40 : M k 40 [bd] = some (D.int c)) : CTok k r [c] := by
  intro t n
  unfold d__law_count_f1
  refine (q_seq (ρ' := [t, some (false, .int (n + c)), some (false, r)]) ?_).trans ?_
  · refine (q_if (b := true) (by show ((dIdx r (D.int 0)).bind _) = _; rw [h0]; exact hw1)).trans ?_
    refine (q_seq (ρ' := [t, some (false, .int (n + c)), some (false, r)]) ?_).trans rfl
    refine (q_asg (d := .int (n + c)) ?_ (by show 1 < 3; decide)).trans rfl
    show ((((dIdx r (D.int (-1))).bind fun x => some [x]).bind fun ds => M k 40 ds).bind fun y => bopd .add (D.int n) y) = _
    rw [hb]
    show ((M k 40 [bd]).bind fun y => bopd .add (D.int n) y) = _
    rw [h40]; rfl
  refine (q_seq (ρ' := [t, some (false, .int (n + [c].sum)), some (false, r)]) ?_).trans rfl
  refine (q_if (b := false) (by show ((dIdx r (D.int 0)).bind _) = _; rw [h0]; exact hw2)).trans ?_
  rw [show [c].sum = c by simp]; rfl
theorem ct_block {k : Nat} {r a b : D} {w : List Nat} {c c' : Int} (h0 : dIdx r (D.int 0) = some (S w)) (hw1 : cmpd .isIn (S w) db = some (D.bl false)) (hw2 : cmpd .isIn (S w) wt = some (D.bl true)) (ha : dIdx r (D.int (-2)) = some a) (hb : dIdx r (D.int (-1)) = some b) (h1 : M k 40 [a] = some (D.int c)) (h2 : M k 40 [b] = some (D.int c')) : CTok k r [c, c'] := by
  intro t n
  unfold d__law_count_f1
  refine (q_seq (ρ' := [t, some (false, .int n), some (false, r)]) ?_).trans ?_
  · exact (q_if (b := false) (by show ((dIdx r (D.int 0)).bind _) = _; rw [h0]; exact hw1)).trans rfl
  refine (q_seq (ρ' := [t, some (false, .int (n + [c, c'].sum)), some (false, r)]) ?_).trans rfl
  refine (q_if (b := true) (by show ((dIdx r (D.int 0)).bind _) = _; rw [h0]; exact hw2)).trans ?_
  refine (q_seq (ρ' := [t, some (false, .int (n + [c, c'].sum)), some (false, r)]) ?_).trans rfl
  refine (q_asg (d := .int (n + [c, c'].sum)) ?_ (by show 1 < 3; decide)).trans rfl
  show (((((dIdx r (D.int (-2))).bind fun x => some [x]).bind fun ds => M k 40 ds).bind fun y => bopd .add (D.int n) y).bind fun x => ((((dIdx r (D.int (-1))).bind fun x => some [x]).bind fun ds => M k 40 ds).bind fun y => bopd .add x y)) = _
  rw [ha, hb]
  show (((M k 40 [a]).bind fun y => bopd .add (D.int n) y).bind fun x => ((M k 40 [b]).bind fun y => bopd .add x y)) = _
  rw [h1, h2]
  show some (D.int (n + c + c')) = _
  rw [show [c, c'].sum = c + c' by simp, Int.add_assoc]
/-! ### check_rows (20) -/
theorem numb_app : ∀ (i : Int) (a b : List D), numb i (a ++ b) = numb i a ++ numb (i + a.length) b
  | i, [], b => by simp [numb]
  | i, x :: a, b => by
    rw [List.cons_append, numb, numb, numb_app (i + 1) a b, List.cons_append, List.length_cons]
    congr 3
    omega
theorem goFor_app {f : D → Env → Option Out} {ρ' : Env} : ∀ {a b : List D} {ρ : Env}, goFor f a ρ = some (.nx ρ') → goFor f (a ++ b) ρ = goFor f b ρ'
  | [], b, ρ, h => by
    have : ρ = ρ' := by simpa [goFor] using h
    subst this; rfl
  | x :: a, b, ρ, h => by
    have h' : ((f x ρ).bind fun o => match o with | .nx ρ' => goFor f a ρ' | .rt x => some (.rt x)) = some (.nx ρ') := h
    show ((f x ρ).bind fun o => match o with | .nx ρ' => goFor f (a ++ b) ρ' | .rt x => some (.rt x)) = _
    cases hx : f x ρ with
    | none => rw [hx] at h'; cases h'
    | some o =>
      rw [hx] at h'
      cases o with
      | rt d => cases h'
      | nx ρ1 => exact goFor_app (a := a) (b := b) h'
abbrev A1 : D := .ins 0 [.int 1, S [109, 111, 100, 117, 108, 101], .lst [], .bl true]
abbrev sh : D := .tup [S [115, 104, 111, 119], S [104, 105, 100, 101]]
def CKok (k : Nat) (r : D) : Prop := ∃ w, dIdx r (D.int 0) = some (S w) ∧ cmpd .isIn (S w) sh = some (D.bl false) ∧ M k 10 [r, A1] = some (D.bl true)
theorem ck_rest {k : Nat} {t u x y z : O} : ∀ {l : List D}, (∀ r ∈ l, CKok k r) → ∀ (i : Int) (a b : O), ∃ a' b', goFor (fun d ρ => (bindT (.tp [2, 3]) d ρ).bind fun r1 => d_check_rows_f1 (M k) r1) (numb i l) [t, u, a, b, x, y, z] = some (.nx [t, u, a', b', x, y, z])
  | [], _, i, a, b => ⟨a, b, rfl⟩
  | r :: l, h, i, a, b => by
    obtain ⟨w, h0, hw, h10⟩ := h r (by simp)
    obtain ⟨a', b', e⟩ := ck_rest (l := l) (t := t) (u := u) (x := x) (y := y) (z := z) (fun q hq => h q (by simp [hq])) (i + 1) (some (false, .int i)) (some (false, r))
    refine ⟨a', b', ?_⟩
    have e1 : d_check_rows_f1 (M k) [t, u, some (false, .int i), some (false, r), x, y, z] = some (.nx [t, u, some (false, .int i), some (false, r), x, y, z]) := by
      unfold d_check_rows_f1
      refine (q_seq (ρ' := [t, u, some (false, .int i), some (false, r), x, y, z]) ?_).trans ?_
      · refine (q_if (b := false) ?_).trans rfl
        show ((M k 10 [r, A1]).bind fun x => dNot x) = _
        rw [h10]; rfl
      refine (q_seq (ρ' := [t, u, some (false, .int i), some (false, r), x, y, z]) ?_).trans rfl
      exact (q_if (b := false) (by show ((dIdx r (D.int 0)).bind _) = _; rw [h0]; exact hw)).trans rfl
    show ((d_check_rows_f1 (M k) [t, u, some (false, .int i), some (false, r), x, y, z]).bind fun o => match o with | .nx ρ' => goFor _ (numb (i + 1) l) ρ' | .rt x => some (.rt x)) = _
    rw [e1]; exact e
def HDok (k : Nat) (hd : List D) : Prop := ∀ t : O, ∃ u a b x y z, goFor (fun d ρ => (bindT (.tp [2, 3]) d ρ).bind fun r1 => d_check_rows_f1 (M k) r1) (numb 0 hd) [t, some (true, .lst []), none, none, none, none, none] = some (.nx [t, u, a, b, x, y, z])
theorem ck_ok {k : Nat} {hd l : List D} {n : Int} (hh : HDok k hd) (h : ∀ r ∈ l, CKok k r) (h19 : M k 19 [.tup (hd ++ l)] = some (D.int n)) (hn : n ≤ 40) : M (k + 1) 20 [.tup (hd ++ l)] = some .non := by
  obtain ⟨u, a, b, x, y, z, e1⟩ := hh (some (false, .tup (hd ++ l)))
  obtain ⟨a', b', e2⟩ := ck_rest (k := k) (t := some (false, .tup (hd ++ l))) (u := u) (x := x) (y := y) (z := z) h (0 + hd.length) a b
  show ((d_check_rows (M k) (startE 7 [.tup (hd ++ l)])).bind fun o => match o with | .nx _ => if false then none else some .non | .rt d => some d) = _
  unfold d_check_rows
  rw [q_seq (ρ' := [some (false, .tup (hd ++ l)), none, none, none, none, none, none]) rfl]
  rw [q_seq (ρ' := [some (false, .tup (hd ++ l)), some (true, .lst []), none, none, none, none, none]) rfl]
  rw [q_seq (ρ' := [some (false, .tup (hd ++ l)), u, a', b', x, y, z]) ?a]
  rw [q_seq (ρ' := [some (false, .tup (hd ++ l)), u, a', b', x, y, z]) ?b]
  · rfl
  case a =>
    refine (q_for (l := numb 0 (hd ++ l)) rfl).trans ?_
    rw [numb_app]
    exact (goFor_app e1).trans e2
  case b =>
    refine (q_if (b := false) ?_).trans rfl
    show ((M k 19 [.tup (hd ++ l)]).bind fun x => cmpd .gt x (D.int 40)) = _
    rw [h19]
    show some (D.bl (decide ((40 : Int) < n))) = _
    rw [decide_eq_false (by omega)]
/-! ### bound (21), reached (22) -/
theorem bo_ok {k : Nat} {rows d : D} (h20 : M k 20 [rows] = some .non) (h23 : M k 23 [rows] = some d) : M (k + 1) 21 [rows] = some d := by
  show ((d_bound (M k) (startE 1 [rows])).bind fun o => match o with | .nx _ => if true then none else some .non | .rt d => some d) = _
  unfold d_bound
  rw [q_seq (ρ' := [some (false, rows)]) ?a]
  rw [q_seqR (d := d) (q_ret h23)]
  · rfl
  case a =>
    show ((M k 20 [rows]).bind fun _ => some (Out.nx [some (false, rows)])) = _
    rw [h20]; rfl
theorem allM_str : ∀ (ns : List (List Nat)), allM strD (sL ns) = some ns
  | [] => rfl
  | n :: ns => by
    show ((strD (D.str n)).bind fun x => (allM strD (sL ns)).bind fun r => some (x :: r)) = _
    rw [allM_str ns]; rfl
theorem re_ok {k : Nat} {rows : D} {rd : List (List Nat)} (h20 : M k 20 [rows] = some .non) (h28 : M k 28 [rows, .lst [], .lst []] = some (D.lst (sL rd))) (hz : rd.length ≤ 4000) : M (k + 1) 22 [rows] = some (D.lst (sL (srtU rd))) := by
  show ((d_reached (M k) (startE 2 [rows])).bind fun o => match o with | .nx _ => if true then none else some .non | .rt d => some d) = _
  unfold d_reached
  rw [q_seq (ρ' := [some (false, rows), none]) ?a]
  rw [q_seqR (d := .lst (sL (srtU rd))) (q_ret ?b)]
  · rfl
  case a =>
    show ((M k 20 [rows]).bind fun _ => some (Out.nx [some (false, rows), none])) = _
    rw [h20]; rfl
  case b =>
    have e1 : goLc (fLc (.nm 1) [1] (fun _ => some true) (vVar 1) [some (false, rows), none]) (sL rd) = some (sL rd) := by
      refine (goLc_all (h := fun d => d) (fun d hd => rfl)).trans (by rw [List.map_id'])
    have e2 : vSc (vIl (vCall (M k) 28 (vCons (vVar 0) (vCons (vLst (vNil)) (vCons (vLst (vNil)) vNil))))) (.nm 1) [1] (vVar 1) [some (false, rows), none] = some rd := by
      show ((M k 28 [rows, .lst [], .lst []]).bind lstD).bind (fun l => (goLc (fLc (.nm 1) [1] (fun _ => some true) (vVar 1) [some (false, rows), none]) l).bind fun r => (allM strD r).bind fun ss => if ss.length ≤ 4000 then some ss else none) = _
      rw [h28]
      show ((goLc (fLc (.nm 1) [1] (fun _ => some true) (vVar 1) [some (false, rows), none]) (sL rd)).bind fun r => (allM strD r).bind fun ss => if ss.length ≤ 4000 then some ss else none) = _
      rw [e1]
      show ((allM strD (sL rd)).bind fun ss => if ss.length ≤ 4000 then some ss else none) = _
      rw [allM_str]
      show (if rd.length ≤ 4000 then some rd else none) = _
      rw [if_pos hz]
    show ((vSc _ _ _ _ [some (false, rows), none]).bind fun ss => some (D.lst ((srtU ss).map D.str))) = _
    rw [e2]; rfl
end K04
end
section
set_option Elab.async false
set_option linter.all false
set_option maxRecDepth 100000
set_option maxHeartbeats 4000000
/-! K04V: the rows of the law, and what each plain row tells (printed by gen/mk04v.py). -/
namespace K04
open PD
def menuP : List D := [(.tup [(.str [108, 101, 116]), (.str [120]), (.tup [(.str [110, 117, 109]), (.int 1)])]),
  (.tup [(.str [108, 101, 116]), (.str [120]), (.tup [(.str [112, 108, 117, 115]), (.tup [(.str [110, 97, 109, 101]), (.str [120])]), (.tup [(.str [110, 117, 109]), (.int 2)])])]),
  (.tup [(.str [108, 101, 116]), (.str [121]), (.tup [(.str [100, 111, 116]), (.tup [(.str [110, 97, 109, 101]), (.str [97])]), (.str [120])])]),
  (.tup [(.str [108, 101, 116]), (.str [122]), (.tup [(.str [99, 97, 108, 108]), (.tup [(.str [110, 97, 109, 101]), (.str [102])]), (.tup [])])]),
  (.tup [(.str [108, 101, 116]), (.str [121]), (.tup [(.str [99, 97, 108, 108]), (.tup [(.str [110, 97, 109, 101]), (.str [102])]), (.tup [(.tup [(.str [110, 97, 109, 101]), (.str [120])])])])]),
  (.tup [(.str [108, 101, 116]), (.str [102]), (.tup [(.str [100, 111, 116]), (.tup [(.str [110, 97, 109, 101]), (.str [98])]), (.str [102])])]),
  (.tup [(.str [108, 101, 116]), (.str [122]), (.tup [(.str [108, 101, 115, 115]), (.tup [(.str [110, 97, 109, 101]), (.str [120])]), (.tup [(.str [110, 117, 109]), (.int 2)])])]),
  (.tup [(.str [115, 97, 121]), (.tup [(.str [110, 97, 109, 101]), (.str [120])])]),
  (.tup [(.str [115, 97, 121]), (.tup [(.str [110, 97, 109, 101]), (.str [121])])]),
  (.tup [(.str [115, 97, 121]), (.tup [(.str [110, 97, 109, 101]), (.str [122])])]),
  (.tup [(.str [115, 97, 121]), (.tup [(.str [110, 97, 109, 101]), (.str [102])])]),
  (.tup [(.str [115, 97, 121]), (.tup [(.str [110, 97, 109, 101]), (.str [97])])]),
  (.tup [(.str [115, 97, 121]), (.tup [(.str [100, 111, 116]), (.tup [(.str [110, 97, 109, 101]), (.str [97])]), (.str [121])])]),
  (.tup [(.str [115, 97, 121]), (.tup [(.str [100, 111, 116]), (.tup [(.str [110, 97, 109, 101]), (.str [109])]), (.str [122])])]),
  (.tup [(.str [115, 97, 121]), (.tup [(.str [112, 108, 117, 115]), (.tup [(.str [110, 97, 109, 101]), (.str [120])]), (.tup [(.str [110, 97, 109, 101]), (.str [121])])])]),
  (.tup [(.str [108, 101, 116]), (.str [120]), (.tup [(.str [100, 111, 116]), (.tup [(.str [100, 111, 116]), (.tup [(.str [110, 97, 109, 101]), (.str [97])]), (.str [98])]), (.str [120])])]),
  (.tup [(.str [115, 97, 121]), (.tup [(.str [99, 97, 108, 108]), (.tup [(.str [110, 97, 109, 101]), (.str [102])]), (.tup [(.tup [(.str [110, 117, 109]), (.int 1)])])])]),
  (.tup [(.str [97, 103, 97, 105, 110]), (.tup [(.str [97]), (.str [98])])]),
  (.tup [(.str [117, 115, 101]), (.tup [(.str [97])]), .non]),
  (.tup [(.str [117, 115, 101]), (.tup [(.str [98])]), .non]),
  (.tup [(.str [117, 115, 101]), (.tup [(.str [97]), (.str [98])]), .non]),
  (.tup [(.str [117, 115, 101]), (.tup [(.str [97]), (.str [109])]), (.str [109])]),
  (.tup [(.str [117, 115, 101]), (.tup [(.str [109])]), .non]),
  (.tup [(.str [117, 115, 101]), (.tup [(.str [109]), (.str [98])]), (.str [98])]),
  (.tup [(.str [117, 115, 101]), (.tup [(.str [99])]), .non]),
  (.tup [(.str [117, 115, 101]), (.tup [(.str [97]), (.str [98]), (.str [120])]), (.str [120])]),
  (.tup [(.str [108, 97, 122, 121]), (.tup [(.str [98])]), (.str [98])]),
  (.tup [(.str [108, 97, 122, 121]), (.tup [(.str [97]), (.str [109])]), (.str [109])]),
  (.tup [(.str [108, 97, 122, 121]), (.tup [(.str [109])]), (.str [121])]),
  (.tup [(.str [97, 103, 97, 105, 110]), (.tup [(.str [98])])]),
  (.tup [(.str [102, 114, 111, 109]), (.int 0), (.tup [(.str [98])]), (.tup [(.tup [(.str [102]), (.str [102])]), (.tup [(.str [121]), (.str [122])])])]),
  (.tup [(.str [102, 114, 111, 109]), (.int 0), (.tup [(.str [97]), (.str [98])]), (.str [42])]),
  (.tup [(.str [102, 114, 111, 109]), (.int 0), (.tup [(.str [97])]), (.tup [(.tup [(.str [120]), (.str [120])])])]),
  (.tup [(.str [102, 114, 111, 109]), (.int 0), (.tup [(.str [97])]), (.tup [(.tup [(.str [98]), (.str [120])])])]),
  (.tup [(.str [102, 114, 111, 109]), (.int 0), (.tup [(.str [109])]), (.str [42])]),
  (.tup [(.str [102, 114, 111, 109]), (.int 1), (.tup []), (.tup [(.tup [(.str [120]), (.str [121])])])]),
  (.tup [(.str [102, 114, 111, 109]), (.int 1), (.tup [(.str [98])]), (.tup [(.tup [(.str [120]), (.str [120])])])]),
  (.tup [(.str [102, 114, 111, 109]), (.int 1), (.tup [(.str [109])]), (.str [42])]),
  (.tup [(.str [102, 114, 111, 109]), (.int 2), (.tup [(.str [109])]), (.tup [(.tup [(.str [122]), (.str [122])])])]),
  (.tup [(.str [102, 114, 111, 109]), (.int 3), (.tup [(.str [97])]), (.tup [(.tup [(.str [120]), (.str [120])])])]),
  (.tup [(.str [102, 114, 111, 109]), (.int 1), (.tup []), (.tup [(.tup [(.str [109]), (.str [109])])])]),
  (.tup [(.str [102, 114, 111, 109]), (.int 0), (.tup [(.str [98])]), (.str [42])]),
  (.tup [(.str [102, 114, 111, 109]), (.int 0), (.tup [(.str [97])]), (.tup [(.tup [(.str [122]), (.str [122])])])]),
  (.tup [(.str [97, 103, 97, 105, 110]), (.tup [(.str [97])])]),
  (.tup [(.str [115, 101, 116]), (.tup [(.str [110, 97, 109, 101]), (.str [97])]), (.str [120]), (.tup [(.str [110, 117, 109]), (.int 2)])]),
  (.tup [(.str [115, 101, 116]), (.tup [(.str [110, 97, 109, 101]), (.str [98])]), (.str [122]), (.tup [(.str [110, 97, 109, 101]), (.str [120])])]),
  (.tup [(.str [115, 101, 116]), (.tup [(.str [110, 97, 109, 101]), (.str [109])]), (.str [121]), (.tup [(.str [110, 97, 109, 101]), (.str [102])])]),
  (.tup [(.str [100, 114, 111, 112]), (.str [120])]),
  (.tup [(.str [100, 114, 111, 112]), (.str [122])]),
  (.tup [(.str [108, 101, 116]), (.str [102]), (.tup [(.str [100, 111, 116]), (.tup [(.str [110, 97, 109, 101]), (.str [122])]), (.str [102])])])]
def menuC : List D := [(.tup [(.str [100, 101, 102]), (.str [102]), (.tup []), (.tup [(.tup [(.str [103, 105, 118, 101]), (.tup [(.str [110, 97, 109, 101]), (.str [120])])])])]),
  (.tup [(.str [100, 101, 102]), (.str [102]), (.tup [(.str [121])]), (.tup [(.tup [(.str [108, 101, 116]), (.str [120]), (.tup [(.str [112, 108, 117, 115]), (.tup [(.str [110, 97, 109, 101]), (.str [121])]), (.tup [(.str [110, 117, 109]), (.int 1)])])]), (.tup [(.str [103, 105, 118, 101]), (.tup [(.str [112, 108, 117, 115]), (.tup [(.str [110, 97, 109, 101]), (.str [120])]), (.tup [(.str [110, 97, 109, 101]), (.str [121])])])])])]),
  (.tup [(.str [100, 101, 102]), (.str [102]), (.tup []), (.tup [(.tup [(.str [116, 111, 112]), (.tup [(.str [122])])]), (.tup [(.str [108, 101, 116]), (.str [122]), (.tup [(.str [110, 117, 109]), (.int 2)])]), (.tup [(.str [117, 115, 101]), (.tup [(.str [97])]), (.str [109])]), (.tup [(.str [103, 105, 118, 101]), (.tup [(.str [100, 111, 116]), (.tup [(.str [110, 97, 109, 101]), (.str [109])]), (.str [120])])])])]),
  (.tup [(.str [100, 101, 102]), (.str [102]), (.tup [(.str [120])]), (.tup [(.tup [(.str [108, 101, 116]), (.str [121]), (.tup [(.str [110, 117, 109]), (.int 1)])]), (.tup [(.str [100, 101, 102]), (.str [109]), (.tup []), (.tup [(.tup [(.str [111, 117, 116, 101, 114]), (.tup [(.str [121])])]), (.tup [(.str [108, 101, 116]), (.str [121]), (.tup [(.str [112, 108, 117, 115]), (.tup [(.str [110, 97, 109, 101]), (.str [120])]), (.tup [(.str [110, 97, 109, 101]), (.str [121])])])]), (.tup [(.str [103, 105, 118, 101]), (.tup [(.str [110, 97, 109, 101]), (.str [121])])])])]), (.tup [(.str [115, 97, 121]), (.tup [(.str [99, 97, 108, 108]), (.tup [(.str [110, 97, 109, 101]), (.str [109])]), (.tup [])])]), (.tup [(.str [103, 105, 118, 101]), (.tup [(.str [110, 97, 109, 101]), (.str [121])])])])]),
  (.tup [(.str [100, 101, 102]), (.str [102]), (.tup []), (.tup [(.tup [(.str [102, 114, 111, 109]), (.int 0), (.tup [(.str [98])]), (.tup [(.tup [(.str [120]), (.str [120])])])]), (.tup [(.str [103, 105, 118, 101]), (.tup [(.str [99, 97, 108, 108]), (.tup [(.str [110, 97, 109, 101]), (.str [102])]), (.tup [])])])])]),
  (.tup [(.str [100, 101, 102]), (.str [102]), (.tup []), (.tup [(.tup [(.str [115, 97, 121]), (.tup [(.str [110, 97, 109, 101]), (.str [122])])]), (.tup [(.str [100, 114, 111, 112]), (.str [122])])])]),
  (.tup [(.str [98, 111, 120]), (.str [122]), (.tup [(.tup [(.str [108, 101, 116]), (.str [121]), (.tup [(.str [110, 97, 109, 101]), (.str [120])])]), (.tup [(.str [100, 101, 102]), (.str [102]), (.tup []), (.tup [(.tup [(.str [103, 105, 118, 101]), (.tup [(.str [110, 97, 109, 101]), (.str [121])])])])]), (.tup [(.str [108, 101, 116]), (.str [120]), (.tup [(.str [110, 117, 109]), (.int 2)])])])]),
  (.tup [(.str [98, 111, 120]), (.str [120]), (.tup [(.tup [(.str [115, 97, 121]), (.tup [(.str [110, 97, 109, 101]), (.str [120])])]), (.tup [(.str [108, 101, 116]), (.str [120]), (.tup [(.str [110, 117, 109]), (.int 1)])]), (.tup [(.str [98, 111, 120]), (.str [121]), (.tup [(.tup [(.str [108, 101, 116]), (.str [122]), (.tup [(.str [110, 97, 109, 101]), (.str [120])])])])]), (.tup [(.str [117, 115, 101]), (.tup [(.str [109])]), .non])])]),
  (.tup [(.str [116, 114, 121]), (.tup [(.tup [(.str [117, 115, 101]), (.tup [(.str [98])]), .non]), (.tup [(.str [115, 97, 121]), (.tup [(.str [100, 111, 116]), (.tup [(.str [110, 97, 109, 101]), (.str [98])]), (.str [120])])])]), (.tup [(.tup [(.str [115, 97, 121]), (.tup [(.str [110, 117, 109]), (.int 2)])])])]),
  (.tup [(.str [116, 114, 121]), (.tup [(.tup [(.str [115, 97, 121]), (.tup [(.str [110, 97, 109, 101]), (.str [121])])])]), (.tup [])]),
  (.tup [(.str [119, 104, 101, 110]), (.tup [(.str [108, 101, 115, 115]), (.tup [(.str [110, 97, 109, 101]), (.str [120])]), (.tup [(.str [110, 97, 109, 101]), (.str [121])])]), (.tup [(.tup [(.str [115, 97, 121]), (.tup [(.str [110, 97, 109, 101]), (.str [121])])])]), (.tup [])]),
  (.tup [(.str [119, 104, 101, 110]), (.tup [(.str [110, 97, 109, 101]), (.str [102])]), (.tup []), (.tup [])]),
  (.tup [(.str [116, 114, 121]), (.tup [(.tup [(.str [102, 114, 111, 109]), (.int 0), (.tup [(.str [97]), (.str [109])]), (.tup [(.tup [(.str [120]), (.str [120])])])])]), (.tup [(.tup [(.str [108, 101, 116]), (.str [120]), (.tup [(.str [110, 117, 109]), (.int 1)])])])]),
  (.tup [(.str [119, 104, 101, 110]), (.tup [(.str [110, 97, 109, 101]), (.str [120])]), (.tup [(.tup [(.str [117, 115, 101]), (.tup [(.str [109])]), .non])]), (.tup [(.tup [(.str [108, 101, 116]), (.str [120]), (.tup [(.str [110, 117, 109]), (.int 1)])])])]),
  (.tup [(.str [98, 111, 120]), (.str [120]), (.tup [(.tup [(.str [108, 101, 116]), (.str [107]), (.tup [(.str [110, 117, 109]), (.int 2)])]), (.tup [(.str [115, 97, 121]), (.tup [(.str [110, 97, 109, 101]), (.str [107])])]), (.tup [(.str [108, 101, 116]), (.str [121]), (.tup [(.str [112, 108, 117, 115]), (.tup [(.str [110, 97, 109, 101]), (.str [107])]), (.tup [(.str [110, 97, 109, 101]), (.str [120])])])])])]),
  (.tup [(.str [100, 101, 102]), (.str [102]), (.tup []), (.tup [(.tup [(.str [108, 97, 122, 121]), (.tup [(.str [98])]), (.str [113])]), (.tup [(.str [100, 101, 102]), (.str [103]), (.tup []), (.tup [(.tup [(.str [117, 115, 101]), (.tup [(.str [109]), (.str [98])]), (.str [113])]), (.tup [(.str [103, 105, 118, 101]), (.tup [(.str [100, 111, 116]), (.tup [(.str [110, 97, 109, 101]), (.str [113])]), (.str [120])])])])]), (.tup [(.str [103, 105, 118, 101]), (.tup [(.str [100, 111, 116]), (.tup [(.str [110, 97, 109, 101]), (.str [113])]), (.str [121])])])])])]
def menu : List D := menuP ++ menuC
def blkR : List D := [(.tup [(.str [115, 97, 121]), (.tup [(.str [100, 111, 116]), (.tup [(.str [110, 97, 109, 101]), (.str [98])]), (.str [120])])]),
  (.tup [(.str [115, 97, 121]), (.tup [(.str [110, 117, 109]), (.int 2)])]),
  (.tup [(.str [102, 114, 111, 109]), (.int 0), (.tup [(.str [97]), (.str [109])]), (.tup [(.tup [(.str [120]), (.str [120])])])])]
def exA : List D := [(.tup [(.str [108, 101, 116]), (.str [103]), (.tup [(.str [110, 97, 109, 101]), (.str [120])])]),
  (.tup [(.str [108, 101, 116]), (.str [103]), (.tup [(.str [110, 117, 109]), (.int 1)])]),
  (.tup [(.str [108, 101, 116]), (.str [122]), (.tup [(.str [110, 97, 109, 101]), (.str [121])])]),
  (.tup [(.str [117, 115, 101]), (.tup [(.str [98])]), (.str [102])]),
  (.tup [(.str [108, 101, 116]), (.str [121]), (.tup [(.str [110, 97, 109, 101]), (.str [97])])])]
def exB : List D := [(.tup [(.str [111, 117, 116, 101, 114]), (.tup [(.str [103])])]),
  (.tup [(.str [116, 111, 112]), (.tup [(.str [120]), (.str [122])])]),
  (.tup [(.str [116, 111, 112]), (.tup [(.str [121])])]),
  (.tup [(.str [116, 111, 112]), (.tup [(.str [102]), (.str [97])])])]
def shows : List D := [(.tup [(.str [115, 104, 111, 119]), (.tup [(.str [120])])]),
  (.tup [(.str [115, 104, 111, 119]), (.tup [(.str [120]), (.str [121])])]),
  (.tup [(.str [115, 104, 111, 119]), (.tup [(.str [98]), (.str [120])])])]
def hides : List D := [(.tup [(.str [104, 105, 100, 101]), (.tup [(.str [122])])]),
  (.tup [(.str [104, 105, 100, 101]), (.tup [(.str [102]), (.str [122])])])]
abbrev letN (v n : D) : D := .tup [.str [108, 101, 116], v, .tup [.str [110, 117, 109], n]]
def lets (n : Int) : List D := [letN (.str [120]) (.int n), letN (.str [121]) (.int n), letN (.str [122]) (.int n)]
def U (n : Int) : List D := menuP ++ (lets n ++ (blkR ++ (exA ++ (exB ++ (shows ++ hides)))))
theorem menu_ok (k : Nat) : M (k + 3) 30 [] = some (.lst menu) := by kernel_rfl
def wF (r : D) : List Nat := match dIdx r (.int 0) with | some (.str w) => w | _ => []
def unS : List D → List (List Nat)
  | [] => []
  | .str s :: l => s :: unS l
  | _ :: l => unS l
def strL : Option D → List (List Nat)
  | some (.lst l) => unS l
  | some (.tup l) => unS l
  | _ => []
def nbF (r : D) : List (List Nat) := strL (M 9 15 [r])
def esF (r : D) : List D := match M 9 27 [r] with | some (.lst l) => l | _ => []
def nmF (e : D) : List D := sL (strL (M 9 26 [e]))
def nsF (r : D) : List (List Nat) := (esF r).flatMap fun e => strL (M 9 26 [e])
def lastAt (r : D) (a : O) : O := match atsF [none, none, none, none, some (false, r)] with | some l => (match l.getLast? with | some d => some (false, d) | none => a) | none => a
def okS (s : List Nat) : Bool := s.all (· < 1114112)
def okr (r : D) : Bool := okS (wF r) && (nbF r).all okS && (nsF r).all okS && decide ((nbF r).length ≤ 3) && decide ((nsF r).length ≤ 4)
theorem c_0 (n : Int) : (U n).map (fun r => dIdx r (.int 0)) = (U n).map fun r => some (S (wF r)) := by kernel_rfl
theorem c_wt (n : Int) : (U n).map (fun r => cmpd .isIn (S (wF r)) wt) = (U n).map fun r => some (.bl false) := by kernel_rfl
theorem c_db (n : Int) : (U n).map (fun r => cmpd .isIn (S (wF r)) db) = (U n).map fun r => some (.bl false) := by kernel_rfl
theorem c_df (n : Int) : (U n).map (fun r => cmpd .eq (S (wF r)) (S [100, 101, 102])) = (U n).map fun r => some (.bl false) := by kernel_rfl
theorem c_bx (n : Int) : (U n).map (fun r => cmpd .eq (S (wF r)) (S [98, 111, 120])) = (U n).map fun r => some (.bl false) := by kernel_rfl
theorem c_15 (n : Int) (k : Nat) : (U n).map (fun r => M (k + 9) 15 [r]) = (U n).map fun r => some (.lst (sL (nbF r))) := by kernel_rfl
theorem c_33 (n : Int) (k : Nat) : (U n).map (fun r => M (k + 9) 33 [r]) = (U n).map fun r => some (.lst (sL (nbF r))) := by kernel_rfl
theorem c_27 (n : Int) (k : Nat) : (U n).map (fun r => M (k + 9) 27 [r]) = (U n).map fun r => some (.lst (esF r)) := by kernel_rfl
theorem c_26 (n : Int) (k : Nat) : (U n).map (fun r => (esF r).map fun e => M (k + 9) 26 [e]) = (U n).map fun r => (esF r).map fun e => some (.lst (nmF e)) := by kernel_rfl
theorem c_18 (n : Int) (k : Nat) : (U n).map (fun r => M (k + 9) 18 [r]) = (U n).map fun r => some (.lst []) := by kernel_rfl
theorem c_ok (n : Int) : (U n).map okr = (U n).map fun _ => true := by kernel_rfl
theorem c_ln (n : Int) (k : Nat) (t ar tl fd a b c d e : O) : (U n).map (fun r => vFor atsF [] (.nm 6) (d__law_reads_f2 (M (k + 9))) [t, ar, tl, fd, some (false, r), some (true, .lst []), a, b, c, d, e]) = (U n).map fun r => some (.nx [t, ar, tl, fd, some (false, r), some (true, .lst (sL (nsF r))), lastAt r a, b, c, d, e]) := by kernel_rfl
end K04
end
section
set_option Elab.async false
set_option linter.all false
set_option maxRecDepth 100000
set_option maxHeartbeats 4000000
/-! K04W: plain rows, and blocks of them. -/
namespace K04
open PD
theorem mapE {α β : Type} {f g : α → β} {l : List α} (h : l.map f = l.map g) : ∀ r ∈ l, f r = g r := List.map_inj_left.1 h
structure Cm (r : D) : Prop where
  h0 : dIdx r (.int 0) = some (S (wF r))
  wt : cmpd .isIn (S (wF r)) wt = some (.bl false)
  db : cmpd .isIn (S (wF r)) db = some (.bl false)
  df : cmpd .eq (S (wF r)) (S [100, 101, 102]) = some (.bl false)
  bx : cmpd .eq (S (wF r)) (S [98, 111, 120]) = some (.bl false)
  h15 : ∀ k, M (k + 9) 15 [r] = some (.lst (sL (nbF r)))
  h33 : ∀ k, M (k + 9) 33 [r] = some (.lst (sL (nbF r)))
  h27 : ∀ k, M (k + 9) 27 [r] = some (.lst (esF r))
  h26 : ∀ k, ∀ e ∈ esF r, M (k + 9) 26 [e] = some (.lst (nmF e))
  h18 : ∀ k, M (k + 9) 18 [r] = some (.lst [])
  ln : ∀ k, LNok (k + 9) r (nsF r)
  ok : okr r = true
theorem cm (n : Int) : ∀ r ∈ U n, Cm r := fun r hr =>
  { h0 := mapE (c_0 n) r hr, wt := mapE (c_wt n) r hr, db := mapE (c_db n) r hr, df := mapE (c_df n) r hr, bx := mapE (c_bx n) r hr
    h15 := fun k => mapE (c_15 n k) r hr, h33 := fun k => mapE (c_33 n k) r hr, h27 := fun k => mapE (c_27 n k) r hr
    h26 := fun k => mapE (mapE (c_26 n k) r hr), h18 := fun k => mapE (c_18 n k) r hr
    ln := fun k t ar tl fd a b c d e => ⟨_, mapE (c_ln n k t ar tl fd a b c d e) r hr⟩, ok := mapE (c_ok n) r hr }
section
variable {r : D}
theorem Cm.okk (c : Cm r) : (Nm (wF r) ∧ (∀ s ∈ nbF r, Nm s) ∧ ∀ s ∈ nsF r, Nm s) ∧ (nbF r).length ≤ 3 ∧ (nsF r).length ≤ 4 := by
  have h := c.ok
  unfold okr at h
  simp only [Bool.and_eq_true, decide_eq_true_eq, List.all_eq_true] at h
  obtain ⟨⟨⟨⟨h1, h2⟩, h3⟩, h4⟩, h5⟩ := h
  exact ⟨⟨h1, h2, h3⟩, h4, h5⟩
end
theorem sL_fm {l : List D} (h : D → List (List Nat)) : sL (l.flatMap h) = l.flatMap fun r => sL (h r) := by
  unfold sL; rw [List.map_flatMap]
theorem len_fm {α β : Type} {h : α → List β} {c : Nat} : ∀ {l : List α}, (∀ r ∈ l, (h r).length ≤ c) → (l.flatMap h).length ≤ c * l.length
  | [], _ => by simp
  | r :: l, hs => by
    have h1 := hs r (by simp)
    have h2 := len_fm (l := l) fun x hx => hs x (by simp [hx])
    rw [List.flatMap_cons, List.length_append, List.length_cons, Nat.mul_add]
    omega
def pk (os : List (List (List Nat))) (ts : List (List Nat)) : D → Bool
  | .str s => kb os ts s
  | _ => false
theorem fm_kp (os : List (List (List Nat))) (ts : List (List Nat)) : ∀ (ns : List (List Nat)), (sL ns).flatMap (kp (pk os ts)) = sL (ns.filter (kb os ts))
  | [] => rfl
  | s :: ns => by
    rw [show sL (s :: ns) = D.str s :: sL ns from rfl, List.flatMap_cons, fm_kp os ts ns, List.filter_cons]
    show (if kb os ts s then [D.str s] else []) ++ _ = _
    split <;> rfl
abbrev eL (os : List (List (List Nat))) : D := .lst (encO os)
abbrev lL (ts : List (List Nat)) : D := .lst (sL ts)
def NmO (q : Nat) (os : List (List (List Nat))) : Prop := (∀ o ∈ os, ∀ s ∈ o, Nm s) ∧ os.length ≤ q ∧ q ≤ 1000
theorem NmO.z {q : Nat} {os : List (List (List Nat))} (h : NmO q os) : os.length ≤ lim := by have := h.2; unfold lim; omega
theorem NmO.z1 {q : Nat} {os : List (List (List Nat))} (h : NmO q os) : os.length + 1 ≤ lim := by have := h.2; unfold lim; omega
theorem es_ns (r : D) : (esF r).flatMap nmF = sL (nsF r) := by unfold nsF nmF sL; rw [List.map_flatMap]
theorem es_len {r : D} (c : Cm r) : ((esF r).flatMap nmF).length ≤ lim := by rw [es_ns, List.length_map]; have := c.okk.2.2; unfold lim; omega
theorem keep_pk {q : Nat} {os : List (List (List Nat))} {ts : List (List Nat)} (ho : NmO q os) (ns : List (List Nat)) : ∀ n ∈ sL ns, keepT (eL os) (lL ts) n = some (.bl (pk os ts n)) := fun n hn => by
  obtain ⟨s, hs, rfl⟩ := List.mem_map.1 hn
  exact keepT_kb ho.1 ho.z
theorem cm_nr {q : Nat} {r : D} {os : List (List (List Nat))} {ts : List (List Nat)} {k : Nat} (c : Cm r) (ho : NmO q os) : NRok (k + 9) (eL os) (lL ts) r (sL ((nsF r).filter (kb os ts))) := by
  have z := nr_plain (k := k + 9) (dl := eL os) (tl := lL ts) (r := r) (w := wF r) (es := esF r) (bs := []) (gs := []) (nm := nmF) (p := pk os ts) c.h0 c.df (c.h27 k) (c.h26 k) (es_len c) (by rw [es_ns]; exact keep_pk ho _) (c.h18 k) .nil
  rwa [List.append_nil, es_ns, fm_kp] at z
theorem cm_lr {r : D} {os : List (List (List Nat))} {ts : List (List Nat)} {k : Nat} (c : Cm r) (ho : os.length ≤ lim) : LRok (k + 9) (eL os) (lL ts) r (sL ((nsF r).filter (kb os ts))) :=
  lr_plain c.h0 c.bx c.df (c.ln k) ho (by have := c.okk.2.2; unfold lim; omega)
theorem cm_fl {r : D} {k : Nat} (c : Cm r) : FLok k r [r] := fl_plain c.h0 c.wt
theorem cm_ct {r : D} {k : Nat} (c : Cm r) : CTok k r [] := ct_plain c.h0 c.db c.wt
theorem cm_mr {r : D} {k : Nat} (c : Cm r) : MRok (k + 9) r [] := ⟨[], c.h18 k, rfl⟩
/-! ### the pairs of names and words -/
def bmD (w : List Nat) (ts nb : List (List Nat)) : List D := (nb.filter fun s => ts.contains s).map fun s => .tup [S s, S w]
def pS (ts : List (List Nat)) : D → Bool
  | .str s => ts.contains s
  | _ => false
theorem bm_pS (w : List Nat) (ts : List (List Nat)) : ∀ nb, bm w (pS ts) (sL nb) = bmD w ts nb
  | [] => rfl
  | s :: nb => by
    have h := bm_pS w ts nb
    unfold bmD at h ⊢
    rw [show bm w (pS ts) (sL (s :: nb)) = bm w (pS ts) (D.str s :: sL nb) from rfl]
    unfold bm at h ⊢
    rw [List.filter_cons, List.filter_cons]
    show List.map _ (if ts.contains s = true then _ else _) = _
    split
    · rw [List.map_cons, List.map_cons, h]
    · exact h
theorem keepB_pS (ts : List (List Nat)) (nb : List (List Nat)) : ∀ n ∈ sL nb, keepB (lL ts) n = some (.bl (pS ts n)) := fun n hn => by
  obtain ⟨s, hs, rfl⟩ := List.mem_map.1 hn
  unfold keepB
  show cmpd .isIn (.str s) (.lst (sL ts)) = _
  exact in_lst s ts
theorem cm_lb {r : D} {ts : List (List Nat)} {k : Nat} (c : Cm r) : LBok (k + 9) (lL ts) r (bmD (wF r) ts (nbF r)) := by
  rw [← bm_pS]
  exact lb_plain c.h0 c.df c.bx (c.h33 k) (by rw [List.length_map]; have := c.okk.2.1; unfold lim; omega) (keepB_pS ts _)
/-- at the module's own block: all names -/
theorem keepB_non (n : D) : keepB .non n = some (.bl true) := rfl
def bmA (w : List Nat) (nb : List (List Nat)) : List D := nb.map fun s => .tup [S s, S w]
theorem bm_true (w : List Nat) (nb : List (List Nat)) : bm w (fun _ => true) (sL nb) = bmA w nb := by
  unfold bm bmA sL; rw [List.filter_eq_self.2 (by simp), List.map_map]; rfl
theorem cm_lb0 {r : D} {k : Nat} (c : Cm r) : LBok (k + 9) .non r (bmA (wF r) (nbF r)) := by
  rw [← bm_true]
  exact lb_plain c.h0 c.df c.bx (c.h33 k) (by rw [List.length_map]; have := c.okk.2.1; unfold lim; omega) (fun n _ => keepB_non n)
theorem cm_mb {r : D} {k : Nat} (c : Cm r) (h25 : M (k + 9) 25 [r] = some (.lst [])) : MBok (k + 9) r (bmA (wF r) (nbF r)) := by
  have z := mb_plain (k := k + 9) c.h0 c.wt (c.h15 k) h25 (by rw [List.length_map]; have := c.okk.2.1; unfold lim; omega)
  rw [List.append_nil] at z
  unfold sL at z; rw [List.map_map] at z
  exact z
theorem cm_rt {r tps : D} {k : Nat} (c : Cm r) : RTok k tps r [.tup [r, tps]] := rt_plain c.h0 c.db
theorem cm_bt {r : D} {ts : List (List Nat)} {k : Nat} (c : Cm r) : BTok (k + 9) (.tup [r, lL ts]) (bmD (wF r) ts (nbF r)) :=
  ⟨r, sL ts, sL (nbF r), wF r, pS ts, rfl, c.h0, c.h15 k, fun n hn => by
    obtain ⟨s, hs, rfl⟩ := List.mem_map.1 hn
    exact in_lst s ts, (bm_pS _ _ _).symm⟩
/-! ### plain rows within defs -/
def nst (r : D) : Bool := match dIdx r (.int 0), dIdx r (.int 3) with | some (.str w), some (.str [42]) => !(w == [102, 114, 111, 109]) | _, _ => true
def menuQ : List D := menuP.filter nst
def smp : List D := menuQ ++ (exA ++ exB)
abbrev wTop : List Nat := [116, 111, 112]
abbrev wOut : List Nat := [111, 117, 116, 101, 114]
def isO (r : D) : Bool := !(wF r == wTop || wF r == wOut)
def td (w : List Nat) (r : D) : List (List Nat) := if wF r == w then strL (dIdx r (.int 1)) else []
theorem s_p (n : Nat) : smp.map (fun r => pln (n + 10) r) = smp.map fun _ => true := by kernel_rfl
theorem s_cR : smp.map (fun r => condR 0 r) = smp.map fun _ => some (.bl true) := by kernel_rfl
theorem s_bR : smp.map (fun r => blR r) = smp.map fun _ => some [] := by kernel_rfl
theorem s_cO (k : Nat) : smp.map (fun r => condO (k + 9) r) = smp.map fun r => some (.bl (isO r)) := by kernel_rfl
theorem s_nb : smp.map (fun r => isO r || (nbF r).isEmpty) = smp.map fun _ => true := by kernel_rfl
theorem s_10 (k : Nat) (dp df ow : D) : smp.map (fun r => M (k + 9) 10 [r, .ins 0 [dp, S [100, 101, 102], df, ow]]) = smp.map fun _ => some (.bl true) := by kernel_rfl
theorem s_t1 : smp.map (fun r => condT wTop r) = smp.map fun r => some (.bl (wF r == wTop)) := by kernel_rfl
theorem s_t2 : smp.map (fun r => condT wOut r) = smp.map fun r => some (.bl (wF r == wOut)) := by kernel_rfl
theorem s_e1 : smp.map (fun r => cmpd .eq (S (wF r)) (S wTop)) = smp.map fun r => some (.bl (wF r == wTop)) := by kernel_rfl
theorem s_e2 : smp.map (fun r => cmpd .eq (S (wF r)) (S wOut)) = smp.map fun r => some (.bl (wF r == wOut)) := by kernel_rfl
theorem s_i1 : smp.map (fun r => if wF r == wTop || wF r == wOut then dIdx r (.int 1) else some (.tup (sL (strL (dIdx r (.int 1)))))) = smp.map fun r => some (.tup (sL (strL (dIdx r (.int 1))))) := by kernel_rfl
theorem s_tz : smp.map (fun r => decide ((strL (dIdx r (.int 1))).length ≤ 3)) = smp.map fun _ => true := by kernel_rfl
theorem smp_U : ∀ r ∈ smp, r ∈ U 0 := fun r hr => by
  unfold smp at hr; unfold U
  simp only [List.mem_append] at hr ⊢
  rcases hr with h | h | h
  · exact Or.inl (List.mem_filter.1 h).1
  · exact Or.inr (Or.inr (Or.inr (Or.inl h)))
  · exact Or.inr (Or.inr (Or.inr (Or.inr (Or.inl h))))
structure Smp (r : D) : Prop where
  c : Cm r
  p : ∀ n, pln (n + 10) r = true
  rb : ∀ k, RBok k 0 r [r]
  ow : ∀ k, OWok (k + 9) r (nbF r)
  ir : ∀ k dp df ow, M (k + 9) 10 [r, .ins 0 [dp, S [100, 101, 102], df, ow]] = some (.bl true)
  tn : ∀ k w, w = wTop ∨ w = wOut → TNok k w r (sL (td w r))
  te : ∀ k w, w = wTop ∨ w = wOut → TEok k w r (sL (td w r))
  tz : ∀ w, (td w r).length ≤ 3
theorem smp_ok : ∀ r ∈ smp, Smp r := fun r hr => by
  have c := cm 0 r (smp_U r hr)
  have i1 := mapE s_i1 r hr
  have tz : (strL (dIdx r (.int 1))).length ≤ 3 := by have := mapE s_tz r hr; simpa using this
  refine ⟨c, fun n => mapE (s_p n) r hr, fun k => ?_, fun k => ?_, fun k dp df ow => mapE (s_10 k dp df ow) r hr, fun k w hw => ?_, fun k w hw => ?_, fun w => ?_⟩
  · exact rb_row (bs := []) (gs := []) (mapE s_cR r hr) (mapE s_bR r hr) .nil
  · have h := mapE (s_cO k) r hr
    have h2 := mapE s_nb r hr
    cases ho : isO r with
    | true => rw [ho] at h; exact ow_yes h (c.h15 k)
    | false =>
      rw [ho] at h h2
      have h3 : nbF r = [] := by simpa using h2
      rw [h3]
      exact ow_no h
  · have h : condT w r = some (.bl (wF r == w)) := hw.elim (fun e => e ▸ mapE s_t1 r hr) (fun e => e ▸ mapE s_t2 r hr)
    unfold td
    cases hb : wF r == w with
    | false => rw [hb] at h; rw [if_neg (by simp)]; exact tn_no h
    | true =>
      rw [hb] at h; rw [if_pos rfl]
      have i2 : dIdx r (.int 1) = some (.tup (sL (strL (dIdx r (.int 1))))) := by
        rw [if_pos (by rcases hw with rfl | rfl <;> simp [hb])] at i1; exact i1
      exact tn_yes h i2 (by rw [List.length_map]; unfold lim; omega)
  · have h : cmpd .eq (S (wF r)) (S w) = some (.bl (wF r == w)) := hw.elim (fun e => e ▸ mapE s_e1 r hr) (fun e => e ▸ mapE s_e2 r hr)
    unfold td
    cases hb : wF r == w with
    | false => rw [hb] at h; rw [if_neg (by simp)]; exact te_no c.h0 h
    | true =>
      rw [hb] at h; rw [if_pos rfl]
      have i2 : dIdx r (.int 1) = some (.tup (sL (strL (dIdx r (.int 1))))) := by
        rw [if_pos (by rcases hw with rfl | rfl <;> simp [hb])] at i1; exact i1
      exact te_yes c.h0 h i2 (by rw [List.length_map]; unfold lim; omega)
  · unfold td; split
    · exact tz
    · simp
end K04
end
section
set_option Elab.async false
set_option linter.all false
set_option maxRecDepth 100000
set_option maxHeartbeats 4000000
/-! K04X: blocks of rows, and what a def of a block tells. -/
namespace K04
open PD
abbrev Nms := List (List Nat)
def Pr (d : D) : Prop := ∃ a b, d = .tup [S a, S b] ∧ Nm a ∧ Nm b
structure Body (N q c : Nat) (l fl : List D) (ns : List Int) (nbs t1 t2 : Nms) (RD : List Nms → Nms → Nms) (PR BD : Nms → List D) : Prop where
  rb : ∀ k, Acc (RBok (k + N) 0) l fl
  flt : ∀ k, Acc (FLok (k + N)) l fl
  nr : ∀ k os ts, NmO q os → Acc (NRok (k + N) (eL os) (lL ts)) l (sL (RD os ts))
  lr : ∀ k os ts, os.length ≤ q → q ≤ 1000 → Acc (LRok (k + N) (eL os) (lL ts)) fl (sL (RD os ts))
  mr : ∀ k, Acc (MRok (k + N)) l ns
  ct : ∀ k, Acc (CTok (k + N)) l ns
  ow : ∀ k, Acc (OWok (k + N)) fl nbs
  h33 : ∀ k, Acc (fun r (nb : Nms) => M (k + N) 33 [r] = some (.lst (sL nb))) fl nbs
  tn1 : ∀ k, Acc (TNok (k + N) wTop) fl (sL t1)
  tn2 : ∀ k, Acc (TNok (k + N) wOut) fl (sL t2)
  te1 : ∀ k, Acc (TEok (k + N) wTop) fl (sL t1)
  te2 : ∀ k, Acc (TEok (k + N) wOut) fl (sL t2)
  rt : ∀ k ts, Acc (RTok (k + N) (lL ts)) fl (PR ts)
  bt : ∀ k ts, Acc (BTok (k + N)) (PR ts) (BD ts)
  lb : ∀ k ts, Acc (LBok (k + N) (lL ts)) fl (BD ts)
  sz : fl.length ≤ c ∧ ns.length ≤ c ∧ nbs.length ≤ c ∧ t1.length ≤ c ∧ t2.length ≤ c ∧ (∀ os ts, (RD os ts).length ≤ c) ∧ ∀ ts, (PR ts).length ≤ c ∧ (BD ts).length ≤ c
  nm : (∀ s ∈ nbs, Nm s) ∧ (∀ os ts, ∀ s ∈ RD os ts, Nm s) ∧ ∀ ts, ∀ d ∈ BD ts, Pr d
  al : ∀ os os' ts, Alike os os' → RD os ts = RD os' ts
theorem Body.app {N q c c' : Nat} {l fl l' fl' : List D} {ns ns' : List Int} {nbs t1 t2 nbs' t1' t2' : Nms} {RD RD' : List Nms → Nms → Nms} {PR BD PR' BD' : Nms → List D} (a : Body N q c l fl ns nbs t1 t2 RD PR BD) (b : Body N q c' l' fl' ns' nbs' t1' t2' RD' PR' BD') :
    Body N q (c + c') (l ++ l') (fl ++ fl') (ns ++ ns') (nbs ++ nbs') (t1 ++ t1') (t2 ++ t2') (fun os ts => RD os ts ++ RD' os ts) (fun ts => PR ts ++ PR' ts) (fun ts => BD ts ++ BD' ts) where
  rb k := (a.rb k).app (b.rb k)
  flt k := (a.flt k).app (b.flt k)
  nr k os ts h := by rw [sL_app]; exact (a.nr k os ts h).app (b.nr k os ts h)
  lr k os ts h h' := by rw [sL_app]; exact (a.lr k os ts h h').app (b.lr k os ts h h')
  mr k := (a.mr k).app (b.mr k)
  ct k := (a.ct k).app (b.ct k)
  ow k := (a.ow k).app (b.ow k)
  h33 k := (a.h33 k).app (b.h33 k)
  tn1 k := by rw [sL_app]; exact (a.tn1 k).app (b.tn1 k)
  tn2 k := by rw [sL_app]; exact (a.tn2 k).app (b.tn2 k)
  te1 k := by rw [sL_app]; exact (a.te1 k).app (b.te1 k)
  te2 k := by rw [sL_app]; exact (a.te2 k).app (b.te2 k)
  rt k ts := (a.rt k ts).app (b.rt k ts)
  bt k ts := (a.bt k ts).app (b.bt k ts)
  lb k ts := (a.lb k ts).app (b.lb k ts)
  sz := by
    obtain ⟨h1, h2, h3, h4, h5, h6, h7⟩ := a.sz
    obtain ⟨g1, g2, g3, g4, g5, g6, g7⟩ := b.sz
    simp only [List.length_append]
    exact ⟨by omega, by omega, by omega, by omega, by omega, fun os ts => by have := h6 os ts; have := g6 os ts; omega, fun ts => by have := h7 ts; have := g7 ts; omega⟩
  nm := by
    obtain ⟨h1, h2, h3⟩ := a.nm
    obtain ⟨g1, g2, g3⟩ := b.nm
    refine ⟨fun s hs => ?_, fun os ts s hs => ?_, fun ts d hd => ?_⟩
    · rcases List.mem_append.1 hs with h | h; exact h1 s h; exact g1 s h
    · rcases List.mem_append.1 hs with h | h; exact h2 os ts s h; exact g2 os ts s h
    · rcases List.mem_append.1 hd with h | h; exact h3 ts d h; exact g3 ts d h
  al os os' ts h := by rw [a.al os os' ts h, b.al os os' ts h]
theorem Body.up {N N' q c c' : Nat} {l fl : List D} {ns : List Int} {nbs t1 t2 : Nms} {RD : List Nms → Nms → Nms} {PR BD : Nms → List D} (a : Body N q c l fl ns nbs t1 t2 RD PR BD) (h : N ≤ N') (hc : c ≤ c') : Body N' q c' l fl ns nbs t1 t2 RD PR BD := by
  have e : ∀ k, k + N' = (k + (N' - N)) + N := fun k => by omega
  exact { rb := fun k => by rw [e]; exact a.rb _, flt := fun k => by rw [e]; exact a.flt _, nr := fun k os ts h => by rw [e]; exact a.nr _ os ts h, lr := fun k os ts h h' => by rw [e]; exact a.lr _ os ts h h'
          mr := fun k => by rw [e]; exact a.mr _, ct := fun k => by rw [e]; exact a.ct _, ow := fun k => by rw [e]; exact a.ow _, h33 := fun k => by rw [e]; exact a.h33 _
          tn1 := fun k => by rw [e]; exact a.tn1 _, tn2 := fun k => by rw [e]; exact a.tn2 _, te1 := fun k => by rw [e]; exact a.te1 _, te2 := fun k => by rw [e]; exact a.te2 _
          rt := fun k ts => by rw [e]; exact a.rt _ ts, bt := fun k ts => by rw [e]; exact a.bt _ ts, lb := fun k ts => by rw [e]; exact a.lb _ ts
          sz := by
            obtain ⟨h1, h2, h3, h4, h5, h6, h7⟩ := a.sz
            exact ⟨by omega, by omega, by omega, by omega, by omega, fun os ts => by have := h6 os ts; omega, fun ts => by have := h7 ts; omega⟩
          nm := a.nm, al := a.al }
theorem fm_one {l : List D} : l.flatMap (fun r => [r]) = l := by induction l with | nil => rfl | cons a l ih => rw [List.flatMap_cons, ih]; rfl
theorem fm_nil {α β : Type} {l : List α} : l.flatMap (fun _ => ([] : List β)) = [] := by induction l with | nil => rfl | cons a l ih => rw [List.flatMap_cons, ih]; rfl
theorem bmD_len (w : List Nat) (ts nb : Nms) : (bmD w ts nb).length ≤ nb.length := by unfold bmD; rw [List.length_map]; exact List.length_filter_le _ _
theorem bmD_pr {w : List Nat} {ts nb : Nms} (hw : Nm w) (hn : ∀ s ∈ nb, Nm s) : ∀ d ∈ bmD w ts nb, Pr d := fun d hd => by
  unfold bmD at hd
  obtain ⟨s, hs, rfl⟩ := List.mem_map.1 hd
  exact ⟨s, w, rfl, hn s (List.mem_filter.1 hs).1, hw⟩
/-- a block of plain rows -/
theorem body_smp {q : Nat} {l : List D} (h : ∀ r ∈ l, Smp r) : Body 9 q (4 * l.length) l l [] (l.flatMap nbF) (l.flatMap (td wTop)) (l.flatMap (td wOut)) (fun os ts => l.flatMap fun r => (nsF r).filter (kb os ts)) (fun ts => l.flatMap fun r => [.tup [r, lL ts]]) (fun ts => l.flatMap fun r => bmD (wF r) ts (nbF r)) where
  rb k := by have z := Acc.all (P := RBok (k + 9) 0) (h := fun r => [r]) fun r hr => (h r hr).rb _; rwa [fm_one] at z
  flt k := by have z := Acc.all (P := FLok (k + 9)) (h := fun r => [r]) fun r hr => cm_fl (h r hr).c; rwa [fm_one] at z
  nr k os ts ho := by rw [sL_fm]; exact Acc.all fun r hr => cm_nr (h r hr).c ho
  lr k os ts ho hq := by rw [sL_fm]; exact Acc.all fun r hr => cm_lr (h r hr).c (by unfold lim; omega)
  mr k := by have z := Acc.all (P := MRok (k + 9)) (h := fun _ => []) fun r hr => cm_mr (h r hr).c; rwa [fm_nil] at z
  ct k := by have z := Acc.all (P := CTok (k + 9)) (h := fun _ => []) fun r hr => cm_ct (h r hr).c; rwa [fm_nil] at z
  ow k := Acc.all fun r hr => (h r hr).ow k
  h33 k := Acc.all fun r hr => (h r hr).c.h33 k
  tn1 k := by rw [sL_fm]; exact Acc.all fun r hr => (h r hr).tn _ _ (Or.inl rfl)
  tn2 k := by rw [sL_fm]; exact Acc.all fun r hr => (h r hr).tn _ _ (Or.inr rfl)
  te1 k := by rw [sL_fm]; exact Acc.all fun r hr => (h r hr).te _ _ (Or.inl rfl)
  te2 k := by rw [sL_fm]; exact Acc.all fun r hr => (h r hr).te _ _ (Or.inr rfl)
  rt k ts := Acc.all fun r hr => cm_rt (h r hr).c
  bt k ts := by
    induction l with
    | nil => exact .nil
    | cons r l ih =>
      rw [List.flatMap_cons, List.flatMap_cons]
      exact (Acc.one (cm_bt (h r (by simp)).c)).app (ih fun x hx => h x (by simp [hx]))
  lb k ts := Acc.all fun r hr => cm_lb (h r hr).c
  sz := by
    have e1 := len_fm (h := nbF) (c := 4) (l := l) fun r hr => by have := (h r hr).c.okk.2.1; omega
    have e2 := len_fm (h := td wTop) (c := 4) (l := l) fun r hr => by have := (h r hr).tz wTop; omega
    have e3 := len_fm (h := td wOut) (c := 4) (l := l) fun r hr => by have := (h r hr).tz wOut; omega
    refine ⟨by omega, by simp, e1, e2, e3, fun os ts => ?_, fun ts => ⟨?_, ?_⟩⟩
    · exact len_fm fun r hr => Nat.le_trans (List.length_filter_le _ _) (h r hr).c.okk.2.2
    · exact len_fm fun r hr => by simp
    · exact len_fm fun r hr => Nat.le_trans (bmD_len _ _ _) (by have := (h r hr).c.okk.2.1; omega)
  nm := by
    refine ⟨fun s hs => ?_, fun os ts s hs => ?_, fun ts d hd => ?_⟩
    · obtain ⟨r, hr, hs⟩ := List.mem_flatMap.1 hs; exact (h r hr).c.okk.1.2.1 s hs
    · obtain ⟨r, hr, hs⟩ := List.mem_flatMap.1 hs; exact (h r hr).c.okk.1.2.2 s (List.mem_filter.1 hs).1
    · obtain ⟨r, hr, hs⟩ := List.mem_flatMap.1 hd; exact bmD_pr (h r hr).c.okk.1.1 (h r hr).c.okk.1.2.1 d hs
  al os os' ts ha := by rw [ha.kb ts]
/-! ### what a block tells, whole -/
section
variable {N q c : Nat} {l fl : List D} {ns : List Int} {nbs t1 t2 : Nms} {RD : List Nms → Nms → Nms} {PR BD : Nms → List D}
theorem Body.z13 (b : Body N q c l fl ns nbs t1 t2 RD PR BD) (hc : c ≤ 20000) (k : Nat) : M (k + (N + 1)) 13 [.tup l, .int 0] = some (.lst fl) := rb_list (k := k + N) (b.rb k) (by have := b.sz.1; unfold lim; omega)
theorem Body.z34 (b : Body N q c l fl ns nbs t1 t2 RD PR BD) (hc : c ≤ 20000) (k : Nat) : M (k + (N + 1)) 34 [.tup l] = some (.lst fl) := fl_list (k := k + N) (b.flt k) (by have := b.sz.1; unfold lim; omega)
theorem up1 {N k : Nat} : k + (N + 1) = (k + 1) + N := by omega
theorem up2 {N k : Nat} : k + (N + 2) = (k + 2) + N := by omega
theorem Body.z14a (b : Body N q c l fl ns nbs t1 t2 RD PR BD) (hc : c ≤ 20000) (k : Nat) : M (k + (N + 2)) 14 [.tup l, S wTop] = some (.lst (sL t1)) :=
  tn_list (k := k + (N + 1)) (b.z13 hc k) (by rw [up1]; exact b.tn1 _) (by have := b.sz; rw [List.length_map]; unfold lim; omega)
theorem Body.z14b (b : Body N q c l fl ns nbs t1 t2 RD PR BD) (hc : c ≤ 20000) (k : Nat) : M (k + (N + 2)) 14 [.tup l, S wOut] = some (.lst (sL t2)) :=
  tn_list (k := k + (N + 1)) (b.z13 hc k) (by rw [up1]; exact b.tn2 _) (by have := b.sz; rw [List.length_map]; unfold lim; omega)
theorem Body.z35a (b : Body N q c l fl ns nbs t1 t2 RD PR BD) (hc : c ≤ 20000) (k : Nat) : M (k + (N + 2)) 35 [.tup l, S wTop] = some (.lst (sL t1)) :=
  te_list (k := k + (N + 1)) (b.z34 hc k) (by rw [up1]; exact b.te1 _) (by have := b.sz; rw [List.length_map]; unfold lim; omega)
theorem Body.z35b (b : Body N q c l fl ns nbs t1 t2 RD PR BD) (hc : c ≤ 20000) (k : Nat) : M (k + (N + 2)) 35 [.tup l, S wOut] = some (.lst (sL t2)) :=
  te_list (k := k + (N + 1)) (b.z34 hc k) (by rw [up1]; exact b.te2 _) (by have := b.sz; rw [List.length_map]; unfold lim; omega)
theorem Body.z16 (b : Body N q c l fl ns nbs t1 t2 RD PR BD) (hc : c ≤ 20000) (k : Nat) {gs : Nms} (hg : gs.length ≤ 10) : ∃ ol, M (k + (N + 3)) 16 [.tup (sL gs), .tup l] = some (.lst (sL ol)) ∧ OwnIs ol (gs ++ nbs) (t1 ++ t2) :=
  own_ok (k := k + (N + 2)) (by have := b.z13 hc (k + 1); rwa [show k + 1 + (N + 1) = k + (N + 2) by omega] at this) (by rw [up2]; exact b.ow _) (b.z14a hc k) (b.z14b hc k) (by have := b.sz; rw [List.length_append]; unfold lim; omega) (by have := b.sz; rw [List.length_append]; unfold lim; omega)
theorem Body.z28 (b : Body N q c l fl ns nbs t1 t2 RD PR BD) (hc : c ≤ 20000) (k : Nat) {os : List Nms} {ts : Nms} (ho : NmO q os) : M (k + (N + 1)) 28 [.tup l, eL os, lL ts] = some (lL (RD os ts)) :=
  nr_list (k := k + N) (b.nr k os ts ho) (by have := b.sz.2.2.2.2.2.1 os ts; rw [List.length_map]; unfold lim; omega)
theorem Body.z38 (b : Body N q c l fl ns nbs t1 t2 RD PR BD) (hc : c ≤ 20000) (k : Nat) {os : List Nms} {ts : Nms} (ho : os.length ≤ q) (hq : q ≤ 1000) : M (k + (N + 2)) 38 [.tup l, eL os, lL ts] = some (lL (RD os ts)) :=
  lr_list (k := k + (N + 1)) (b.z34 hc k) (by rw [up1]; exact b.lr _ os ts ho hq) (by have := b.sz.2.2.2.2.2.1 os ts; rw [List.length_map]; unfold lim; omega)
theorem Body.z19 (b : Body N q c l fl ns nbs t1 t2 RD PR BD) (hc : c ≤ 20000) (k : Nat) : M (k + (N + 1)) 19 [.tup l] = some (.int (l.length + ns.sum)) := mr_list (k := k + N) (b.mr k) (by have := b.sz.2.1; unfold lim; omega)
theorem Body.z40 (b : Body N q c l fl ns nbs t1 t2 RD PR BD) (k : Nat) : M (k + (N + 1)) 40 [.tup l] = some (.int (l.length + ns.sum)) := ct_list (k := k + N) (b.ct k)
theorem Body.z36 (b : Body N q c l fl ns nbs t1 t2 RD PR BD) (hc : c ≤ 20000) (k : Nat) {ts : Nms} : M (k + (N + 2)) 36 [.tup l, lL ts] = some (.lst (BD ts)) :=
  lb_list (k := k + (N + 1)) (b.z34 hc k) (by rw [up1]; exact b.lb _ ts) (by have := (b.sz.2.2.2.2.2.2 ts).2; unfold lim; omega)
end
end K04
end
section
set_option Elab.async false
set_option linter.all false
set_option maxRecDepth 100000
set_option maxHeartbeats 4000000
/-! K04Y: a def, a when as rows of a block. -/
namespace K04
open PD
theorem fz {a b i : Nat} {ds : List D} {x : Option D} (h : M a i ds = x) (e : a = b) : M b i ds = x := e ▸ h
def ownL (gs nbs t1 t2 : Nms) : Nms := (gs ++ nbs).filter fun s => !(t1 ++ t2).contains s
theorem own_al {ol gs nbs t1 t2 : Nms} (h : OwnIs ol (gs ++ nbs) (t1 ++ t2)) (s : List Nat) : s ∈ ol ↔ s ∈ ownL gs nbs t1 t2 := by
  unfold ownL
  rw [h.2 s, List.mem_filter]
  simp [List.contains_iff_mem]
abbrev wDef : List Nat := [100, 101, 102]
theorem nm_def : Nm wDef := by unfold Nm; decide
theorem al_refl : ∀ (os : List Nms), Alike os os
  | [] => .nil
  | _ :: os => .cons (fun _ => Iff.rfl) (al_refl os)
theorem al_len {os os' : List Nms} (h : Alike os os') : os.length = os'.length := by
  induction h with
  | nil => rfl
  | cons _ _ ih => simp [ih]
theorem m17_def {K : Nat} {nm gv bd : D} (h7 : M K 7 [rDef nm gv bd, .non] = some (.bl true)) : M (K + 1) 17 [rDef nm gv bd] = some (.bl true) := by
  show ((d_is_plain_or_named (M K) (startE 1 [rDef nm gv bd])).bind fun o => match o with | .nx _ => if false then none else some .non | .rt d => some d) = _
  unfold d_is_plain_or_named
  rw [q_seqR (d := .bl true) ?_]
  · rfl
  · refine (q_if (b := true) rfl).trans ?_
    exact q_seqR (q_ret h7)
theorem condO_def {K : Nat} {nm gv bd : D} (hp : pln 60 (rDef nm gv bd) = true) (h17 : M K 17 [rDef nm gv bd] = some (.bl true)) : condO K (rDef nm gv bd) = some (.bl true) := by
  unfold condO
  show ((cmpd .ne (rDef nm gv bd) (.tup [])).bind fun x => (truD x).bind fun k => if k then M K 17 [rDef nm gv bd] else some (D.bl false)) = _
  rw [ne_n hp]
  exact h17
theorem condR_def {nm gv bd : D} (hp : pln 60 (rDef nm gv bd) = true) : condR 0 (rDef nm gv bd) = some (.bl true) := by
  unfold condR
  show ((cmpd .ne (rDef nm gv bd) (.tup [])).bind fun x => (truD x).bind fun k => if k then some (D.bl true) else some (D.bl false)) = _
  rw [ne_n hp]; rfl
section
variable {N q c : Nat} {l fl : List D} {ns : List Int} {nbs t1 t2 : Nms} {RD : List Nms → Nms → Nms} {PR BD : Nms → List D}
theorem Body.z24 (b : Body N q c l fl ns nbs t1 t2 RD PR BD) (hc : c ≤ 20000) (k : Nat) {nm gv : D} : M (k + (N + 3)) 24 [rDef nm gv (.tup l)] = some (.lst (PR t1)) := by
  refine rt_row (k := k + (N + 2)) (w := wDef) (bd := .tup l) (tps := lL t1) (fl := fl) rfl rfl (fun t x y z u => ?_) rfl (fz (b.z13 hc (k + 1)) (by omega)) (by rw [up2]; exact b.rt _ t1) (by have := (b.sz.2.2.2.2.2.2 t1).1; unfold lim; omega)
  exact b.z14a hc k
/-- a def as a row -/
theorem body_def (b : Body N (q + 1) c l fl ns nbs t1 t2 RD PR BD) (hN : 9 ≤ N) (hc : c ≤ 20000) (hq : q + 1 ≤ 1000) {nm : List Nat} {gs : Nms} (hn : Nm nm) (hg : gs.length ≤ 10) (hgn : ∀ s ∈ gs, Nm s)
    (hp : pln 60 (rDef (S nm) (.tup (sL gs)) (.tup l)) = true) (h7 : ∀ k A, M (k + 8) 7 [rDef (S nm) (.tup (sL gs)) (.tup l), A] = some (.bl true)) :
    Body (N + 4) q (c + 1) [rDef (S nm) (.tup (sL gs)) (.tup l)] [rDef (S nm) (.tup (sL gs)) (.tup l)] [(l.length : Int) + ns.sum] [nm] [] [] (fun os _ => RD (ownL gs nbs t1 t2 :: os) t1) (fun ts => .tup [rDef (S nm) (.tup (sL gs)) (.tup l), lL ts] :: PR t1) (fun ts => bmD wDef ts [nm] ++ BD t1) where
  rb k := Acc.one (rb_row (bs := []) (gs := []) (condR_def hp) rfl .nil)
  flt k := Acc.one (fl_plain (w := wDef) rfl rfl)
  nr k os ts ho := by
    obtain ⟨ol, e1, e2⟩ := b.z16 hc (k + 1) hg
    have hol : NmO (q + 1) (ol :: os) := ⟨fun o h s hs => by
      rcases List.mem_cons.1 h with rfl | h
      · have := ((e2.2 s).1 hs).1
        rcases List.mem_append.1 this with h | h
        · exact hgn s h
        · exact b.nm.1 s h
      · exact ho.1 o h s hs, by have := ho.2.1; simp; omega, hq⟩
    have z := nr_def (k := k + (N + 4)) (dls := encO os) (tl := lL ts) (r := rDef (S nm) (.tup (sL gs)) (.tup l)) (gv := .tup (sL gs)) (bd := .tup l) (ol := lL ol) (tp := lL t1) (es := []) (m := sL (RD (ol :: os) t1)) (nm := fun _ => []) (p := fun _ => true) rfl rfl rfl rfl (fun _ h => by cases h) (Nat.zero_le _) (fun _ h => by cases h) (fz e1 (by omega)) (fz (b.z14a hc (k + 2)) (by omega)) (by rw [List.length_map]; exact ho.z1) (fz (b.z28 hc (k + 3) hol) (by omega))
    rw [b.al (ol :: os) (ownL gs nbs t1 t2 :: os) t1 (.cons (own_al e2) (al_refl os))] at z
    exact Acc.one z
  lr k os ts ho hq' := Acc.one (lr_def (by unfold lim; omega) (fz (b.z34 hc (k + 3)) (by omega)) (by have := b.h33 (k + 4); rwa [show k + 4 + N = k + (N + 4) by omega] at this) (fz (b.z35a hc (k + 2)) (by omega)) (fz (b.z35b hc (k + 2)) (by omega)) (by have := b.sz; unfold lim; omega) (by have := b.sz; unfold lim; omega) (fz (b.z38 hc (k + 2) (os := ownL gs nbs t1 t2 :: os) (ts := t1) (by simp; omega) hq) (by omega)))
  mr k := Acc.one ⟨[.tup l], rfl, by
    show ((M (k + (N + 4)) 19 [.tup l]).bind fun x => some (some x)).bind _ = _
    rw [fz (b.z19 hc (k + 3)) (show k + 3 + (N + 1) = k + (N + 4) by omega)]; rfl⟩
  ct k := Acc.one (ct_nest (w := wDef) rfl rfl rfl rfl (fz (b.z40 (k + 3)) (by omega)))
  ow k := Acc.one (ow_yes (condO_def hp (m17_def (K := k + (N + 3)) (fz (h7 (k + (N - 5)) .non) (by omega)))) rfl)
  h33 k := Acc.one rfl
  tn1 k := Acc.one (tn_no rfl)
  tn2 k := Acc.one (tn_no rfl)
  te1 k := Acc.one (te_no (v := wDef) rfl rfl)
  te2 k := Acc.one (te_no (v := wDef) rfl rfl)
  rt k ts := Acc.one (rt_nest (w := wDef) rfl rfl (fz (b.z24 hc (k + 1)) (by omega)))
  bt k ts := by
    refine .cons ⟨_, sL ts, sL [nm], wDef, pS ts, rfl, rfl, rfl, fun n hn => ?_, (bm_pS _ _ _).symm⟩ (by have := b.bt (k + 4) t1; rwa [show k + 4 + N = k + (N + 4) by omega] at this)
    obtain ⟨s, hs, rfl⟩ := List.mem_map.1 hn
    exact in_lst s ts
  lb k ts := by
    rw [← bm_pS]
    exact Acc.one (lb_def rfl rfl rfl (by show 1 ≤ lim; unfold lim; omega) (keepB_pS ts _) (fz (b.z35a hc (k + 2)) (by omega)) (fz (b.z36 hc (k + 2)) (by omega)))
  sz := by
    obtain ⟨h1, h2, h3, h4, h5, h6, h8⟩ := b.sz
    refine ⟨by simp, by simp, by simp, by simp, by simp, fun os ts => by have := h6 (ownL gs nbs t1 t2 :: os) t1; omega, fun ts => ⟨by have := h8 t1; simp; omega, ?_⟩⟩
    have := h8 t1
    have := bmD_len wDef ts [nm]
    rw [List.length_append]; simp at this; omega
  nm := by
    refine ⟨fun s hs => by simp at hs; exact hs ▸ hn, fun os ts => b.nm.2.1 _ _, fun ts d hd => ?_⟩
    rcases List.mem_append.1 hd with h | h
    · exact bmD_pr nm_def (fun s hs => by simp at hs; exact hs ▸ hn) d h
    · exact b.nm.2.2 t1 d h
  al os os' ts ha := b.al _ _ _ (.cons (fun _ => Iff.rfl) ha)
end
end K04
end
section
set_option Elab.async false
set_option linter.all false
set_option maxRecDepth 100000
set_option maxHeartbeats 4000000
/-! K04E: the law's own rows: h, k, the when. -/
namespace K04
open PD
abbrev xS : List Nat := [120]
abbrev zY : D := .tup [S [108, 101, 116], S [122], .tup [S [110, 97, 109, 101], S [121]]]
abbrev uBf : D := .tup [S [117, 115, 101], .tup [S [98]], S [102]]
abbrev yA : D := .tup [S [108, 101, 116], S [121], .tup [S [110, 97, 109, 101], S [97]]]
abbrev lgR : D := .tup [S [108, 101, 116], S [103], .tup [S [110, 97, 109, 101], S [120]]]
abbrev l1R : D := .tup [S [108, 101, 116], S [103], .tup [S [110, 117, 109], .int 1]]
abbrev oR : D := .tup [S [111, 117, 116, 101, 114], .tup [S [103]]]
abbrev nX : D := .tup [S [110, 97, 109, 101], S [120]]
abbrev wh : D := .tup [S [119, 104, 101, 110], nX, .tup [zY], .tup [uBf, yA]]
abbrev wWhen : List Nat := [119, 104, 101, 110]
theorem mem_exA : zY ∈ exA ∧ uBf ∈ exA ∧ yA ∈ exA ∧ lgR ∈ exA ∧ l1R ∈ exA ∧ oR ∈ exB := by unfold exA exB; refine ⟨?_, ?_, ?_, ?_, ?_, ?_⟩ <;> simp [zY, uBf, yA, lgR, l1R, oR]
theorem smpA {r : D} (h : r ∈ exA) : Smp r := smp_ok r (by unfold smp; simp [h])
theorem smpB {r : D} (h : r ∈ exB) : Smp r := smp_ok r (by unfold smp; simp [h])
theorem smpQ {r : D} (h : r ∈ menuQ) : Smp r := smp_ok r (by unfold smp; simp [h])
abbrev la : List D := [zY]
abbrev lb' : List D := [uBf, yA]
theorem s_la : ∀ r ∈ la, Smp r := fun r hr => by simp at hr; subst hr; exact smpA mem_exA.1
theorem s_lb : ∀ r ∈ lb', Smp r := fun r hr => by
  rcases List.mem_cons.1 hr with rfl | hr
  · exact smpA mem_exA.2.1
  · simp at hr; subst hr; exact smpA mem_exA.2.2.1
theorem wh_ln (k : Nat) : LNok (k + 9) wh [xS] := fun t ar tl fd a b c d e => ⟨some (false, .int 1), by kernel_rfl⟩
theorem wh_27 (k : Nat) : M (k + 9) 27 [wh] = some (.lst [nX]) := by kernel_rfl
theorem wh_26 (k : Nat) : M (k + 9) 26 [nX] = some (.lst (sL [xS])) := by kernel_rfl
theorem wh_18 (k : Nat) : M (k + 9) 18 [wh] = some (.lst [.tup la, .tup lb']) := by kernel_rfl
theorem wh_15 (k : Nat) : M (k + 9) 15 [wh] = some (.lst (sL [])) := by kernel_rfl
theorem wh_33 (k : Nat) : M (k + 9) 33 [wh] = some (.lst (sL [])) := by kernel_rfl
theorem wh_cO (k : Nat) : condO (k + 9) wh = some (.bl false) := by kernel_rfl
theorem wh_a (k : Nat) : M (k + 9) 13 [.tup la, .int (0 + 1)] = some (.lst la) := by kernel_rfl
theorem wh_b (k : Nat) : M (k + 9) 13 [.tup lb', .int (0 + 1)] = some (.lst lb') := by kernel_rfl
theorem wh_10 (k : Nat) (df ow : D) : M (k + 12) 10 [wh, .ins 0 [.int 3, S wDef, df, ow]] = some (.bl true) := by kernel_rfl
theorem wh_p (n : Nat) : pln (n + 10) wh = true := by kernel_rfl
theorem wh_cR : condR 0 wh = some (.bl true) := by kernel_rfl
theorem wh_bR : blR wh = some [.tup la, .tup lb'] := by kernel_rfl
theorem wh_t : condT wTop wh = some (.bl false) ∧ condT wOut wh = some (.bl false) := ⟨by kernel_rfl, by kernel_rfl⟩
theorem nm_x : Nm xS := by unfold Nm; decide
def rdA (os : List Nms) (ts : Nms) : Nms := la.flatMap fun r => (nsF r).filter (kb os ts)
def rdB (os : List Nms) (ts : Nms) : Nms := lb'.flatMap fun r => (nsF r).filter (kb os ts)
def rdW (os : List Nms) (ts : Nms) : Nms := [xS].filter (kb os ts) ++ (rdA os ts ++ rdB os ts)
def lab : List D := la ++ lb'
theorem s_lab : ∀ r ∈ lab, Smp r := fun r hr => by
  unfold lab at hr
  rcases List.mem_append.1 hr with h | h
  · exact s_la r h
  · exact s_lb r h
theorem body_wh {q : Nat} : Body 11 q 20 [wh] (wh :: lab) [1, 2] (lab.flatMap nbF) (lab.flatMap (td wTop)) (lab.flatMap (td wOut)) rdW (fun ts => .tup [wh, lL ts] :: lab.flatMap fun r => [.tup [r, lL ts]]) (fun ts => lab.flatMap fun r => bmD (wF r) ts (nbF r)) := by
  have ba : Body 9 q _ _ _ _ _ _ _ _ _ _ := body_smp s_la
  have bb : Body 9 q _ _ _ _ _ _ _ _ _ _ := body_smp s_lb
  have b : Body 11 q _ _ _ _ _ _ _ _ _ _ := (body_smp s_lab).up (show 9 ≤ 11 by omega) (Nat.le_refl _)
  exact
  { rb := fun k => Acc.one (rb_row (bs := [.tup la, .tup lb']) (gs := la ++ lb') wh_cR wh_bR (.cons ⟨⟨_, rfl⟩, wh_a (k + 2)⟩ (Acc.one ⟨⟨_, rfl⟩, wh_b (k + 2)⟩)))
    flt := fun k => Acc.one (fl_block (w := wWhen) rfl rfl rfl rfl (fz (ba.z34 (by decide) (k + 1)) (by omega)) (fz (bb.z34 (by decide) (k + 1)) (by omega)))
    nr := fun k os ts ho => by
      have z := nr_plain (k := k + 11) (dl := eL os) (tl := lL ts) (r := wh) (w := wWhen) (es := [nX]) (bs := [.tup la, .tup lb']) (gs := sL (rdA os ts) ++ sL (rdB os ts)) (nm := fun _ => sL [xS]) (p := pk os ts) rfl rfl (wh_27 (k + 2)) (fun e he => by simp at he; subst he; exact wh_26 (k + 2)) (by show 1 ≤ lim; unfold lim; omega) (fun n hn => keep_pk ho [xS] n (by simpa using hn)) (wh_18 (k + 2)) (.cons (fz (ba.z28 (by decide) (k + 1) ho) (by omega)) (Acc.one (fz (bb.z28 (by decide) (k + 1) ho) (by omega))))
      rw [show (([nX] : List D).flatMap fun _ => sL [xS]) = sL [xS] from rfl, fm_kp, ← sL_app, ← sL_app] at z
      exact Acc.one z
    lr := fun k os ts ho hq => by
      unfold rdW
      rw [sL_app]
      refine .cons (lr_plain (w := wWhen) rfl rfl rfl (wh_ln (k + 2)) (by unfold lim; omega) (by show 1 ≤ lim; unfold lim; omega)) ?_
      have e : rdA os ts ++ rdB os ts = lab.flatMap fun r => (nsF r).filter (kb os ts) := by unfold rdA rdB lab; rw [List.flatMap_append]
      rw [e]; exact b.lr k os ts ho hq
    mr := fun k => Acc.one ⟨[.tup la, .tup lb'], wh_18 (k + 2), by kernel_rfl⟩
    ct := fun k => Acc.one (ct_block (w := wWhen) rfl rfl rfl rfl rfl (by kernel_rfl) (by kernel_rfl))
    ow := fun k => .cons (m := []) (ow_no (wh_cO (k + 2))) (b.ow k)
    h33 := fun k => .cons (m := []) (wh_33 (k + 2)) (b.h33 k)
    tn1 := fun k => .cons (m := []) (tn_no wh_t.1) (b.tn1 k)
    tn2 := fun k => .cons (m := []) (tn_no wh_t.2) (b.tn2 k)
    te1 := fun k => .cons (m := []) (te_no (v := wWhen) rfl rfl) (b.te1 k)
    te2 := fun k => .cons (m := []) (te_no (v := wWhen) rfl rfl) (b.te2 k)
    rt := fun k ts => .cons (m := [_]) (rt_plain (w := wWhen) rfl rfl) (b.rt k ts)
    bt := fun k ts => .cons (m := []) ⟨wh, sL ts, sL [], wWhen, pS ts, rfl, rfl, wh_15 (k + 2), (fun n hn => by cases hn), rfl⟩ (b.bt k ts)
    lb := fun k ts => .cons (m := []) (lb_plain (w := wWhen) (nb := []) (p := pS ts) rfl rfl rfl (wh_33 (k + 2)) (Nat.zero_le _) (fun n hn => by cases hn)) (b.lb k ts)
    sz := by
      obtain ⟨h1, h2, h3, h4, h5, h6, h7⟩ := b.sz
      have hl : 4 * lab.length = 12 := rfl
      rw [hl] at h1 h3 h4 h5 h6 h7
      refine ⟨by rw [List.length_cons]; omega, by simp, by omega, by omega, by omega, fun os ts => ?_, fun ts => ⟨by have := (h7 ts).1; rw [List.length_cons]; omega, by have := (h7 ts).2; omega⟩⟩
      unfold rdW
      have e : rdA os ts ++ rdB os ts = lab.flatMap fun r => (nsF r).filter (kb os ts) := by unfold rdA rdB lab; rw [List.flatMap_append]
      rw [e, List.length_append]
      have := h6 os ts
      have := List.length_filter_le (kb os ts) [xS]
      simp at this; omega
    nm := by
      refine ⟨b.nm.1, fun os ts s hs => ?_, b.nm.2.2⟩
      unfold rdW at hs
      have e : rdA os ts ++ rdB os ts = lab.flatMap fun r => (nsF r).filter (kb os ts) := by unfold rdA rdB lab; rw [List.flatMap_append]
      rw [e] at hs
      rcases List.mem_append.1 hs with h | h
      · have := (List.mem_filter.1 h).1; simp at this; subst this; exact nm_x
      · exact b.nm.2.1 os ts s h
    al := fun os os' ts ha => by unfold rdW rdA rdB; rw [ha.kb ts] }
end K04
end
section
set_option Elab.async false
set_option linter.all false
set_option maxRecDepth 100000
set_option maxHeartbeats 4000000
/-! K04F: the defs h and k, whole. -/
namespace K04
open PD
theorem pln_def {n : Nat} {nm : List Nat} {gs : Nms} {l : List D} (hn : Nm nm) (hg : ∀ s ∈ gs, Nm s) (hl : ∀ r ∈ l, pln n r = true) : pln (n + 2) (rDef (S nm) (.tup (sL gs)) (.tup l)) = true := by
  show (pln (n + 1) (S wDef) && (pln (n + 1) (S nm) && (plns n (sL gs) && (plns n l && true)))) = true
  rw [pln_strs hg, plns_all.2 hl, show pln (n + 1) (S wDef) = true from nm_def, show pln (n + 1) (S nm) = true from hn]; rfl
structure TOk (T : List D) : Prop where
  s : ∀ r ∈ T, Smp r
  z : T.length ≤ 1
  o : T.flatMap (td wOut) = []
  q : ∀ s ∈ T.flatMap (td wTop), s ≠ [113] ∧ s ≠ [103]
structure LOk (L : List D) : Prop where
  m : ∀ r ∈ L, r ∈ menuQ
  z : L.length ≤ 4
theorem q_t1 : menuQ.map (td wTop) = menuQ.map fun _ => [] := by kernel_rfl
theorem q_t2 : menuQ.map (td wOut) = menuQ.map fun _ => [] := by kernel_rfl
theorem fm_zero {α β : Type} {l : List α} {h : α → List β} (hs : ∀ r ∈ l, h r = []) : l.flatMap h = [] := by
  induction l with
  | nil => rfl
  | cons a l ih => rw [List.flatMap_cons, hs a (by simp), ih fun r hr => hs r (by simp [hr])]; rfl
theorem LOk.t1 {L : List D} (h : LOk L) : L.flatMap (td wTop) = [] := fm_zero fun r hr => mapE q_t1 r (h.m r hr)
theorem LOk.t2 {L : List D} (h : LOk L) : L.flatMap (td wOut) = [] := fm_zero fun r hr => mapE q_t2 r (h.m r hr)
theorem LOk.rev {L : List D} (h : LOk L) : LOk L.reverse := ⟨fun r hr => h.m r (by simpa using hr), by rw [List.length_reverse]; exact h.z⟩
def lH1 (T L : List D) : List D := oR :: lgR :: (T ++ L)
def H1 (T L : List D) : D := rDef (S [104]) (.tup (sL [[113]])) (.tup (lH1 T L))
def H2 (T : List D) : D := rDef (S [104]) (.tup (sL [[113]])) (.tup (T ++ [wh]))
theorem s_lH1 {T L : List D} (hT : TOk T) (hL : LOk L) : ∀ r ∈ lH1 T L, Smp r := fun r hr => by
  unfold lH1 at hr
  rcases List.mem_cons.1 hr with rfl | hr
  · exact smpB mem_exA.2.2.2.2.2
  rcases List.mem_cons.1 hr with rfl | hr
  · exact smpA mem_exA.2.2.2.1
  rcases List.mem_append.1 hr with hr | hr
  · exact hT.s r hr
  · exact smpQ (hL.m r hr)
theorem h7_q (k : Nat) (l : List D) (A : D) : M (k + 8) 7 [rDef (S [104]) (.tup (sL [[113]])) (.tup l), A] = some (.bl true) := by kernel_rfl
theorem nm_h : Nm [104] := by unfold Nm; decide
theorem nm_k : Nm [107] := by unfold Nm; decide
theorem nm_q : ∀ s ∈ ([[113]] : Nms), Nm s := fun s hs => by simp at hs; subst hs; unfold Nm; decide
theorem p_H1 {T L : List D} (hT : TOk T) (hL : LOk L) (n : Nat) : pln (n + 12) (H1 T L) = true := pln_def (n := n + 10) nm_h nm_q fun r hr => (s_lH1 hT hL r hr).p n
theorem p_H2 {T : List D} (hT : TOk T) (n : Nat) : pln (n + 12) (H2 T) = true := pln_def (n := n + 10) nm_h nm_q fun r hr => by
  rcases List.mem_append.1 hr with h | h
  · exact (hT.s r h).p n
  · simp at h; subst h; exact wh_p n
/-- a row of a def's block: looked at, and good -/
def IRok (N : Nat) (dp : Int) (os : List Nms) (r : D) : Prop := ∀ k bk ow, bk = S wDef → M (k + N) 10 [r, .ins 0 [.int dp, bk, eL os, ow]] = some (.bl true)
section
variable {N q c : Nat} {l fl : List D} {ns : List Int} {nbs t1 t2 : Nms} {RD : List Nms → Nms → Nms} {PR BD : Nms → List D}
theorem ir_defrow (b : Body N q c l fl ns nbs t1 t2 RD PR BD) (hc : c ≤ 20000) (hN : 9 ≤ N) {nm : List Nat} {gs : Nms} {os : List Nms} {dp : Int} {bk ow : D} (hg : gs.length ≤ 10)
    (hp : pln 60 (rDef (S nm) (.tup (sL gs)) (.tup l)) = true) (h7 : ∀ k A, M (k + 8) 7 [rDef (S nm) (.tup (sL gs)) (.tup l), A] = some (.bl true)) (zo : os.length + 1 ≤ lim)
    (h12 : ∀ k ol ow', OwnIs ol (gs ++ nbs) (t1 ++ t2) → M (k + (N + 3)) 12 [.tup l, .ins 0 [.int (dp + 1), S wDef, eL (os ++ [ol]), ow']] = some (.bl true))
    (hc1 : (t2.any fun s => gs.contains s || t1.contains s) = false) (hd : (t1.any fun s => gs.contains s) = false) (he : (t2.all fun s => os.any fun o => o.contains s) = true) (k : Nat) :
    M (k + (N + 5)) 10 [rDef (S nm) (.tup (sL gs)) (.tup l), .ins 0 [.int dp, bk, eL os, ow]] = some (.bl true) := by
  obtain ⟨ol, e1, e2⟩ := b.z16 hc k hg
  refine ir_def (k := k + (N + 4)) hp (fz (h7 (k + (N - 4)) _) (by omega)) ?_
  refine id_ok (k := k + (N + 3)) (ol := ol) (t1 := t1) (t2 := t2) e1 ?_ (fz (b.z14a hc (k + 1)) (by omega)) (fz (b.z14b hc (k + 1)) (by omega)) hc1 hd he (by have := b.sz; unfold lim; omega) (by have := b.sz; unfold lim; omega) zo
  have z := h12 k ol (.bl (decide (dp + 1 = 1))) e2
  unfold eL encO at z
  rw [List.map_append] at z
  exact z
end
theorem lH1_len {T L : List D} (hT : TOk T) (hL : LOk L) : (lH1 T L).length ≤ 7 := by unfold lH1; simp only [List.length_cons, List.length_append]; have := hT.z; have := hL.z; omega
theorem oR_td : td wTop oR = [] ∧ td wOut oR = [[103]] ∧ td wTop lgR = [] ∧ td wOut lgR = [] ∧ td wTop l1R = [] ∧ td wOut l1R = [] ∧ nbF l1R = [[103]] := ⟨by kernel_rfl, by kernel_rfl, by kernel_rfl, by kernel_rfl, by kernel_rfl, by kernel_rfl, by kernel_rfl⟩
theorem lH1_t1 {T L : List D} (hL : LOk L) : (lH1 T L).flatMap (td wTop) = T.flatMap (td wTop) := by
  unfold lH1
  rw [List.flatMap_cons, List.flatMap_cons, List.flatMap_append, hL.t1, oR_td.1, oR_td.2.2.1]; simp
theorem lH1_t2 {T L : List D} (hT : TOk T) (hL : LOk L) : (lH1 T L).flatMap (td wOut) = [[103]] := by
  unfold lH1
  rw [List.flatMap_cons, List.flatMap_cons, List.flatMap_append, hL.t2, hT.o, oR_td.2.1, oR_td.2.2.2.1]; rfl
theorem smp_12 {l : List D} (h : ∀ r ∈ l, Smp r) (hz : l.length ≤ 1000) {dp : Int} (hd : dp ≤ 4) (k : Nat) (df ow : D) : M (k + 10) 12 [.tup l, .ins 0 [.int dp, S wDef, df, ow]] = some (.bl true) :=
  ar_ok (k := k + 9) (plns_all.2 fun r hr => (h r hr).p 49) hd (fun r hr => (h r hr).ir k _ df ow) (by unfold lim; omega)
theorem ir_H1 {T L : List D} (hT : TOk T) (hL : LOk L) {os : List Nms} {dp : Int} {bk ow : D} (zo : os.length + 1 ≤ lim) (hd : dp ≤ 3) (hg : (os.any fun o => o.contains [103]) = true) (k : Nat) : M (k + 14) 10 [H1 T L, .ins 0 [.int dp, bk, eL os, ow]] = some (.bl true) := by
  have b : Body 9 0 _ _ _ _ _ _ _ _ _ _ := body_smp (s_lH1 hT hL)
  rw [lH1_t1 hL, lH1_t2 hT hL] at b
  refine ir_defrow (N := 9) b (by have := lH1_len hT hL; omega) (Nat.le_refl _) (gs := [[113]]) (by simp) (p_H1 hT hL 48) (fun k A => h7_q k _ A) zo (fun k ol ow' ho => ?_) ?_ ?_ ?_ k
  · exact fz (smp_12 (s_lH1 hT hL) (by have := lH1_len hT hL; omega) (by omega) (k + 2) _ ow') (by omega)
  · have h1 : (T.flatMap (td wTop)).contains [103] = false := by
      rw [Bool.eq_false_iff]; intro h
      exact ((hT.q _ (List.contains_iff_mem.1 h)).2) rfl
    simp only [List.any_cons, List.any_nil, Bool.or_false]
    rw [h1]; decide
  · rw [Bool.eq_false_iff]; intro h
    obtain ⟨s, hs, h2⟩ := List.any_eq_true.1 h
    have := (hT.q s hs).1
    simp at h2; exact this h2
  · simpa using hg
def bH2 (T : List D) (hT : TOk T) (q : Nat) := ((body_smp (q := q) hT.s).up (N' := 11) (show 9 ≤ 11 by omega) (Nat.le_refl _)).app body_wh
theorem lab_td : lab.flatMap (td wTop) = [] ∧ lab.flatMap (td wOut) = [] := ⟨by kernel_rfl, by kernel_rfl⟩
theorem ir_H2 {T : List D} (hT : TOk T) {os : List Nms} {bk ow : D} (zo : os.length + 1 ≤ lim) (k : Nat) : M (k + 16) 10 [H2 T, .ins 0 [.int 2, bk, eL os, ow]] = some (.bl true) := by
  have b := bH2 T hT 0
  rw [lab_td.1, lab_td.2, hT.o, List.append_nil] at b
  refine ir_defrow (N := 11) b (by have := hT.z; omega) (by omega) (gs := [[113]]) (by simp) (p_H2 hT 48) (fun k A => h7_q k _ A) zo (fun k ol ow' ho => ?_) rfl ?_ rfl k
  · refine ar_ok (k := k + 13) (plns_all.2 fun r hr => ?_) (by decide) (fun r hr => ?_) (by have := hT.z; rw [List.length_append]; simp; unfold lim; omega)
    · rcases List.mem_append.1 hr with h | h
      · exact (hT.s r h).p 49
      · simp at h; subst h; exact wh_p 49
    · rcases List.mem_append.1 hr with h | h
      · exact (hT.s r h).ir (k + 4) _ _ _
      · simp at h; subst h; exact wh_10 (k + 1) _ _
  · rw [Bool.eq_false_iff]; intro h
    obtain ⟨s, hs, h2⟩ := List.any_eq_true.1 h
    have := (hT.q s hs).1
    simp at h2; exact this h2
end K04
end
section
set_option Elab.async false
set_option linter.all false
set_option maxRecDepth 100000
set_option maxHeartbeats 4000000
/-! K04G: rows of the module; the law's def k, its box k. -/
namespace K04
open PD
structure Top (N c : Nat) (r : D) (fl : List D) (ns : List Int) (RD : Nms) (BD : List D) : Prop where
  mb : ∀ k, MBok (k + N) r BD
  flt : ∀ k, FLok (k + N) r fl
  lb : ∀ k, Acc (LBok (k + N) .non) fl BD
  nr : ∀ k, NRok (k + N) (eL []) (lL []) r (sL RD)
  lr : ∀ k, Acc (LRok (k + N) (eL []) (lL [])) fl (sL RD)
  mr : ∀ k, MRok (k + N) r ns
  ct : ∀ k, CTok (k + N) r ns
  sz : fl.length ≤ c ∧ ns.length ≤ c ∧ RD.length ≤ c ∧ BD.length ≤ c
  nm : (∀ s ∈ RD, Nm s) ∧ ∀ d ∈ BD, Pr d
theorem Top.up {N N' c c' : Nat} {r : D} {fl : List D} {ns : List Int} {RD : Nms} {BD : List D} (a : Top N c r fl ns RD BD) (h : N ≤ N') (hc : c ≤ c') : Top N' c' r fl ns RD BD := by
  have e : ∀ k, k + N' = (k + (N' - N)) + N := fun k => by omega
  exact { mb := fun k => by rw [e]; exact a.mb _, flt := fun k => by rw [e]; exact a.flt _, lb := fun k => by rw [e]; exact a.lb _, nr := fun k => by rw [e]; exact a.nr _, lr := fun k => by rw [e]; exact a.lr _
          mr := fun k => by rw [e]; exact a.mr _, ct := fun k => by rw [e]; exact a.ct _, sz := by obtain ⟨h1, h2, h3, h4⟩ := a.sz; exact ⟨by omega, by omega, by omega, by omega⟩, nm := a.nm }
theorem Acc.get {α : Type} {P : D → List α → Prop} {r : D} {m : List α} (h : Acc P [r] m) : P r m := by
  generalize hl : [r] = l at h
  cases h with
  | nil => cases hl
  | cons h t =>
    cases hl
    cases t with
    | nil => rw [List.append_nil]; exact h
theorem nmo_nil {q : Nat} (hq : q ≤ 1000) : NmO q [] := ⟨(fun o h => by cases h), Nat.zero_le _, hq⟩
abbrev wBox : List Nat := [98, 111, 120]
theorem nm_box : Nm wBox := by unfold Nm; decide
section
variable {N q c : Nat} {l fl : List D} {ns : List Int} {nbs t1 t2 : Nms} {RD : List Nms → Nms → Nms} {PR BD : Nms → List D}
theorem Body.z25 (b : Body N q c l fl ns nbs t1 t2 RD PR BD) (hc : c ≤ 20000) (k : Nat) {nm gv : D} : M (k + (N + 4)) 25 [rDef nm gv (.tup l)] = some (.lst (BD t1)) :=
  bt_row (k := k + (N + 3)) (b.z24 hc k) (by have := b.bt (k + 3) t1; rwa [show k + 3 + N = k + (N + 3) by omega] at this) (by have := (b.sz.2.2.2.2.2.2 t1).2; unfold lim; omega)
theorem top_def (b : Body N 1 c l fl ns nbs t1 t2 RD PR BD) (hN : 9 ≤ N) (hc : c ≤ 20000) {nm : List Nat} {gs : Nms} (hn : Nm nm) (hg : gs.length ≤ 10) (hgn : ∀ s ∈ gs, Nm s)
    (hp : pln 60 (rDef (S nm) (.tup (sL gs)) (.tup l)) = true) (h7 : ∀ k A, M (k + 8) 7 [rDef (S nm) (.tup (sL gs)) (.tup l), A] = some (.bl true)) :
    Top (N + 4) (c + 1) (rDef (S nm) (.tup (sL gs)) (.tup l)) [rDef (S nm) (.tup (sL gs)) (.tup l)] [(l.length : Int) + ns.sum] (RD [ownL gs nbs t1 t2] t1) (.tup [S nm, S wDef] :: BD t1) := by
  have B := body_def (q := 0) b hN hc (by omega) hn hg hgn hp h7
  exact
  { mb := fun k => mb_plain (k := k + (N + 4)) (w := wDef) (nb := sL [nm]) rfl rfl rfl (b.z25 hc k) (by show 1 ≤ lim; unfold lim; omega)
    flt := fun k => Acc.get (B.flt k)
    lb := fun k => Acc.one (lb_def (k := k + (N + 4)) (tp := .non) (nb := sL [nm]) (p := fun _ => true) rfl rfl rfl (by show 1 ≤ lim; unfold lim; omega) (fun n _ => rfl) (fz (b.z35a hc (k + 2)) (by omega)) (fz (b.z36 hc (k + 2)) (by omega)))
    nr := fun k => Acc.get (B.nr k [] [] (nmo_nil (by omega)))
    lr := fun k => B.lr k [] [] (Nat.le_refl _) (by omega)
    mr := fun k => Acc.get (B.mr k)
    ct := fun k => Acc.get (B.ct k)
    sz := by
      obtain ⟨h1, h2, h3, h4, h5, h6, h8⟩ := b.sz
      exact ⟨by simp, by simp, by have := h6 [ownL gs nbs t1 t2] t1; omega, by have := (h8 t1).2; simp; omega⟩
    nm := ⟨b.nm.2.1 _ _, fun d hd => by
      rcases List.mem_cons.1 hd with rfl | hd
      · exact ⟨_, _, rfl, hn, nm_def⟩
      · exact b.nm.2.2 _ d hd⟩ }
theorem top_box (b : Body N 0 c l fl ns nbs t1 t2 RD PR BD) (hN : 9 ≤ N) (hc : c ≤ 20000) {nm : List Nat} (hn : Nm nm) :
    Top (N + 4) (c + 1) (rBox (S nm) (.tup l)) [rBox (S nm) (.tup l)] [(l.length : Int) + ns.sum] (RD [] []) (.tup [S nm, S wBox] :: BD []) := by
  have h24 : ∀ k, M (k + (N + 3)) 24 [rBox (S nm) (.tup l)] = some (.lst (PR [])) := fun k => by
    refine rt_row (k := k + (N + 2)) (w := wBox) (bd := .tup l) (tps := lL []) (fl := fl) rfl rfl (fun t x y z u => rfl) rfl (fz (b.z13 hc (k + 1)) (by omega)) (by rw [up2]; exact b.rt _ []) (by have := (b.sz.2.2.2.2.2.2 []).1; unfold lim; omega)
  have h25 : ∀ k, M (k + (N + 4)) 25 [rBox (S nm) (.tup l)] = some (.lst (BD [])) := fun k =>
    bt_row (k := k + (N + 3)) (h24 k) (by have := b.bt (k + 3) []; rwa [show k + 3 + N = k + (N + 3) by omega] at this) (by have := (b.sz.2.2.2.2.2.2 []).2; unfold lim; omega)
  exact
  { mb := fun k => mb_plain (k := k + (N + 4)) (w := wBox) (nb := sL [nm]) rfl rfl rfl (h25 k) (by show 1 ≤ lim; unfold lim; omega)
    flt := fun k => fl_plain (w := wBox) rfl rfl
    lb := fun k => Acc.one (lb_box (k := k + (N + 4)) (tp := .non) (nb := sL [nm]) (p := fun _ => true) rfl rfl rfl (by show 1 ≤ lim; unfold lim; omega) (fun n _ => rfl) (fz (b.z36 hc (k + 2) (ts := [])) (by omega)))
    nr := fun k => by
      have z := nr_plain (k := k + (N + 4)) (dl := eL []) (tl := lL []) (r := rBox (S nm) (.tup l)) (w := wBox) (es := []) (bs := [.tup l]) (gs := sL (RD [] [])) (nm := fun _ => []) (p := fun _ => true) rfl rfl rfl (fun _ h => by cases h) (Nat.zero_le _) (fun _ h => by cases h) rfl (Acc.one (fz (b.z28 hc (k + 3) (nmo_nil (by omega))) (by omega)))
      exact z
    lr := fun k => Acc.one (lr_box (by simp) (fz (b.z38 hc (k + 2) (os := []) (ts := []) (Nat.zero_le _) (by omega)) (by omega)))
    mr := fun k => ⟨[.tup l], rfl, by
      show ((M (k + (N + 4)) 19 [.tup l]).bind fun x => some (some x)).bind _ = _
      rw [fz (b.z19 hc (k + 3)) (show k + 3 + (N + 1) = k + (N + 4) by omega)]; rfl⟩
    ct := fun k => ct_nest (w := wBox) rfl rfl rfl rfl (fz (b.z40 (k + 3)) (by omega))
    sz := by
      obtain ⟨h1, h2, h3, h4, h5, h6, h8⟩ := b.sz
      exact ⟨by simp, by simp, by have := h6 [] []; omega, by have := (h8 []).2; simp; omega⟩
    nm := ⟨b.nm.2.1 _ _, fun d hd => by
      rcases List.mem_cons.1 hd with rfl | hd
      · exact ⟨_, _, rfl, hn, nm_box⟩
      · exact b.nm.2.2 _ d hd⟩ }
end
/-! ### k -/
def lS (L : List D) : List D := l1R :: L.reverse
theorem s_lS {L : List D} (hL : LOk L) : ∀ r ∈ lS L, Smp r := fun r hr => by
  unfold lS at hr
  rcases List.mem_cons.1 hr with rfl | hr
  · exact smpA mem_exA.2.2.2.2.1
  · exact smpQ (hL.rev.m r hr)
theorem lS_len {L : List D} (hL : LOk L) : (lS L).length ≤ 5 := by unfold lS; rw [List.length_cons, List.length_reverse]; have := hL.z; omega
theorem lS_t {L : List D} (hL : LOk L) : (lS L).flatMap (td wTop) = [] ∧ (lS L).flatMap (td wOut) = [] := by
  unfold lS
  rw [List.flatMap_cons, List.flatMap_cons, hL.rev.t1, hL.rev.t2, oR_td.2.2.2.2.1, oR_td.2.2.2.2.2.1]
  exact ⟨rfl, rfl⟩
def inner1 (T L : List D) : List D := [H1 T L] ++ lS L
def inner2 (T L : List D) : List D := [H2 T] ++ ([H1 T L] ++ lS L)
def bH1' {T L : List D} (hT : TOk T) (hL : LOk L) (q : Nat) (hq : q + 1 ≤ 1000) := body_def (q := q) (body_smp (s_lH1 hT hL)) (Nat.le_refl _) (by have := lH1_len hT hL; omega) hq nm_h (by simp) nm_q (p_H1 hT hL 48) (fun k A => h7_q k _ A)
def bI1 {T L : List D} (hT : TOk T) (hL : LOk L) (q : Nat) (hq : q + 1 ≤ 1000) := (bH1' hT hL q hq).app ((body_smp (q := q) (s_lS hL)).up (N' := 13) (by omega) (Nat.le_refl _))
def bH2' {T : List D} (hT : TOk T) (q : Nat) (hq : q + 1 ≤ 1000) := body_def (q := q) (bH2 T hT (q + 1)) (by omega) (by have := hT.z; omega) hq nm_h (by simp) nm_q (p_H2 hT 48) (fun k A => h7_q k _ A)
def bI2 {T L : List D} (hT : TOk T) (hL : LOk L) (q : Nat) (hq : q + 1 ≤ 1000) := (bH2' hT q hq).app ((bI1 hT hL q hq).up (N' := 15) (by omega) (Nat.le_refl _))
structure GOk (gs : Nms) : Prop where
  z : gs.length ≤ 10
  n : ∀ s ∈ gs, Nm s
  h7 : ∀ k l A, M (k + 8) 7 [rDef (S [107]) (.tup (sL gs)) (.tup l), A] = some (.bl true)
def K1 (gs : Nms) (T L : List D) : D := rDef (S [107]) (.tup (sL gs)) (.tup (inner1 T L))
def K2 (gs : Nms) (T L : List D) : D := rDef (S [107]) (.tup (sL gs)) (.tup (inner2 T L))
section
variable {T L : List D} (hT : TOk T) (hL : LOk L) {gs : Nms} (hG : GOk gs)
include hT hL
theorem p_i1 (n : Nat) : ∀ r ∈ inner1 T L, pln (n + 12) r = true := fun r hr => by
  unfold inner1 at hr
  rcases List.mem_append.1 hr with h | h
  · simp at h; subst h; exact p_H1 hT hL n
  · exact (s_lS hL r h).p (n + 2)
theorem p_i2 (n : Nat) : ∀ r ∈ inner2 T L, pln (n + 12) r = true := fun r hr => by
  unfold inner2 at hr
  rcases List.mem_append.1 hr with h | h
  · simp at h; subst h; exact p_H2 hT n
  · exact p_i1 hT hL n r h
include hG
theorem p_K1 (n : Nat) : pln (n + 14) (K1 gs T L) = true := pln_def (n := n + 12) nm_k hG.n (p_i1 hT hL n)
theorem p_K2 (n : Nat) : pln (n + 14) (K2 gs T L) = true := pln_def (n := n + 12) nm_k hG.n (p_i2 hT hL n)
theorem own_g {ol nbs told : Nms} (h : OwnIs ol (gs ++ nbs) told) (hg : [103] ∈ nbs) (ht : told = []) : (([] ++ [ol]).any fun o => o.contains ([103] : List Nat)) = true := by
  have : ([103] : List Nat) ∈ ol := (h.2 _).2 ⟨by simp [hg], by rw [ht]; simp⟩
  simpa [List.contains_iff_mem] using this
theorem g_lS : [103] ∈ (lS L).flatMap nbF := by
  unfold lS; rw [List.flatMap_cons, oR_td.2.2.2.2.2.2]; simp
theorem ir_K1 (k : Nat) {bk ow : D} : M (k + 18) 10 [K1 gs T L, .ins 0 [.int 2, bk, eL [], ow]] = some (.bl true) := by
  have b := bI1 hT hL 0 (by omega)
  rw [(lS_t hL).1, (lS_t hL).2] at b
  refine ir_defrow (N := 13) b (by have := lH1_len hT hL; have := lS_len hL; omega) (by omega) hG.z (p_K1 hT hL hG 46) (fun k A => hG.h7 k _ A) (by simp; unfold lim; omega) (fun k ol ow' ho => ?_) rfl rfl rfl k
  have hg := own_g hT hL hG ho (by simp only [List.mem_append]; exact Or.inr (g_lS hT hL hG)) rfl
  refine ar_ok (k := k + 15) (plns_all.2 fun r hr => p_i1 hT hL 47 r hr) (by decide) (fun r hr => ?_) (by have := lS_len hL; rw [List.length_append, List.length_cons, List.length_nil]; unfold lim; omega)
  rcases List.mem_append.1 hr with h | h
  · simp at h; subst h
    exact ir_H1 hT hL (by simp; unfold lim; omega) (by decide) hg (k + 1)
  · exact (s_lS hL r h).ir (k + 6) _ _ _
theorem ir_K2 (k : Nat) {bk ow : D} : M (k + 20) 10 [K2 gs T L, .ins 0 [.int 1, bk, eL [], ow]] = some (.bl true) := by
  have b := bI2 hT hL 0 (by omega)
  rw [(lS_t hL).1, (lS_t hL).2] at b
  refine ir_defrow (N := 15) b (by have := lH1_len hT hL; have := lS_len hL; have := hT.z; omega) (by omega) hG.z (p_K2 hT hL hG 46) (fun k A => hG.h7 k _ A) (by simp; unfold lim; omega) (fun k ol ow' ho => ?_) rfl rfl rfl k
  have hg := own_g hT hL hG ho (by simp only [List.mem_append]; exact Or.inr (Or.inr (g_lS hT hL hG))) rfl
  refine ar_ok (k := k + 17) (plns_all.2 fun r hr => p_i2 hT hL 47 r hr) (by decide) (fun r hr => ?_) (by have := lS_len hL; simp only [List.length_append, List.length_cons, List.length_nil]; unfold lim; omega)
  rcases List.mem_append.1 hr with h | h
  · simp at h; subst h
    exact ir_H2 hT (by simp; unfold lim; omega) (k + 1)
  rcases List.mem_append.1 h with h | h
  · simp at h; subst h
    exact ir_H1 hT hL (by simp; unfold lim; omega) (by decide) hg (k + 3)
  · exact (s_lS hL r h).ir (k + 8) _ _ _
/-- a row of the module that is good, and no show or hide -/
def Good (r : D) (m : Int) : Prop := ∃ fl ns RD BD, Top 30 300 r fl ns RD BD ∧ ns.sum ≤ m
omit hT hL hG in
theorem good_up {N c : Nat} {r : D} {fl : List D} {ns : List Int} {RD : Nms} {BD : List D} {m : Int} (h : Top N c r fl ns RD BD) (hN : N ≤ 30) (hc : c ≤ 300) (hm : ns.sum ≤ m) : Good r m := ⟨fl, ns, RD, BD, h.up hN hc, hm⟩
theorem good_K2 : ∃ m, Good (K2 gs T L) m :=
  ⟨_, good_up (top_def (bI2 hT hL 1 (by omega)) (by omega) (by have := lH1_len hT hL; have := lS_len hL; have := hT.z; omega) nm_k hG.z hG.n (p_K2 hT hL hG 46) (fun k A => hG.h7 k _ A)) (by omega) (by have := lH1_len hT hL; have := lS_len hL; have := hT.z; omega) (Int.le_refl _)⟩
def B1 (gs : Nms) (T L : List D) : D := rBox (S [107]) (.tup [K1 gs T L])
theorem good_B1 : ∃ m, Good (B1 gs T L) m :=
  ⟨_, good_up (top_box (body_def (q := 0) (bI1 hT hL 1 (by omega)) (by omega) (by have := lH1_len hT hL; have := lS_len hL; omega) (by omega) nm_k hG.z hG.n (p_K1 hT hL hG 46) (fun k A => hG.h7 k _ A)) (by omega) (by have := lH1_len hT hL; have := lS_len hL; omega) nm_k) (by omega) (by have := lH1_len hT hL; have := lS_len hL; omega) (Int.le_refl _)⟩
theorem ck_K2 (k : Nat) : CKok (k + 20) (K2 gs T L) := ⟨wDef, rfl, rfl, ir_K2 hT hL hG k⟩
theorem ck_B1 (k : Nat) : CKok (k + 20) (B1 gs T L) := by
  refine ⟨wBox, rfl, rfl, ir_box (k := k + 19) (bk := S [109, 111, 100, 117, 108, 101]) (df := .lst []) (ow := .bl true) (dp := 1) ?_ ?_ ?_⟩
  · show (pln 59 (S wBox) && (pln 59 (S [107]) && ((pln 58 (K1 gs T L) && true) && true))) = true
    rw [p_K1 hT hL hG 44, show pln 59 (S wBox) = true from nm_box, show pln 59 (S [107]) = true from nm_k]; rfl
  · kernel_rfl
  · refine ar_ok (k := k + 18) ?_ (by decide) (fun r hr => ?_) (by simp; unfold lim; omega)
    · show (pln 59 (K1 gs T L) && true) = true
      rw [p_K1 hT hL hG 45]; rfl
    · simp at hr; subst hr
      exact ir_K1 hT hL hG k
end
end K04
end
section
set_option Elab.async false
set_option linter.all false
set_option maxRecDepth 100000
set_option maxHeartbeats 4000000
/-! K04I: the fixed rows of the module. -/
namespace K04
open PD
/-! plain rows of the module -/
def tops (n : Int) : List D := menuP ++ (lets n ++ (shows ++ hides))
theorem tops_U (n : Int) : ∀ r ∈ tops n, r ∈ U n := fun r hr => by
  unfold tops at hr; unfold U
  simp only [List.mem_append] at hr ⊢
  rcases hr with h | h | h | h
  · exact Or.inl h
  · exact Or.inr (Or.inl h)
  · exact Or.inr (Or.inr (Or.inr (Or.inr (Or.inr (Or.inl h)))))
  · exact Or.inr (Or.inr (Or.inr (Or.inr (Or.inr (Or.inr h)))))
theorem t_25 (n : Int) (k : Nat) : (tops n).map (fun r => M (k + 9) 25 [r]) = (tops n).map fun _ => some (.lst []) := by kernel_rfl
theorem bmA_pr {w : List Nat} {nb : Nms} (hw : Nm w) (hn : ∀ s ∈ nb, Nm s) : ∀ d ∈ bmA w nb, Pr d := fun d hd => by
  unfold bmA at hd
  obtain ⟨s, hs, rfl⟩ := List.mem_map.1 hd
  exact ⟨s, w, rfl, hn s hs, hw⟩
theorem top_cm {r : D} (c : Cm r) (h25 : ∀ k, M (k + 9) 25 [r] = some (.lst [])) : Top 9 10 r [r] [] ((nsF r).filter (kb [] [])) (bmA (wF r) (nbF r)) where
  mb k := cm_mb c (h25 k)
  flt k := cm_fl c
  lb k := Acc.one (cm_lb0 c)
  nr k := cm_nr (q := 0) c (nmo_nil (by omega))
  lr k := Acc.one (cm_lr c (by simp))
  mr k := cm_mr c
  ct k := cm_ct c
  sz := ⟨by simp, by simp, Nat.le_trans (List.length_filter_le _ _) (by have := c.okk.2.2; omega), by unfold bmA; rw [List.length_map]; have := c.okk.2.1; omega⟩
  nm := ⟨fun s hs => c.okk.1.2.2 s (List.mem_filter.1 hs).1, bmA_pr c.okk.1.1 c.okk.1.2.1⟩
theorem good_tops (n : Int) : ∀ r ∈ tops n, Good r 0 := fun r hr => good_up (top_cm (cm n r (tops_U n r hr)) fun k => mapE (t_25 n k) r hr) (by omega) (by omega) (by simp)
theorem k_P (k : Nat) : menuP.map (fun r => M (k + 9) 10 [r, A1]) = menuP.map fun _ => some (.bl true) := by kernel_rfl
theorem k_Pw : menuP.map (fun r => cmpd .isIn (S (wF r)) sh) = menuP.map fun _ => some (.bl false) := by kernel_rfl
theorem ck_P (k : Nat) : ∀ r ∈ menuP, CKok (k + 9) r := fun r hr => ⟨wF r, (cm 0 r (tops_U 0 r (by unfold tops; simp [hr]))).h0, mapE k_Pw r hr, mapE (k_P k) r hr⟩
def letsAll : List D := (List.range 50).flatMap fun n => lets (n : Nat)
theorem k_L (k : Nat) : letsAll.map (fun r => M (k + 9) 10 [r, A1]) = letsAll.map fun _ => some (.bl true) := by kernel_rfl
theorem ck_L (k : Nat) {n : Nat} (hn : n < 50) : ∀ r ∈ lets n, CKok (k + 9) r := fun r hr => by
  have c := cm n r (tops_U n r (by unfold tops; simp [hr]))
  have h10 := mapE (k_L k) r (by unfold letsAll; exact List.mem_flatMap.2 ⟨n, by simpa using hn, hr⟩)
  refine ⟨[108, 101, 116], ?_, rfl, h10⟩
  unfold lets at hr
  simp at hr
  rcases hr with rfl | rfl | rfl <;> rfl
/-! defs -/
def lstOf : Option D → List D
  | some (.lst l) => l
  | _ => []
def intOf : Option D → Int
  | some (.int i) => i
  | _ => 0
def g2 (r : D) : D := (dIdx r (.int 2)).getD .non
def g3 (r : D) : D := (dIdx r (.int 3)).getD .non
def nmC (r : D) : List Nat := match dIdx r (.int 1) with | some (.str s) => s | _ => []
def m25 (r : D) : List D := lstOf (M 20 25 [r])
def rdC (r : D) : Nms := strL (M 20 28 [.tup [r], .lst [], .lst []])
def olC (r : D) : Nms := strL (M 20 16 [g2 r, g3 r])
def tpC (r : D) : Nms := strL (M 20 14 [g3 r, S wTop])
def t2C (r : D) : Nms := strL (M 20 14 [g3 r, S wOut])
def flC (r : D) : List D := lstOf (M 20 34 [g3 r])
def nbX (x : D) : Nms := strL (M 20 33 [x])
def gsC (r : D) : Nms := strL (dIdx r (.int 2))
def cC (r : D) : Int := intOf (M 20 40 [g3 r])
def prB : D → Bool
  | .tup [.str a, .str b] => okS a && okS b
  | _ => false
theorem prB_ok {d : D} (h : prB d = true) : Pr d := by
  unfold prB at h
  split at h
  · rename_i a b
    rw [Bool.and_eq_true] at h
    exact ⟨a, b, rfl, h.1, h.2⟩
  · cases h
def okC (r : D) : Bool := okS (nmC r) && (rdC r).all okS && (m25 r).all prB && decide ((rdC r).length ≤ 99) && decide ((m25 r).length ≤ 99) && decide ((gsC r).length + ((flC r).flatMap nbX).length ≤ 99) && decide ((tpC r).length + (t2C r).length ≤ 99)
def defC : List D := (menuC.take 6) ++ (menuC.drop 15)
theorem d_sh : defC.map (fun r => rDef (S (nmC r)) (.tup (sL (gsC r))) (g3 r)) = defC := by kernel_rfl
theorem d_25 (k : Nat) : defC.map (fun r => M (k + 20) 25 [r]) = defC.map fun r => some (.lst (m25 r)) := by kernel_rfl
theorem d_16 (k : Nat) : defC.map (fun r => M (k + 20) 16 [.tup (sL (gsC r)), g3 r]) = defC.map fun r => some (lL (olC r)) := by kernel_rfl
theorem d_14 (k : Nat) : defC.map (fun r => M (k + 20) 14 [g3 r, S wTop]) = defC.map fun r => some (lL (tpC r)) := by kernel_rfl
theorem d_28 (k : Nat) : defC.map (fun r => M (k + 20) 28 [g3 r, eL [olC r], lL (tpC r)]) = defC.map fun r => some (lL (rdC r)) := by kernel_rfl
theorem d_35a (k : Nat) : defC.map (fun r => M (k + 20) 35 [g3 r, S wTop]) = defC.map fun r => some (lL (tpC r)) := by kernel_rfl
theorem d_35b (k : Nat) : defC.map (fun r => M (k + 20) 35 [g3 r, S wOut]) = defC.map fun r => some (lL (t2C r)) := by kernel_rfl
theorem d_36 (k : Nat) : defC.map (fun r => M (k + 20) 36 [g3 r, lL (tpC r)]) = defC.map fun r => some (.lst (m25 r)) := by kernel_rfl
theorem d_34 (k : Nat) : defC.map (fun r => M (k + 20) 34 [g3 r]) = defC.map fun r => some (.lst (flC r)) := by kernel_rfl
theorem d_33 (k : Nat) : defC.map (fun r => (flC r).map fun x => M (k + 20) 33 [x]) = defC.map fun r => (flC r).map fun x => some (.lst (sL (nbX x))) := by kernel_rfl
theorem d_38 (k : Nat) : defC.map (fun r => M (k + 20) 38 [g3 r, eL [ownL (gsC r) ((flC r).flatMap nbX) (tpC r) (t2C r)], lL (tpC r)]) = defC.map fun r => some (lL (rdC r)) := by kernel_rfl
theorem d_19 (k : Nat) : defC.map (fun r => M (k + 20) 19 [g3 r]) = defC.map fun r => some (.int (cC r)) := by kernel_rfl
theorem d_40 (k : Nat) : defC.map (fun r => M (k + 20) 40 [g3 r]) = defC.map fun r => some (.int (cC r)) := by kernel_rfl
theorem d_ok : defC.map okC = defC.map fun _ => true := by kernel_rfl
theorem d_10 (k : Nat) : defC.map (fun r => M (k + 20) 10 [r, A1]) = defC.map fun r => some (.bl true) := by kernel_rfl
theorem d_c : defC.map (fun r => decide (cC r ≤ 7)) = defC.map fun _ => true := by kernel_rfl
theorem okC_ok {r : D} (h : okC r = true) : Nm (nmC r) ∧ (∀ s ∈ rdC r, Nm s) ∧ (∀ d ∈ m25 r, Pr d) ∧ (rdC r).length ≤ 99 ∧ (m25 r).length ≤ 99 ∧ (gsC r).length + ((flC r).flatMap nbX).length ≤ 99 ∧ (tpC r).length + (t2C r).length ≤ 99 := by
  unfold okC at h
  simp only [Bool.and_eq_true, decide_eq_true_eq, List.all_eq_true] at h
  obtain ⟨⟨⟨⟨⟨⟨h1, h2⟩, h3⟩, h4⟩, h5⟩, h6⟩, h7⟩ := h
  exact ⟨h1, h2, fun d hd => prB_ok (h3 d hd), h4, h5, h6, h7⟩
theorem mapI {α : Type} {f : α → α} : ∀ {l : List α}, l.map f = l → ∀ r ∈ l, f r = r
  | [], _, _, h => by cases h
  | a :: l, e, r, h => by
    rw [List.map_cons] at e
    injection e with e1 e2
    rcases List.mem_cons.1 h with rfl | h
    · exact e1
    · exact mapI e2 r h
theorem good_defE : ∀ r ∈ defC, Good r (cC r) := fun r hr => by
  obtain ⟨n1, n2, n3, z1, z2, z3, z4⟩ := okC_ok (mapE d_ok r hr)
  have e := mapI d_sh r hr
  have T : Top 20 100 r [r] [cC r] (rdC r) (.tup [S (nmC r), S wDef] :: m25 r) := by
    have h25 := fun k => mapE (d_25 k) r hr
    have h16 := fun k => mapE (d_16 k) r hr
    have h14 := fun k => mapE (d_14 k) r hr
    have h28 := fun k => mapE (d_28 k) r hr
    have h35 := fun k => mapE (d_35a k) r hr
    have h35b := fun k => mapE (d_35b k) r hr
    have h36 := fun k => mapE (d_36 k) r hr
    have h34 := fun k => mapE (d_34 k) r hr
    have h33 := fun k => mapE (mapE (d_33 k) r hr)
    have h38 := fun k => mapE (d_38 k) r hr
    have h19 := fun k => mapE (d_19 k) r hr
    have h40 := fun k => mapE (d_40 k) r hr
    generalize g3 r = bd at *
    generalize gsC r = gs at *
    generalize nmC r = nm at *
    generalize m25 r = mm at *
    generalize rdC r = rd at *
    generalize olC r = ol at *
    generalize tpC r = tp at *
    generalize t2C r = t2 at *
    generalize flC r = fl at *
    generalize cC r = c at *
    subst e
    exact
    { mb := fun k => mb_plain (k := k + 20) (w := wDef) (nb := sL [nm]) rfl rfl rfl (h25 k) (by show 1 ≤ lim; unfold lim; omega)
      flt := fun k => fl_plain (w := wDef) rfl rfl
      lb := fun k => Acc.one (lb_def (k := k + 20) (tp := .non) (nb := sL [nm]) (p := fun _ => true) rfl rfl rfl (by show 1 ≤ lim; unfold lim; omega) (fun n _ => rfl) (h35 k) (h36 k))
      nr := fun k => nr_def (k := k + 20) (dls := []) (tl := lL []) (gv := .tup (sL gs)) (bd := bd) (ol := lL ol) (tp := lL tp) (es := []) (m := sL rd) (nm := fun _ => []) (p := fun _ => true) rfl rfl rfl rfl (fun _ h => by cases h) (Nat.zero_le _) (fun _ h => by cases h) (h16 k) (h14 k) (by simp; unfold lim; omega) (h28 k)
      lr := fun k => Acc.one (lr_def (k := k + 20) (os := []) (ts := []) (by simp; unfold lim; omega) (h34 k) (Acc.all fun x hx => h33 k x hx) (h35 k) (h35b k) (by unfold lim; omega) (by unfold lim; omega) (h38 k))
      mr := fun k => ⟨[bd], rfl, by
        show ((M (k + 20) 19 [bd]).bind fun x => some (some x)).bind _ = _
        rw [h19 k]; rfl⟩
      ct := fun k => ct_nest (w := wDef) rfl rfl rfl rfl (h40 k)
      sz := ⟨by simp, by simp, by omega, by simp; omega⟩
      nm := ⟨n2, fun d hd => by
        rcases List.mem_cons.1 hd with rfl | hd
        · exact ⟨_, _, rfl, n1, nm_def⟩
        · exact n3 d hd⟩ }
  exact good_up T (by omega) (by omega) (by simp)
theorem good_defC : ∀ r ∈ defC, Good r 7 := fun r hr => by
  obtain ⟨fl, ns, RD, BD, h1, h2⟩ := good_defE r hr
  have : cC r ≤ 7 := by simpa using mapE d_c r hr
  exact ⟨fl, ns, RD, BD, h1, by omega⟩
theorem ck_defC (k : Nat) : ∀ r ∈ defC, CKok (k + 20) r := fun r hr => by
  have e := mapI d_sh r hr
  exact ⟨wDef, by rw [← e]; rfl, rfl, mapE (d_10 k) r hr⟩
end K04
end
section
set_option Elab.async false
set_option linter.all false
set_option maxRecDepth 100000
set_option maxHeartbeats 4000000
/-! K04J: the fixed boxes, whens and tries of the module. -/
namespace K04
open PD
def c2C (r : D) : Int := intOf (M 20 40 [g2 r])
def okD (r : D) : Bool := okS (nmC r) && (rdC r).all okS && (m25 r).all prB && decide ((rdC r).length ≤ 79) && decide ((m25 r).length ≤ 79)
theorem okD_ok {r : D} (h : okD r = true) : Nm (nmC r) ∧ (∀ s ∈ rdC r, Nm s) ∧ (∀ d ∈ m25 r, Pr d) ∧ (rdC r).length ≤ 79 ∧ (m25 r).length ≤ 79 := by
  unfold okD at h
  simp only [Bool.and_eq_true, decide_eq_true_eq, List.all_eq_true] at h
  obtain ⟨⟨⟨⟨h1, h2⟩, h3⟩, h4⟩, h5⟩ := h
  exact ⟨h1, h2, fun d hd => prB_ok (h3 d hd), h4, h5⟩
def boxC : List D := (menuC.drop 6).take 2 ++ (menuC.drop 14).take 1
theorem x_sh : boxC.map (fun r => rBox (S (nmC r)) (g2 r)) = boxC := by kernel_rfl
theorem x_25 (k : Nat) : boxC.map (fun r => M (k + 20) 25 [r]) = boxC.map fun r => some (.lst (m25 r)) := by kernel_rfl
theorem x_36 (k : Nat) : boxC.map (fun r => M (k + 20) 36 [g2 r, .lst []]) = boxC.map fun r => some (.lst (m25 r)) := by kernel_rfl
theorem x_28 (k : Nat) : boxC.map (fun r => M (k + 20) 28 [g2 r, eL [], lL []]) = boxC.map fun r => some (lL (rdC r)) := by kernel_rfl
theorem x_38 (k : Nat) : boxC.map (fun r => M (k + 20) 38 [g2 r, eL [], lL []]) = boxC.map fun r => some (lL (rdC r)) := by kernel_rfl
theorem x_19 (k : Nat) : boxC.map (fun r => M (k + 20) 19 [g2 r]) = boxC.map fun r => some (.int (c2C r)) := by kernel_rfl
theorem x_40 (k : Nat) : boxC.map (fun r => M (k + 20) 40 [g2 r]) = boxC.map fun r => some (.int (c2C r)) := by kernel_rfl
theorem x_ok : boxC.map okD = boxC.map fun _ => true := by kernel_rfl
theorem x_10 (k : Nat) : boxC.map (fun r => M (k + 20) 10 [r, A1]) = boxC.map fun r => some (.bl true) := by kernel_rfl
theorem x_c : boxC.map (fun r => decide (c2C r ≤ 7)) = boxC.map fun _ => true := by kernel_rfl
theorem good_boxC : ∀ r ∈ boxC, Good r 7 := fun r hr => by
  obtain ⟨n1, n2, n3, z1, z2⟩ := okD_ok (mapE x_ok r hr)
  have e := mapI x_sh r hr
  have T : Top 20 100 r [r] [c2C r] (rdC r) (.tup [S (nmC r), S wBox] :: m25 r) := by
    have h25 := fun k => mapE (x_25 k) r hr
    have h28 := fun k => mapE (x_28 k) r hr
    have h36 := fun k => mapE (x_36 k) r hr
    have h38 := fun k => mapE (x_38 k) r hr
    have h19 := fun k => mapE (x_19 k) r hr
    have h40 := fun k => mapE (x_40 k) r hr
    generalize g2 r = bd at *
    generalize nmC r = nm at *
    generalize m25 r = mm at *
    generalize rdC r = rd at *
    generalize c2C r = c at *
    subst e
    exact
    { mb := fun k => mb_plain (k := k + 20) (w := wBox) (nb := sL [nm]) rfl rfl rfl (h25 k) (by show 1 ≤ lim; unfold lim; omega)
      flt := fun k => fl_plain (w := wBox) rfl rfl
      lb := fun k => Acc.one (lb_box (k := k + 20) (tp := .non) (nb := sL [nm]) (p := fun _ => true) rfl rfl rfl (by show 1 ≤ lim; unfold lim; omega) (fun n _ => rfl) (h36 k))
      nr := fun k => nr_plain (k := k + 20) (dl := eL []) (tl := lL []) (w := wBox) (es := []) (bs := [bd]) (gs := sL rd) (nm := fun _ => []) (p := fun _ => true) rfl rfl rfl (fun _ h => by cases h) (Nat.zero_le _) (fun _ h => by cases h) rfl (Acc.one (h28 k))
      lr := fun k => Acc.one (lr_box (by simp) (h38 k))
      mr := fun k => ⟨[bd], rfl, by
        show ((M (k + 20) 19 [bd]).bind fun x => some (some x)).bind _ = _
        rw [h19 k]; rfl⟩
      ct := fun k => ct_nest (w := wBox) rfl rfl rfl rfl (h40 k)
      sz := ⟨by simp, by simp, by omega, by simp; omega⟩
      nm := ⟨n2, fun d hd => by
        rcases List.mem_cons.1 hd with rfl | hd
        · exact ⟨_, _, rfl, n1, nm_box⟩
        · exact n3 d hd⟩ }
  exact good_up T (by omega) (by omega) (by simpa using mapE x_c r hr)
theorem ck_boxC (k : Nat) : ∀ r ∈ boxC, CKok (k + 20) r := fun r hr => by
  have e := mapI x_sh r hr
  exact ⟨wBox, by rw [← e]; rfl, rfl, mapE (x_10 k) r hr⟩
/-! whens and tries -/
def wtC : List D := (menuC.drop 8).take 6
def tupOf : Option D → List D
  | some (.tup l) => l
  | _ => []
def lA (r : D) : List D := tupOf (dIdx r (.int (-2)))
def lB (r : D) : List D := tupOf (dIdx r (.int (-1)))
def mX (l : List D) : List D := l.flatMap fun x => bmA (wF x) (nbF x)
def rX (l : List D) : Nms := l.flatMap fun x => (nsF x).filter (kb [] [])
theorem w_0 : wtC.map (fun r => dIdx r (.int 0)) = wtC.map fun r => some (S (wF r)) := by kernel_rfl
theorem w_wt : wtC.map (fun r => cmpd .isIn (S (wF r)) wt) = wtC.map fun r => some (.bl true) := by kernel_rfl
theorem w_db : wtC.map (fun r => cmpd .isIn (S (wF r)) db) = wtC.map fun r => some (.bl false) := by kernel_rfl
theorem w_df : wtC.map (fun r => cmpd .eq (S (wF r)) (S [100, 101, 102])) = wtC.map fun r => some (.bl false) := by kernel_rfl
theorem w_bx : wtC.map (fun r => cmpd .eq (S (wF r)) (S [98, 111, 120])) = wtC.map fun r => some (.bl false) := by kernel_rfl
theorem w_sh : wtC.map (fun r => cmpd .isIn (S (wF r)) sh) = wtC.map fun r => some (.bl false) := by kernel_rfl
theorem w_a : wtC.map (fun r => dIdx r (.int (-2))) = wtC.map fun r => some (.tup (lA r)) := by kernel_rfl
theorem w_b : wtC.map (fun r => dIdx r (.int (-1))) = wtC.map fun r => some (.tup (lB r)) := by kernel_rfl
theorem w_18 (k : Nat) : wtC.map (fun r => M (k + 20) 18 [r]) = wtC.map fun r => some (.lst [.tup (lA r), .tup (lB r)]) := by kernel_rfl
theorem w_23a (k : Nat) : wtC.map (fun r => M (k + 20) 23 [.tup (lA r)]) = wtC.map fun r => some (.lst (mX (lA r))) := by kernel_rfl
theorem w_23b (k : Nat) : wtC.map (fun r => M (k + 20) 23 [.tup (lB r)]) = wtC.map fun r => some (.lst (mX (lB r))) := by kernel_rfl
theorem w_34a (k : Nat) : wtC.map (fun r => M (k + 20) 34 [.tup (lA r)]) = wtC.map fun r => some (.lst (lA r)) := by kernel_rfl
theorem w_34b (k : Nat) : wtC.map (fun r => M (k + 20) 34 [.tup (lB r)]) = wtC.map fun r => some (.lst (lB r)) := by kernel_rfl
theorem w_33 (k : Nat) : wtC.map (fun r => M (k + 20) 33 [r]) = wtC.map fun r => some (.lst []) := by kernel_rfl
theorem w_27 (k : Nat) : wtC.map (fun r => M (k + 20) 27 [r]) = wtC.map fun r => some (.lst (esF r)) := by kernel_rfl
theorem w_26 (k : Nat) : wtC.map (fun r => (esF r).map fun e => M (k + 20) 26 [e]) = wtC.map fun r => (esF r).map fun e => some (.lst (nmF e)) := by kernel_rfl
theorem w_28a (k : Nat) : wtC.map (fun r => M (k + 20) 28 [.tup (lA r), eL [], lL []]) = wtC.map fun r => some (lL (rX (lA r))) := by kernel_rfl
theorem w_28b (k : Nat) : wtC.map (fun r => M (k + 20) 28 [.tup (lB r), eL [], lL []]) = wtC.map fun r => some (lL (rX (lB r))) := by kernel_rfl
theorem w_ln (k : Nat) (t ar tl fd a b c d e : O) : wtC.map (fun r => vFor atsF [] (.nm 6) (d__law_reads_f2 (M (k + 20))) [t, ar, tl, fd, some (false, r), some (true, .lst []), a, b, c, d, e]) = wtC.map fun r => some (.nx [t, ar, tl, fd, some (false, r), some (true, .lst (sL (nsF r))), lastAt r a, b, c, d, e]) := by kernel_rfl
theorem w_19a (k : Nat) : wtC.map (fun r => M (k + 20) 19 [.tup (lA r)]) = wtC.map fun r => some (.int (lA r).length) := by kernel_rfl
theorem w_19b (k : Nat) : wtC.map (fun r => M (k + 20) 19 [.tup (lB r)]) = wtC.map fun r => some (.int (lB r).length) := by kernel_rfl
theorem w_40a (k : Nat) : wtC.map (fun r => M (k + 20) 40 [.tup (lA r)]) = wtC.map fun r => some (.int (lA r).length) := by kernel_rfl
theorem w_40b (k : Nat) : wtC.map (fun r => M (k + 20) 40 [.tup (lB r)]) = wtC.map fun r => some (.int (lB r).length) := by kernel_rfl
theorem w_ok : wtC.map okr = wtC.map fun _ => true := by kernel_rfl
theorem w_z : wtC.map (fun r => decide ((lA r ++ lB r).length ≤ 7)) = wtC.map fun _ => true := by kernel_rfl
theorem w_10 (k : Nat) : wtC.map (fun r => M (k + 20) 10 [r, A1]) = wtC.map fun r => some (.bl true) := by kernel_rfl
def ixs : List Nat := [19, 53, 54, 8, 8, 55, 0, 22, 0]
theorem w_ix : (wtC.flatMap fun r => lA r ++ lB r) = ixs.map fun i => (U 0).getD i .non := by kernel_rfl
theorem ix_lt : ixs.all (fun i => decide (i < (U 0).length)) = true := by kernel_rfl
theorem w_cm : ∀ r ∈ wtC, ∀ x ∈ lA r ++ lB r, Cm x := fun r hr x hx => by
  have h : x ∈ ixs.map fun i => (U 0).getD i .non := by rw [← w_ix]; exact List.mem_flatMap.2 ⟨r, hr, hx⟩
  obtain ⟨i, hi, rfl⟩ := List.mem_map.1 h
  have hl : i < (U 0).length := by simpa using List.all_eq_true.1 ix_lt i hi
  rw [List.getD_eq_getElem?_getD, List.getElem?_eq_getElem hl]
  exact cm 0 _ (List.getElem_mem hl)
theorem good_wtC : ∀ r ∈ wtC, Good r 7 := fun r hr => by
  have ok : (Nm (wF r) ∧ (∀ s ∈ nbF r, Nm s) ∧ ∀ s ∈ nsF r, Nm s) ∧ (nbF r).length ≤ 3 ∧ (nsF r).length ≤ 4 := by
    have h := mapE w_ok r hr
    unfold okr at h
    simp only [Bool.and_eq_true, decide_eq_true_eq, List.all_eq_true] at h
    obtain ⟨⟨⟨⟨h1, h2⟩, h3⟩, h4⟩, h5⟩ := h
    exact ⟨⟨h1, h2, h3⟩, h4, h5⟩
  have cms := w_cm r hr
  have hz : (lA r ++ lB r).length ≤ 7 := by simpa using mapE w_z r hr
  have h0 := mapE w_0 r hr
  have el : ∀ l : List D, sL (rX l) = l.flatMap fun x => sL ((nsF x).filter (kb [] [])) := fun l => sL_fm _
  have T : Top 20 100 r (r :: (lA r ++ lB r)) [((lA r).length : Int), ((lB r).length : Int)] ((nsF r).filter (kb [] []) ++ (rX (lA r) ++ rX (lB r))) (mX (lA r) ++ mX (lB r)) :=
    { mb := fun k => mb_block (k := k + 20) h0 (mapE w_wt r hr) (mapE (w_18 k) r hr) (.cons (mapE (w_23a k) r hr) (Acc.one (mapE (w_23b k) r hr)))
      flt := fun k => fl_block h0 (mapE w_wt r hr) (mapE w_a r hr) (mapE w_b r hr) (mapE (w_34a k) r hr) (mapE (w_34b k) r hr)
      lb := fun k => by
        refine .cons (m := []) (lb_plain (nb := []) (p := fun _ => true) h0 (mapE w_df r hr) (mapE w_bx r hr) (mapE (w_33 k) r hr) (Nat.zero_le _) (fun n hn => by cases hn)) ?_
        show Acc (LBok (k + 20) .non) (lA r ++ lB r) (mX (lA r) ++ mX (lB r))
        unfold mX
        rw [← List.flatMap_append]
        exact Acc.all fun x hx => cm_lb0 (k := k + 11) (cms x hx)
      nr := fun k => by
        have z := nr_plain (k := k + 20) (dl := eL []) (tl := lL []) (r := r) (w := wF r) (es := esF r) (bs := [.tup (lA r), .tup (lB r)]) (gs := sL (rX (lA r)) ++ sL (rX (lB r))) (nm := nmF) (p := pk [] []) h0 (mapE w_df r hr) (mapE (w_27 k) r hr) (mapE (mapE (w_26 k) r hr)) (by rw [es_ns, List.length_map]; unfold lim; omega) (by rw [es_ns]; exact keep_pk (q := 0) (nmo_nil (by omega)) _) (mapE (w_18 k) r hr) (.cons (mapE (w_28a k) r hr) (Acc.one (mapE (w_28b k) r hr)))
        rw [es_ns, fm_kp, ← sL_app, ← sL_app] at z
        exact z
      lr := fun k => by
        rw [sL_app]
        refine .cons (lr_plain h0 (mapE w_bx r hr) (mapE w_df r hr) (fun t ar tl fd a b c d e => ⟨_, mapE (w_ln k t ar tl fd a b c d e) r hr⟩) (by simp) (by unfold lim; omega)) ?_
        rw [sL_app, el, el, ← List.flatMap_append]
        exact Acc.all fun x hx => cm_lr (k := k + 11) (os := []) (cms x hx) (by simp)
      mr := fun k => ⟨_, mapE (w_18 k) r hr, by
        show ((M (k + 20) 19 [.tup (lA r)]).bind fun x => some (some x)).bind (fun o => (((M (k + 20) 19 [.tup (lB r)]).bind fun x => some (some x)).bind fun o => (some ([] : List D)).bind fun l => some (match o with | none => l | some x => x :: l)).bind fun l => some (match o with | none => l | some x => x :: l)) = _
        rw [mapE (w_19a k) r hr, mapE (w_19b k) r hr]; rfl⟩
      ct := fun k => ct_block h0 (mapE w_db r hr) (mapE w_wt r hr) (mapE w_a r hr) (mapE w_b r hr) (mapE (w_40a k) r hr) (mapE (w_40b k) r hr)
      sz := by
        have e1 : (rX (lA r) ++ rX (lB r)).length ≤ 4 * (lA r ++ lB r).length := by
          unfold rX; rw [← List.flatMap_append]
          exact len_fm fun x hx => Nat.le_trans (List.length_filter_le _ _) (cms x hx).okk.2.2
        have e2 : (mX (lA r) ++ mX (lB r)).length ≤ 4 * (lA r ++ lB r).length := by
          unfold mX; rw [← List.flatMap_append]
          exact len_fm fun x hx => by unfold bmA; rw [List.length_map]; have := (cms x hx).okk.2.1; omega
        refine ⟨by rw [List.length_cons]; omega, by simp, ?_, by omega⟩
        have := List.length_filter_le (kb [] []) (nsF r)
        rw [List.length_append]; omega
      nm := by
        refine ⟨fun s hs => ?_, fun d hd => ?_⟩
        · rcases List.mem_append.1 hs with h | h
          · exact ok.1.2.2 s (List.mem_filter.1 h).1
          · unfold rX at h; rw [← List.flatMap_append] at h
            obtain ⟨x, hx, h⟩ := List.mem_flatMap.1 h
            exact (cms x hx).okk.1.2.2 s (List.mem_filter.1 h).1
        · unfold mX at hd; rw [← List.flatMap_append] at hd
          obtain ⟨x, hx, h⟩ := List.mem_flatMap.1 hd
          exact bmA_pr (cms x hx).okk.1.1 (cms x hx).okk.1.2.1 d h }
  exact good_up T (by omega) (by omega) (by rw [List.length_append] at hz; simp; omega)
theorem ck_wtC (k : Nat) : ∀ r ∈ wtC, CKok (k + 20) r := fun r hr => ⟨wF r, mapE w_0 r hr, mapE w_sh r hr, mapE (w_10 k) r hr⟩
theorem menuC_split : menuC = menuC.take 6 ++ (((menuC.drop 6).take 2) ++ (((menuC.drop 8).take 6) ++ ((menuC.drop 14).take 1 ++ menuC.drop 15))) := by kernel_rfl
theorem menuC_cases {P : D → Prop} (h1 : ∀ r ∈ defC, P r) (h2 : ∀ r ∈ boxC, P r) (h3 : ∀ r ∈ wtC, P r) : ∀ r ∈ menuC, P r := fun r hr => by
  rw [menuC_split] at hr
  simp only [List.mem_append] at hr
  rcases hr with h | h | h | h | h
  · exact h1 r (by unfold defC; exact List.mem_append.2 (Or.inl h))
  · exact h2 r (by unfold boxC; exact List.mem_append.2 (Or.inl h))
  · exact h3 r h
  · exact h2 r (by unfold boxC; exact List.mem_append.2 (Or.inr h))
  · exact h1 r (by unfold defC; exact List.mem_append.2 (Or.inr h))
theorem good_menu : ∀ r ∈ menu, Good r 7 := fun r hr => by
  unfold menu at hr
  rcases List.mem_append.1 hr with h | h
  · obtain ⟨fl, ns, RD, BD, h1, h2⟩ := good_tops 0 r (by unfold tops; exact List.mem_append.2 (Or.inl h))
    exact ⟨fl, ns, RD, BD, h1, by omega⟩
  · exact menuC_cases good_defC good_boxC good_wtC r h
theorem ck_menu (k : Nat) : ∀ r ∈ menu, CKok (k + 20) r := fun r hr => by
  unfold menu at hr
  rcases List.mem_append.1 hr with h | h
  · exact ck_P (k + 11) r h
  · exact menuC_cases (ck_defC k) (ck_boxC k) (ck_wtC k) r h
end K04
end
section
set_option Elab.async false
set_option linter.all false
set_option maxRecDepth 100000
set_option maxHeartbeats 4000000
/-! K04K: the rows of a module, whole; one turn of the law. -/
namespace K04
open PD
structure TopL (l fl : List D) (ns : List Int) (RD : Nms) (BD : List D) : Prop where
  mb : ∀ k, Acc (MBok (k + 30)) l BD
  flt : ∀ k, Acc (FLok (k + 30)) l fl
  lb : ∀ k, Acc (LBok (k + 30) .non) fl BD
  nr : ∀ k, Acc (NRok (k + 30) (eL []) (lL [])) l (sL RD)
  lr : ∀ k, Acc (LRok (k + 30) (eL []) (lL [])) fl (sL RD)
  mr : ∀ k, Acc (MRok (k + 30)) l ns
  ct : ∀ k, Acc (CTok (k + 30)) l ns
  sz : fl.length ≤ 300 * l.length ∧ ns.length ≤ 300 * l.length ∧ RD.length ≤ 300 * l.length ∧ BD.length ≤ 300 * l.length
  nm : (∀ s ∈ RD, Nm s) ∧ ∀ d ∈ BD, Pr d
theorem topL_app {l fl l' fl' : List D} {ns ns' : List Int} {RD RD' : Nms} {BD BD' : List D} (a : TopL l fl ns RD BD) (b : TopL l' fl' ns' RD' BD') : TopL (l ++ l') (fl ++ fl') (ns ++ ns') (RD ++ RD') (BD ++ BD') where
  mb k := (a.mb k).app (b.mb k)
  flt k := (a.flt k).app (b.flt k)
  lb k := (a.lb k).app (b.lb k)
  nr k := by rw [sL_app]; exact (a.nr k).app (b.nr k)
  lr k := by rw [sL_app]; exact (a.lr k).app (b.lr k)
  mr k := (a.mr k).app (b.mr k)
  ct k := (a.ct k).app (b.ct k)
  sz := by
    obtain ⟨h1, h2, h3, h4⟩ := a.sz
    obtain ⟨g1, g2, g3, g4⟩ := b.sz
    simp only [List.length_append, Nat.mul_add]
    exact ⟨by omega, by omega, by omega, by omega⟩
  nm := ⟨fun s hs => (List.mem_append.1 hs).elim (a.nm.1 s) (b.nm.1 s), fun s hs => (List.mem_append.1 hs).elim (a.nm.2 s) (b.nm.2 s)⟩
theorem topL_one {r : D} {fl : List D} {ns : List Int} {RD : Nms} {BD : List D} (a : Top 30 300 r fl ns RD BD) : TopL [r] fl ns RD BD where
  mb k := Acc.one (a.mb k)
  flt k := Acc.one (a.flt k)
  lb k := a.lb k
  nr k := Acc.one (a.nr k)
  lr k := a.lr k
  mr k := Acc.one (a.mr k)
  ct k := Acc.one (a.ct k)
  sz := a.sz
  nm := a.nm
theorem topL_nil : TopL [] [] [] [] [] where
  mb k := .nil
  flt k := .nil
  lb k := .nil
  nr k := .nil
  lr k := .nil
  mr k := .nil
  ct k := .nil
  sz := ⟨Nat.le_refl _, Nat.le_refl _, Nat.le_refl _, Nat.le_refl _⟩
  nm := ⟨fun s h => by (cases h), fun s h => by (cases h)⟩
/-- a list of good rows; m bounds what their blocks count -/
def GoodL (l : List D) (m : Int) : Prop := ∃ fl ns RD BD, TopL l fl ns RD BD ∧ ns.sum ≤ m
theorem goodL_nil : GoodL [] 0 := ⟨_, _, _, _, topL_nil, by simp⟩
theorem goodL_app {l l' : List D} {m m' : Int} (a : GoodL l m) (b : GoodL l' m') : GoodL (l ++ l') (m + m') := by
  obtain ⟨fl, ns, RD, BD, h, hm⟩ := a
  obtain ⟨fl', ns', RD', BD', h', hm'⟩ := b
  exact ⟨_, _, _, _, topL_app h h', by rw [List.sum_append]; omega⟩
theorem goodL_one {r : D} {m : Int} (a : Good r m) : GoodL [r] m := by
  obtain ⟨fl, ns, RD, BD, h, hm⟩ := a
  exact ⟨_, _, _, _, topL_one h, hm⟩
theorem goodL_all {m : Int} : ∀ {l : List D}, (∀ r ∈ l, Good r m) → GoodL l (m * l.length)
  | [], _ => by simpa using goodL_nil
  | r :: l, h => by
    have z := goodL_app (goodL_one (h r (by simp))) (goodL_all (l := l) fun x hx => h x (by simp [hx]))
    rw [List.length_cons, show m * ((l.length + 1 : Nat) : Int) = m + m * l.length by rw [Int.natCast_add, Int.mul_add]; simp [Int.add_comm]]
    exact z
theorem eqds_refl_pr : ∀ {l : List D}, (∀ d ∈ l, Pr d) → eqds l l = true ∧ plns 59 l = true
  | [], _ => ⟨rfl, rfl⟩
  | d :: l, h => by
    obtain ⟨a, b, rfl, ha, hb⟩ := h d (by simp)
    obtain ⟨e1, e2⟩ := eqds_refl_pr (l := l) fun x hx => h x (by simp [hx])
    refine ⟨?_, ?_⟩
    · show ((a == a && (b == b && true)) && eqds l l) = true
      rw [e1]; simp
    · show ((pln 58 (S a) && (pln 58 (S b) && true)) && plns 59 l) = true
      rw [e2, show pln 58 (S a) = true from ha, show pln 58 (S b) = true from hb]; rfl
theorem eqds_refl_s : ∀ (l : Nms), eqds (sL l) (sL l) = true
  | [] => rfl
  | s :: l => by
    show ((s == s) && eqds (sL l) (sL l)) = true
    rw [eqds_refl_s l]; simp
theorem ne_pr {l : List D} (h : ∀ d ∈ l, Pr d) : cmpd .ne (.lst l) (.lst l) = some (.bl false) := by
  obtain ⟨e1, e2⟩ := eqds_refl_pr h
  have z : (if pln 60 (.lst l) && pln 60 (.lst l) then some (D.bl (!eqd (.lst l) (.lst l))) else none) = some (.bl false) := by
    rw [show pln 60 (.lst l) = true from e2, show eqd (.lst l) (.lst l) = true from e1]; rfl
  exact z
theorem ne_sL {l : Nms} (h : ∀ s ∈ l, Nm s) : cmpd .ne (lL l) (lL l) = some (.bl false) := by
  have z : (if pln 60 (lL l) && pln 60 (lL l) then some (D.bl (!eqd (lL l) (lL l))) else none) = some (.bl false) := by
    rw [show pln 60 (lL l) = true from pln_strs h, show eqd (lL l) (lL l) = true from eqds_refl_s l]; rfl
  exact z
theorem insS_mem {x s : List Nat} : ∀ {l : Nms}, s ∈ insS x l → s = x ∨ s ∈ l
  | [], h => by simp [insS] at h; exact Or.inl h
  | y :: l, h => by
    unfold insS at h
    split at h
    · exact Or.inr h
    split at h
    · rcases List.mem_cons.1 h with h | h
      · exact Or.inl h
      · exact Or.inr h
    · rcases List.mem_cons.1 h with h | h
      · exact Or.inr (by simp [h])
      · rcases insS_mem h with h | h
        · exact Or.inl h
        · exact Or.inr (by simp [h])
theorem srtU_mem {s : List Nat} : ∀ {l : Nms}, s ∈ srtU l → s ∈ l
  | [], h => by simp [srtU] at h
  | x :: l, h => by
    have h' : s ∈ insS x (srtU l) := h
    rcases insS_mem h' with h | h
    · simp [h]
    · exact List.mem_cons_of_mem _ (srtU_mem h)
/-- all that one turn asks of its rows -/
structure TurnOk (k : Nat) (rows : D) : Prop where
  h : ∃ (RD : Nms) (BD : List D), M (k + 33) 21 [rows] = some (.lst BD) ∧ M (k + 33) 22 [rows] = some (lL (srtU RD)) ∧ M (k + 33) 36 [rows, .non] = some (.lst BD) ∧ M (k + 33) 38 [rows, .lst [], .lst []] = some (lL RD) ∧ RD.length ≤ 4000 ∧ (∀ s ∈ RD, Nm s) ∧ (∀ d ∈ BD, Pr d) ∧ BD.length < lim
theorem cnt_ok {l : List D} {m : Int} (g : GoodL l m) (hl : l.length ≤ 12) : ∃ n : Int, n ≤ l.length + m ∧ ∀ k, M (k + 31) 19 [.tup l] = some (.int n) ∧ M (k + 31) 40 [.tup l] = some (.int n) := by
  obtain ⟨fl, ns, RD, BD, h, hm⟩ := g
  exact ⟨l.length + ns.sum, by omega, fun k => ⟨mr_list (h.mr k) (by have := h.sz.2.1; unfold lim; omega), ct_list (h.ct k)⟩⟩
theorem turn_ok {hd rest : List D} {m n : Int} (k : Nat) (g : GoodL (hd ++ rest) m) (hl : (hd ++ rest).length ≤ 12) (hh : HDok (k + 31) hd) (hc : ∀ r ∈ rest, CKok (k + 31) r) (h19 : M (k + 31) 19 [.tup (hd ++ rest)] = some (.int n)) (hn : n ≤ 40) : TurnOk k (.tup (hd ++ rest)) := by
  obtain ⟨fl, ns, RD, BD, h, hm⟩ := g
  obtain ⟨z1, z2, z3, z4⟩ := h.sz
  generalize hl0 : hd ++ rest = l at *
  have h20 : M (k + 32) 20 [.tup l] = some .non := by rw [← hl0] at h19 ⊢; exact ck_ok (k := k + 31) hh hc h19 hn
  have h23 : M (k + 32) 23 [.tup l] = some (.lst BD) := mb_list (k := k + 31) (h.mb (k + 1)) (by unfold lim; omega)
  have h28 : M (k + 32) 28 [.tup l, .lst [], .lst []] = some (lL RD) := nr_list (k := k + 31) (h.nr (k + 1)) (by rw [List.length_map]; unfold lim; omega)
  have h34 : M (k + 32) 34 [.tup l] = some (.lst fl) := fl_list (k := k + 31) (h.flt (k + 1)) (by unfold lim; omega)
  refine ⟨RD, BD, bo_ok h20 h23, re_ok h20 h28 (by omega), ?_, ?_, by omega, h.nm.1, h.nm.2, by unfold lim; omega⟩
  · exact lb_list (k := k + 32) h34 (h.lb (k + 2)) (by unfold lim; omega)
  · exact lr_list (k := k + 32) h34 (h.lr (k + 2)) (by rw [List.length_map]; unfold lim; omega)
theorem f2_ok {k : Nat} {rows : D} (t : TurnOk k rows) (a b c d e f g x y z : O) : ∃ f' g', d_law_f2 (M (k + 33)) [a, b, c, some (false, rows), d, e, f, g, x, y] = some (.nx [a, b, c, some (false, rows), d, e, f', g', x, y]) := by
  obtain ⟨RD, BD, h21, h22, h36, h38, z1, n1, n2, z2⟩ := t.h
  refine ⟨some (true, .lst (BD ++ [.tup []])), some (true, .lst (sL (srtU RD)).reverse), ?_⟩
  unfold d_law_f2
  refine (q_seq (ρ' := [a, b, c, some (false, rows), d, e, some (true, .lst BD), some (true, lL (srtU RD)), x, y]) ?_).trans ?_
  · show ((M (k + 33) 21 [rows]).bind fun d1 => (M (k + 33) 22 [rows]).bind fun d2 => some (Out.nx [a, b, c, some (false, rows), d, e, some (true, d1), some (true, d2), x, y])) = _
    rw [h21, h22]; rfl
  refine (q_seq (ρ' := [a, b, c, some (false, rows), d, e, some (true, .lst BD), some (true, lL (srtU RD)), x, y]) ?_).trans ?_
  · refine (q_if (b := false) ?_).trans rfl
    have e1 : vSortS (vSetL (vCall (M (k + 33)) 38 (vCons (vVar 3) (vCons (vLst (vNil)) (vCons (vLst (vNil)) vNil))))) [a, b, c, some (false, rows), d, e, some (true, .lst BD), some (true, lL (srtU RD)), x, y] = some (lL (srtU RD)) := by
      have e2 : vSetL (vCall (M (k + 33)) 38 (vCons (vVar 3) (vCons (vLst (vNil)) (vCons (vLst (vNil)) vNil)))) [a, b, c, some (false, rows), d, e, some (true, .lst BD), some (true, lL (srtU RD)), x, y] = some RD := by
        show ((M (k + 33) 38 [rows, .lst [], .lst []]).bind fun x => (lstD x).bind fun l => (allM strD l).bind fun ss => if ss.length ≤ 4000 then some ss else none) = _
        rw [h38]
        show ((allM strD (sL RD)).bind fun ss => if ss.length ≤ 4000 then some ss else none) = _
        rw [allM_str]
        show (if RD.length ≤ 4000 then some RD else none) = _
        rw [if_pos z1]
      show ((vSetL _ [a, b, c, some (false, rows), d, e, some (true, .lst BD), some (true, lL (srtU RD)), x, y]).bind fun ss => some (D.lst ((srtU ss).map D.str))) = _
      rw [e2]; rfl
    show (((M (k + 33) 36 [rows, .non]).bind fun z => cmpd .ne (.lst BD) z).bind fun v => (truD v).bind fun q => if q then some (D.bl true) else ((vSortS _ [a, b, c, some (false, rows), d, e, some (true, .lst BD), some (true, lL (srtU RD)), x, y]).bind fun z => cmpd .ne (lL (srtU RD)) z)) = _
    rw [h36, e1]
    show (((cmpd .ne (.lst BD) (.lst BD))).bind fun v => (truD v).bind fun q => if q then some (D.bl true) else cmpd .ne (lL (srtU RD)) (lL (srtU RD))) = _
    rw [ne_pr n2, ne_sL fun s hs => n1 s (srtU_mem hs)]; rfl
  refine (q_seq (ρ' := [a, b, c, some (false, rows), d, e, some (true, .lst (BD ++ [.tup []])), some (true, lL (srtU RD)), x, y]) ?_).trans ?_
  · exact q_app (l := BD) (d := .tup []) rfl rfl z2
  rfl
end K04
end
section
set_option Elab.async false
set_option linter.all false
set_option maxRecDepth 100000
set_option maxHeartbeats 4000000
/-! K04M: the law's cells. -/
namespace K04
open PD L2
theorem v2_ok {g : D → D → Option D} {f h : F} {ρ : PD.Env} {x y z : D} (hf : f ρ = some x) (hh : h ρ = some y) (hg : g x y = some z) : v2 g f h ρ = some z := by
  unfold v2; rw [hf]; show (h ρ).bind _ = _; rw [hh]; exact hg
theorem v1_ok {g : D → Option D} {f : F} {ρ : PD.Env} {x z : D} (hf : f ρ = some x) (hg : g x = some z) : v1 g f ρ = some z := by
  unfold v1; rw [hf]; exact hg
theorem mulR {a b : Int} (h1 : -18446744073709551616 < b) (h2 : b < 18446744073709551616) : bopd .mul (.int a) (.int b) = some (.int (a * b)) := by
  show (if ((decide (-18446744073709551616 < a) && decide (a < 18446744073709551616)) || (decide (-18446744073709551616 < b) && decide (b < 18446744073709551616))) = true then some (D.int (a * b)) else none) = _
  rw [decide_eq_true h1, decide_eq_true h2]; simp
theorem mulL {a b : Int} (h1 : -18446744073709551616 < a) (h2 : a < 18446744073709551616) : bopd .mul (.int a) (.int b) = some (.int (a * b)) := by
  show (if ((decide (-18446744073709551616 < a) && decide (a < 18446744073709551616)) || (decide (-18446744073709551616 < b) && decide (b < 18446744073709551616))) = true then some (D.int (a * b)) else none) = _
  rw [decide_eq_true h1, decide_eq_true h2]; simp
theorem addE {a b : Int} : bopd .add (.int a) (.int b) = some (.int (a + b)) := rfl
theorem modE {a b : Int} (h : 0 < b) : bopd .mod (.int a) (.int b) = some (.int (a % b)) := by
  show (if 0 < b then some (D.int (a % b)) else none) = _
  rw [if_pos h]
theorem fdivE {a b : Int} (h : 0 < b) (h2 : b < 1073741824) : bopd .fdiv (.int a) (.int b) = some (.int (a / b)) := by
  show (if (decide (0 < b) && decide (b < 1073741824)) = true then some (D.int (a / b)) else none) = _
  rw [decide_eq_true h, decide_eq_true h2]; rfl
theorem at_ok {l : List D} {i : Int} (h0 : 0 ≤ i) (h1 : i < l.length) : ∃ x ∈ l, atI l i = some x := by
  have hj : i.toNat < l.length := by omega
  refine ⟨l[i.toNat], List.getElem_mem hj, ?_⟩
  unfold atI ixN
  rw [if_pos h0, if_pos h1]
  show l[i.toNat]? = _
  exact List.getElem?_eq_getElem hj
theorem idxL {l : List D} {i : Int} (h0 : 0 ≤ i) (h1 : i < l.length) : ∃ x ∈ l, dIdx (.lst l) (.int i) = some x := at_ok h0 h1
theorem idxT {l : List D} {i : Int} (h0 : 0 ≤ i) (h1 : i < l.length) : ∃ x ∈ l, dIdx (.tup l) (.int i) = some x := at_ok h0 h1
theorem cut63 {l : List D} (h : l.length ≤ 63) : cutD l none (some 63) = l := by
  unfold cutD HT.sIx
  rw [List.drop_zero, List.take_of_length_le]
  show l.length ≤ (if (63 : Int) < 0 then ((63 : Int) + (l.length : Int)).toNat else min (63 : Int).toNat l.length) - 0
  rw [if_neg (by decide)]
  show l.length ≤ min 63 l.length - 0
  omega
abbrev cAt : PD.Env → Option Out := d__law_cell_at (M 0)
theorem cell_ok {ns : List Int} (hn : ns.length ≤ 63) {a : Int} (h0 : 0 ≤ a) (k : Nat) : ∃ v : Int, M (k + 1) 29 [.scr ns, .int a] = some (.int v) := by
  have hc : ∃ c : List Int, c ≠ [] ∧ c.length ≤ 63 ∧ vIf (v2 (cmpd .ne) (vVar 0) (vLst (vNil))) (vSlc dSlL (vVar 0) (vNo) (vSo (vK (.int 63)))) (vLst (vCons (vK (.int 5)) vNil)) [some (false, .scr ns), some (false, .int a), none, none, none, none, none, none] = some (.lst (c.map D.int)) := by
    cases ns with
    | nil => exact ⟨[5], by simp, by simp, rfl⟩
    | cons x ns =>
      refine ⟨x :: ns, by simp, hn, ?_⟩
      show mkL (cutD ((x :: ns).map D.int) none (some 63)) = _
      rw [cut63 (by rw [List.length_map]; exact hn)]
      unfold mkL
      rw [if_pos (by rw [List.length_map]; unfold lim; omega)]
  obtain ⟨c, c1, c2, e1⟩ := hc
  have hl : 0 < (c.length : Int) := by have : 0 < c.length := List.length_pos_iff.2 c1; omega
  obtain ⟨x, hx, e2⟩ := idxL (l := c.map D.int) (i := a % c.length) (Int.emod_nonneg _ (by omega)) (by rw [List.length_map]; exact Int.emod_lt_of_pos _ hl)
  obtain ⟨cv, hcv, rfl⟩ := List.mem_map.1 hx
  have hlen : dLen (.lst (c.map D.int)) = some (.int c.length) := by
    show some (D.int ((c.map D.int).length : Nat)) = _
    rw [List.length_map]
  obtain ⟨cell, hcell⟩ : ∃ cell, cv + 13 * (a / c.length) = cell := ⟨_, rfl⟩
  obtain ⟨mixed, hm⟩ : ∃ mixed, ((cell % 1000003 + 977 * a) * 48271 + 31 * (cell / 1000003 % 999983) + c.sum % 65521) % 2147483647 = mixed := ⟨_, rfl⟩
  refine ⟨mixed * (mixed + 31 * a + 7) % 2147483629 * 65537 + cell / 1000003 % 999983, ?_⟩
  · show ((d__law_cell_at (M k) (startE 8 [.scr ns, .int a])).bind fun o => match o with | .nx _ => if false then none else some .non | .rt d => some d) = _
    unfold d__law_cell_at
    rw [q_seq (ρ' := [some (false, .scr ns), some (false, .int a), some (true, .lst (c.map D.int)), none, none, none, none, none]) (q_asg e1 (by show 2 < 8; decide))]
    rw [q_seq (ρ' := [some (false, .scr ns), some (false, .int a), some (true, .lst (c.map D.int)), some (false, .int cell), some (false, .int a), none, none, none]) ?a]
    rw [q_seq (ρ' := [some (false, .scr ns), some (false, .int a), some (true, .lst (c.map D.int)), some (false, .int cell), some (false, .int a), some (false, .int (cell % 1000003)), some (false, .int (cell / 1000003 % 999983)), none]) ?b]
    rw [q_seq (ρ' := [some (false, .scr ns), some (false, .int a), some (true, .lst (c.map D.int)), some (false, .int cell), some (false, .int a), some (false, .int (cell % 1000003)), some (false, .int (cell / 1000003 % 999983)), some (false, .int mixed)]) ?c]
    have m1 : 0 ≤ mixed := by rw [← hm]; exact Int.emod_nonneg _ (by decide)
    have m2 : mixed < 2147483647 := by rw [← hm]; exact Int.emod_lt_of_pos _ (by decide)
    rw [q_seqR (d := .int (mixed * (mixed + 31 * a + 7) % 2147483629 * 65537 + cell / 1000003 % 999983)) (q_ret ?d)]
    · rfl
    case a =>
      show ((v2 (bopd .add) (v2 dIdx (vVar 2) (v2 (bopd .mod) (vVar 1) (v1 dLen (vVar 2)))) (v2 (bopd .mul) (vK (.int 13)) (v2 (bopd .fdiv) (vVar 1) (v1 dLen (vVar 2)))) [some (false, .scr ns), some (false, .int a), some (true, .lst (c.map D.int)), none, none, none, none, none]).bind fun d1 => some (Out.nx [some (false, .scr ns), some (false, .int a), some (true, .lst (c.map D.int)), some (false, d1), some (false, .int a), none, none, none])) = _
      rw [v2_ok (z := .int (cv + 13 * (a / c.length))) (v2_ok (x := .lst (c.map D.int)) rfl (v2_ok (x := .int a) rfl (v1_ok (x := .lst (c.map D.int)) rfl hlen) (modE hl)) e2) (v2_ok (x := .int 13) rfl (v2_ok (x := .int a) rfl (v1_ok (x := .lst (c.map D.int)) rfl hlen) (fdivE hl (by omega))) (mulL (by decide) (by decide))) addE, hcell]
      rfl
    case b => rfl
    case c =>
      refine (q_asg (d := .int mixed) ?_ (by show 7 < 8; decide)).trans rfl
      rw [← hm]
      refine v2_ok (v2_ok (v2_ok (v2_ok (v2_ok (x := .int (cell % 1000003)) rfl (v2_ok (x := .int 977) (y := .int a) rfl rfl (mulL (by decide) (by decide))) addE) (y := .int 48271) rfl (mulR (by decide) (by decide))) (v2_ok (x := .int 31) (y := .int (cell / 1000003 % 999983)) rfl rfl (mulL (by decide) (by decide))) addE) (v2_ok (x := .int c.sum) (y := .int 65521) (v1_ok (x := .lst (c.map D.int)) rfl ?_) rfl (modE (by decide))) addE) (y := .int 2147483647) rfl (modE (by decide))
      show ((allM intD (c.map D.int)).bind fun ns => some (D.int ns.sum)) = _
      rw [allM_int]; rfl
    case d =>
      exact v2_ok (v2_ok (v2_ok (v2_ok (x := .int mixed) rfl (v2_ok (v2_ok (x := .int mixed) rfl (v2_ok (x := .int 31) (y := .int a) rfl rfl (mulL (by decide) (by decide))) addE) (y := .int 7) rfl addE) (mulL (by omega) (by omega))) (y := .int 2147483629) rfl (modE (by decide))) (y := .int 65537) rfl (mulR (by decide) (by decide))) (y := .int (cell / 1000003 % 999983)) rfl addE
end K04
end
section
set_option Elab.async false
set_option linter.all false
set_option maxRecDepth 100000
set_option maxHeartbeats 4000000
/-! K04N: the law's rows. -/
namespace K04
open PD L2
def heads : List (List D) := ([] :: shows.map fun r => [r]).flatMap fun s => ([] :: hides.map fun r => [r]).map fun h => s ++ h
def hstep (C : Nat → List D → Option D) : D → PD.Env → Option Out := fun d ρ => (bindT (.tp [2, 3]) d ρ).bind fun r1 => d_check_rows_f1 C r1
def rI (hd : List D) (i : Nat) : O := match goFor (hstep (M 20)) (numb 0 hd) [none, some (true, .lst []), none, none, none, none, none] with | some (.nx ρ) => ρ.getD i none | _ => none
theorem hd_run (k : Nat) (t : O) : heads.map (fun hd => goFor (hstep (M (k + 20))) (numb 0 hd) [t, some (true, .lst []), none, none, none, none, none]) = heads.map fun hd => some (.nx [t, rI hd 1, rI hd 2, rI hd 3, rI hd 4, rI hd 5, rI hd 6]) := by kernel_rfl
theorem hd_ok (k : Nat) : ∀ hd ∈ heads, HDok (k + 20) hd := fun hd h t => ⟨_, _, _, _, _, _, mapE (hd_run k t) hd h⟩
theorem vcons_ok {f : F} {g : Fs} {ρ : PD.Env} {x : D} {r : List D} (hf : f ρ = some x) (hg : g ρ = some r) : vCons f g ρ = some (x :: r) := by unfold vCons; rw [hf]; show (g ρ).bind _ = _; rw [hg]; rfl
theorem vtup_ok {g : Fs} {ρ : PD.Env} {r : List D} (hg : g ρ = some r) (hz : r.length ≤ lim) : vTup g ρ = some (.tup r) := by unfold vTup; rw [hg]; show mkT r = _; unfold mkT; rw [if_pos hz]
theorem eqI {a b : Int} : cmpd .eq (.int a) (.int b) = some (.bl (a == b)) := rfl
theorem gtI {a b : Int} : cmpd .gt (.int a) (.int b) = some (.bl (decide (b < a))) := rfl
theorem menu_len : menu.length = 66 := by kernel_rfl
def defF : D := .tup [S [100, 101, 102], S [102], .tup [], .tup [.tup [S [103, 105, 118, 101], nX]]]
theorem defF_mem : defF ∈ defC := List.mem_of_getElem? (i := 0) (by kernel_rfl)
theorem defF_menu : defF ∈ menu := List.mem_of_getElem? (i := 50) (by kernel_rfl)
theorem defF_c : cC defF = 1 := by kernel_rfl
theorem good_defF : Good defF 1 := by have := good_defE defF defF_mem; rwa [defF_c] at this
/-- one of the samples, by a cell -/
def PickR (K : Nat) (ns : List Int) (a : Int) (d : D) (m : List D) : Prop := ∃ j v x, d = .int j ∧ M K 29 [.scr ns, .int (a + 1 + j)] = some (.int v) ∧ dIdx (.lst menu) (.int (v % 66)) = some x ∧ m = [x]
theorem pick_all {ns : List Int} (hn : ns.length ≤ 63) {a : Int} (h0 : 0 ≤ a) (k : Nat) : ∀ (l : List Nat), ∃ ms, Acc (PickR (k + 1) ns a) (l.map fun (j : Nat) => D.int j) ms ∧ (∀ x ∈ ms, x ∈ menu) ∧ ms.length = l.length
  | [] => ⟨[], .nil, (fun x h => by cases h), rfl⟩
  | j :: l => by
    obtain ⟨ms, h1, h2, h3⟩ := pick_all hn h0 k l
    obtain ⟨v, hv⟩ := cell_ok hn (a := a + 1 + j) (by omega) k
    obtain ⟨x, hx, ex⟩ := idxL (l := menu) (i := v % 66) (Int.emod_nonneg _ (by decide)) (by rw [menu_len]; exact Int.emod_lt_of_pos _ (by decide))
    refine ⟨[x] ++ ms, .cons ⟨j, v, x, rfl, hv, ex, rfl⟩ h1, fun y hy => ?_, by simp [h3]⟩
    rcases List.mem_append.1 hy with h | h
    · simp at h; subst h; exact hx
    · exact h2 y h
structure RowsOk (l : List D) : Prop where
  h : ∃ (hd rest : List D) (m : Int), l = hd ++ rest ∧ hd ∈ heads ∧ GoodL l m ∧ (l.length : Int) + m ≤ 40 ∧ l.length ≤ 10 ∧ ∀ k, ∀ r ∈ rest, CKok (k + 20) r
theorem good_sh {s h : List D} (hs : s = [] ∨ ∃ r ∈ shows, s = [r]) (hh : h = [] ∨ ∃ r ∈ hides, h = [r]) : s ++ h ∈ heads ∧ GoodL (s ++ h) 0 ∧ (s ++ h).length ≤ 2 := by
  have g1 : GoodL s 0 ∧ s.length ≤ 1 := by
    rcases hs with rfl | ⟨r, hr, rfl⟩
    · exact ⟨goodL_nil, by simp⟩
    · exact ⟨goodL_one (good_tops 0 r (by unfold tops; simp [hr])), by simp⟩
  have g2 : GoodL h 0 ∧ h.length ≤ 1 := by
    rcases hh with rfl | ⟨r, hr, rfl⟩
    · exact ⟨goodL_nil, by simp⟩
    · exact ⟨goodL_one (good_tops 0 r (by unfold tops; simp [hr])), by simp⟩
  refine ⟨?_, by have := goodL_app g1.1 g2.1; simpa using this, by rw [List.length_append]; omega⟩
  unfold heads
  refine List.mem_flatMap.2 ⟨s, ?_, List.mem_map.2 ⟨h, ?_, rfl⟩⟩
  · rcases hs with rfl | ⟨r, hr, rfl⟩
    · simp
    · exact List.mem_cons_of_mem _ (List.mem_map.2 ⟨r, hr, rfl⟩)
  · rcases hh with rfl | ⟨r, hr, rfl⟩
    · simp
    · exact List.mem_cons_of_mem _ (List.mem_map.2 ⟨r, hr, rfl⟩)
abbrev letE : F := vTup (vCons (vK (.str [108, 101, 116])) (vCons (vVar 5) (vCons (vTup (vCons (vK (.str [110, 117, 109])) (vCons (v2 (bopd .mod) (v2 (bopd .fdiv) (vVar 3) (vK (.int 560))) (vK (.int 50))) vNil))) vNil)))
theorem rows_ok {ns : List Int} (hn : ns.length ≤ 63) {a : Int} (h0 : 0 ≤ a) (k : Nat) : ∃ l, M (k + 2) 32 [.scr ns, .int a, .lst menu] = some (.tup l) ∧ RowsOk l := by
  obtain ⟨v, hv⟩ := cell_ok hn h0 k
  -- show
  obtain ⟨i3, hi3⟩ : ∃ i3, v / 7 % 3 = i3 := ⟨_, rfl⟩
  obtain ⟨xs, hxs, exs⟩ := idxT (l := [.tup [S [120]], .tup [S [120], S [121]], .tup [S [98], S [120]]]) (i := v / 7 % 3) (Int.emod_nonneg _ (by decide)) (by show v / 7 % 3 < 3; exact Int.emod_lt_of_pos _ (by decide))
  obtain ⟨xh, hxh, exh⟩ := idxT (l := [.tup [S [122]], .tup [S [102], S [122]]]) (i := v / 5 % 2) (Int.emod_nonneg _ (by decide)) (by show v / 5 % 2 < 2; exact Int.emod_lt_of_pos _ (by decide))
  obtain ⟨s, hs, ehs⟩ : ∃ s : List D, (s = [] ∨ ∃ r ∈ shows, s = [r]) ∧ s = if (v % 7 == 0) = true then [.tup [S [115, 104, 111, 119], xs]] else [] := by
    refine ⟨_, ?_, rfl⟩
    split
    · refine Or.inr ⟨_, ?_, rfl⟩
      unfold shows
      simp only [List.mem_cons, List.not_mem_nil, or_false] at hxs
      rcases hxs with rfl | rfl | rfl <;> simp
    · exact Or.inl rfl
  obtain ⟨h, hh, ehh⟩ : ∃ h : List D, (h = [] ∨ ∃ r ∈ hides, h = [r]) ∧ h = if (v % 5 == 0) = true then [.tup [S [104, 105, 100, 101], xh]] else [] := by
    refine ⟨_, ?_, rfl⟩
    split
    · refine Or.inr ⟨_, ?_, rfl⟩
      unfold hides
      simp only [List.mem_cons, List.not_mem_nil, or_false] at hxh
      rcases hxh with rfl | rfl <;> simp
    · exact Or.inl rfl
  obtain ⟨g1, g2, g3⟩ := good_sh hs hh
  obtain ⟨n, hn2⟩ : ∃ n : Nat, v / 560 % 50 = (n : Int) := ⟨(v / 560 % 50).toNat, by have := Int.emod_nonneg (v / 560) (b := 50) (by decide); omega⟩
  have hn3 : n < 50 := by have := Int.emod_lt_of_pos (v / 560) (b := 50) (by decide); omega
  obtain ⟨r0, er0, hr0⟩ : ∃ r0 : List D, (r0 = if decide ((0 : Int) < v / 140 % 4) = true then lets n ++ [defF] else []) ∧ (GoodL r0 1 ∧ r0.length ≤ 4 ∧ ∀ k, ∀ r ∈ r0, CKok (k + 20) r) := by
    refine ⟨_, rfl, ?_⟩
    split
    · refine ⟨?_, by simp [lets], fun k r hr => ?_⟩
      · have z1 := goodL_all (l := lets n) (m := 0) fun r hr => good_tops n r (by unfold tops; simp [hr])
        have z2 := goodL_app z1 (goodL_one good_defF)
        simpa using z2
      · rcases List.mem_append.1 hr with h | h
        · exact ck_L (k + 11) hn3 r h
        · simp at h; subst h; exact ck_menu k _ defF_menu
    · exact ⟨by obtain ⟨fl, ns, RD, BD, h1, h2⟩ := goodL_nil; exact ⟨fl, ns, RD, BD, h1, by omega⟩, by simp, fun k r hr => by cases hr⟩
  obtain ⟨c, hc⟩ : ∃ c : Nat, 1 + v / 35 % 4 = (c : Int) := ⟨(1 + v / 35 % 4).toNat, by have := Int.emod_nonneg (v / 35) (b := 4) (by decide); omega⟩
  have hc4 : c ≤ 4 := by have := Int.emod_lt_of_pos (v / 35) (b := 4) (by decide); omega
  obtain ⟨ms, p1, p2, p3⟩ := pick_all hn h0 k (List.range c)
  rw [List.length_range] at p3
  have gm := goodL_all (l := ms) (m := 7) fun r hr => good_menu r (p2 r hr)
  refine ⟨(s ++ h) ++ (r0 ++ ms), ?_, ⟨s ++ h, r0 ++ ms, 0 + (1 + 7 * ms.length), rfl, g1, goodL_app g2 (goodL_app hr0.1 gm), ?_, ?_, fun k r hr => ?_⟩⟩
  rotate_left
  · have := hr0.2.1; simp only [List.length_append] at g3 ⊢; omega
  · have := hr0.2.1; simp only [List.length_append] at g3 ⊢; omega
  · rcases List.mem_append.1 hr with h | h
    · exact hr0.2.2 k r h
    · exact ck_menu k r (p2 r h)
  · show ((d__law_rows (M (k + 1)) (startE 7 [.scr ns, .int a, .lst menu])).bind fun o => match o with | .nx _ => if false then none else some .non | .rt d => some d) = _
    unfold d__law_rows
    generalize hme : menu = me at *
    rw [q_seq (ρ' := [some (false, .scr ns), some (false, .int a), some (false, .lst me), some (false, .int v), some (true, .lst []), none, none]) ?a]
    rw [q_seq (ρ' := [some (false, .scr ns), some (false, .int a), some (false, .lst me), some (false, .int v), some (true, .lst s), none, none]) ?b]
    rw [q_seq (ρ' := [some (false, .scr ns), some (false, .int a), some (false, .lst me), some (false, .int v), some (true, .lst (s ++ h)), none, none]) ?c]
    rw [q_seq (ρ' := [some (false, .scr ns), some (false, .int a), some (false, .lst me), some (false, .int v), some (true, .lst (s ++ h ++ r0)), none, none]) ?d]
    obtain ⟨j', e5⟩ := go_acc (J := O) (E := fun acc j => [some (false, .scr ns), some (false, .int a), some (false, .lst me), some (false, .int v), some (true, .lst acc), none, j]) (P := PickR (k + 1) ns a) (step := fun d r => (bindT (.nm 6) d r).bind fun r1 => d__law_rows_f1 (M (k + 1)) r1)
      (fun r m hr acc j hl => by
        obtain ⟨j, w, x, rfl, e1, e2, rfl⟩ := hr
        refine ⟨some (false, .int j), ?_⟩
        show d__law_rows_f1 (M (k + 1)) [some (false, .scr ns), some (false, .int a), some (false, .lst me), some (false, .int v), some (true, .lst acc), none, some (false, .int j)] = _
        unfold d__law_rows_f1
        refine (q_seq (ρ' := [some (false, .scr ns), some (false, .int a), some (false, .lst me), some (false, .int v), some (true, .lst (acc ++ [x])), none, some (false, .int j)]) ?_).trans rfl
        refine q_app (l := acc) (d := x) ?_ rfl (Nat.lt_of_succ_le (by simpa using hl))
        rw [hme] at e2
        refine v2_ok (x := .lst me) (y := .int (w % 66)) rfl (v2_ok (x := .int w) (y := .int 66) e1 (v1_ok (x := .lst me) rfl ?_) (modE (by decide))) e2
        show some (D.int (me.length : Nat)) = _
        rw [← hme, menu_len]; rfl) p1 (acc := s ++ h ++ r0) (j := none) (by have := hr0.2.1; simp only [List.length_append] at g3 ⊢; unfold lim; omega)
    rw [q_seq (ρ' := [some (false, .scr ns), some (false, .int a), some (false, .lst me), some (false, .int v), some (true, .lst (s ++ h ++ r0 ++ ms)), none, j']) ?e]
    rw [q_seqR (d := .tup (s ++ h ++ (r0 ++ ms))) (q_ret ?f)]
    · rfl
    case a =>
      show ((M (k + 1) 29 [.scr ns, .int a]).bind fun d1 => some (Out.nx [some (false, .scr ns), some (false, .int a), some (false, .lst me), some (false, d1), some (true, .lst []), none, none])) = _
      rw [hv]; rfl
    case b =>
      refine (q_if (b := (v % 7 == 0)) (v2_ok (v2_ok (x := .int v) (y := .int 7) rfl rfl (modE (by decide))) (y := .int 0) rfl eqI)).trans ?_
      rw [ehs]
      split
      · refine (q_seq (ρ' := [some (false, .scr ns), some (false, .int a), some (false, .lst me), some (false, .int v), some (true, .lst [.tup [S [115, 104, 111, 119], xs]]), none, none]) ?_).trans rfl
        refine q_app (l := []) (d := .tup [S [115, 104, 111, 119], xs]) ?_ rfl (by show 0 < lim; unfold lim; omega)
        have e1 : v2 dIdx (vTup (vCons (vTup (vCons (vK (.str [120])) vNil)) (vCons (vTup (vCons (vK (.str [120])) (vCons (vK (.str [121])) vNil))) (vCons (vTup (vCons (vK (.str [98])) (vCons (vK (.str [120])) vNil))) vNil)))) (v2 (bopd .mod) (v2 (bopd .fdiv) (vVar 3) (vK (.int 7))) (vK (.int 3))) [some (false, .scr ns), some (false, .int a), some (false, .lst me), some (false, .int v), some (true, .lst []), none, none] = some xs :=
          v2_ok rfl (v2_ok (v2_ok (x := .int v) (y := .int 7) rfl rfl (fdivE (by decide) (by decide))) (y := .int 3) rfl (modE (by decide))) exs
        show (((v2 dIdx _ _ [some (false, .scr ns), some (false, .int a), some (false, .lst me), some (false, .int v), some (true, .lst []), none, none]).bind fun y => some [y]).bind fun q => some (S [115, 104, 111, 119] :: q)).bind mkT = _
        rw [e1]; rfl
      · rfl
    case c =>
      refine (q_if (b := (v % 5 == 0)) (v2_ok (v2_ok (x := .int v) (y := .int 5) rfl rfl (modE (by decide))) (y := .int 0) rfl eqI)).trans ?_
      rw [ehh]
      split
      · refine (q_seq (ρ' := [some (false, .scr ns), some (false, .int a), some (false, .lst me), some (false, .int v), some (true, .lst (s ++ [.tup [S [104, 105, 100, 101], xh]])), none, none]) ?_).trans rfl
        refine q_app (l := s) (d := .tup [S [104, 105, 100, 101], xh]) ?_ rfl (by simp only [List.length_append] at g3; unfold lim; omega)
        have e1 : v2 dIdx (vTup (vCons (vTup (vCons (vK (.str [122])) vNil)) (vCons (vTup (vCons (vK (.str [102])) (vCons (vK (.str [122])) vNil))) vNil))) (v2 (bopd .mod) (v2 (bopd .fdiv) (vVar 3) (vK (.int 5))) (vK (.int 2))) [some (false, .scr ns), some (false, .int a), some (false, .lst me), some (false, .int v), some (true, .lst s), none, none] = some xh :=
          v2_ok rfl (v2_ok (v2_ok (x := .int v) (y := .int 5) rfl rfl (fdivE (by decide) (by decide))) (y := .int 2) rfl (modE (by decide))) exh
        show (((v2 dIdx _ _ [some (false, .scr ns), some (false, .int a), some (false, .lst me), some (false, .int v), some (true, .lst s), none, none]).bind fun y => some [y]).bind fun q => some (S [104, 105, 100, 101] :: q)).bind mkT = _
        rw [e1]; rfl
      · rw [List.append_nil]; rfl
    case d =>
      refine (q_if (b := decide ((0 : Int) < v / 140 % 4)) (v2_ok (v2_ok (v2_ok (x := .int v) (y := .int 140) rfl rfl (fdivE (by decide) (by decide))) (y := .int 4) rfl (modE (by decide))) (y := .int 0) rfl gtI)).trans ?_
      rw [er0]
      split
      · refine (q_seq (ρ' := [some (false, .scr ns), some (false, .int a), some (false, .lst me), some (false, .int v), some (true, .lst (s ++ h ++ lets n)), none, none]) ?_).trans ?_
        · refine (q_asg (d := .lst (s ++ h ++ lets n)) ?_ (by show 4 < 7; decide)).trans rfl
          refine v2_ok (x := .lst (s ++ h)) (y := .lst (lets n)) rfl ?_ ?_
          · have e1 : ∀ x : D, v2 (bopd .mod) (v2 (bopd .fdiv) (vVar 3) (vK (.int 560))) (vK (.int 50)) [some (false, .scr ns), some (false, .int a), some (false, .lst me), some (false, .int v), some (true, .lst (s ++ h)), some (false, x), none] = some (.int n) := fun x => by
              rw [← hn2]
              exact v2_ok (v2_ok (x := .int v) (y := .int 560) rfl rfl (fdivE (by decide) (by decide))) (y := .int 50) rfl (modE (by decide))
            have e2 : goLc (fLc (.nm 5) [5] vT0 letE [some (false, .scr ns), some (false, .int a), some (false, .lst me), some (false, .int v), some (true, .lst (s ++ h)), none, none]) [S [120], S [121], S [122]] = some (lets n) :=
              (goLc_all (h := fun x => letN x (.int n)) (fun x hx => by
                have e3 : letE [some (false, .scr ns), some (false, .int a), some (false, .lst me), some (false, .int v), some (true, .lst (s ++ h)), some (false, x), none] = some (letN x (.int n)) :=
                  vtup_ok (vcons_ok rfl (vcons_ok rfl (vcons_ok (vtup_ok (vcons_ok rfl (vcons_ok (e1 x) rfl)) (by show 2 ≤ lim; unfold lim; omega)) rfl))) (by show 3 ≤ lim; unfold lim; omega)
                show ((letE [some (false, .scr ns), some (false, .int a), some (false, .lst me), some (false, .int v), some (true, .lst (s ++ h)), some (false, x), none]).bind fun x => some (some x)) = _
                rw [e3]; rfl)).trans rfl
            show (goLc (fLc (.nm 5) [5] vT0 letE [some (false, .scr ns), some (false, .int a), some (false, .lst me), some (false, .int v), some (true, .lst (s ++ h)), none, none]) [S [120], S [121], S [122]]).bind mkL = _
            exact (bs e2).trans rfl
          · show mkL (s ++ h ++ lets n) = _
            unfold mkL
            rw [if_pos (by rw [List.length_append]; simp only [lets, List.length_cons, List.length_nil]; unfold lim; omega)]
        refine (q_seq (ρ' := [some (false, .scr ns), some (false, .int a), some (false, .lst me), some (false, .int v), some (true, .lst (s ++ h ++ lets n ++ [defF])), none, none]) ?_).trans ?_
        · exact q_app (l := s ++ h ++ lets n) (d := defF) rfl rfl (by rw [List.length_append]; simp only [lets, List.length_cons, List.length_nil]; unfold lim; omega)
        · rw [← List.append_assoc]; rfl
      · rw [List.append_nil]; rfl
    case e =>
      refine (q_for (l := (List.range c).map fun j => D.int (j : Nat)) ?_).trans e5
      have e1 : v2 (bopd .add) (vK (.int 1)) (v2 (bopd .mod) (v2 (bopd .fdiv) (vVar 3) (vK (.int 35))) (vK (.int 4))) [some (false, .scr ns), some (false, .int a), some (false, .lst me), some (false, .int v), some (true, .lst (s ++ h ++ r0)), none, none] = some (.int c) := by
        rw [← hc]
        exact v2_ok rfl (v2_ok (v2_ok (x := .int v) (y := .int 35) rfl rfl (fdivE (by decide) (by decide))) (y := .int 4) rfl (modE (by decide))) addE
      show ((v2 (bopd .add) _ _ [some (false, .scr ns), some (false, .int a), some (false, .lst me), some (false, .int v), some (true, .lst (s ++ h ++ r0)), none, none]).bind fun d => (intD d).bind fun n => if (decide (-100000 ≤ n) && decide (n ≤ 100000)) = true then some ((List.range n.toNat).map fun k => D.int (k : Nat)) else none) = _
      rw [e1]
      show (if (decide (-100000 ≤ (c : Int)) && decide ((c : Int) ≤ 100000)) = true then some ((List.range (c : Int).toNat).map fun k => D.int (k : Nat)) else none) = _
      rw [decide_eq_true (by omega), decide_eq_true (by omega)]; rfl
    case f =>
      show mkT (s ++ h ++ r0 ++ ms) = _
      unfold mkT
      rw [if_pos (by have := hr0.2.1; simp only [List.length_append] at g3 ⊢; unfold lim; omega), List.append_assoc]
end K04
end
section
set_option Elab.async false
set_option linter.all false
set_option maxRecDepth 100000
set_option maxHeartbeats 4000000
/-! K04O: the law's more rows. -/
namespace K04
open PD L2
def menuF : List D := menu.filter nst
theorem menuF_len : menuF.length = 62 := by kernel_rfl
def isS (r : D) : Bool := !(wF r == wDef || wF r == wBox || wF r == [116, 114, 121] || wF r == wWhen)
theorem mC_S : menuC.map isS = menuC.map fun _ => false := by kernel_rfl
theorem mF_Q {r : D} (h : r ∈ menuF) (hs : isS r = true) : r ∈ menuQ := by
  obtain ⟨h1, h2⟩ := List.mem_filter.1 h
  unfold menu at h1
  rcases List.mem_append.1 h1 with h1 | h1
  · exact List.mem_filter.2 ⟨h1, h2⟩
  · have := mapE mC_S r h1; rw [this] at hs; cases hs
abbrev mE (ns : List Int) (a : Int) (s2 s3 s4 s5 s6 s7 s8 s9 s10 s11 : O) : PD.Env := [some (false, .scr ns), some (false, .int a), s2, s3, s4, s5, s6, s7, s8, s9, s10, s11]
abbrev smE (C : Nat → List D → Option D) : F := vLc (vIl (vCall C 30 vNil)) (.nm 3) [3] (vT1 (vOr (v2 (cmpd .ne) (v2 dIdx (vVar 3) (vK (.int 0))) (vK (.str [102, 114, 111, 109]))) (v2 (cmpd .ne) (v2 dIdx (vVar 3) (vK (.int 3))) (vK (.str [42]))))) (vVar 3)
theorem sm_ok (k : Nat) (ns : List Int) (a : Int) : smE (M (k + 3)) (mE ns a none none none none none none none none none none) = some (.lst menuF) := by kernel_rfl
abbrev pkE (C : Nat → List D → Option D) : F := v2 dIdx (vVar 2) (v2 (bopd .mod) (vCall C 29 (vCons (vVar 0) (vCons (v2 (bopd .add) (vVar 1) (vVar 5)) vNil))) (v1 dLen (vVar 2)))
theorem pick_more {ns : List Int} (hn : ns.length ≤ 63) {a : Int} (h0 : 0 ≤ a) (k : Nat) : ∀ (l : List Nat), ∃ ms, goLc (fLc (.nm 5) [5] vT0 (pkE (M (k + 3))) (mE ns a (some (true, .lst menuF)) none none none none none none none none none)) (l.map fun (j : Nat) => D.int j) = some ms ∧ (∀ x ∈ ms, x ∈ menuF) ∧ ms.length = l.length
  | [] => ⟨[], rfl, (fun x h => by cases h), rfl⟩
  | j :: l => by
    obtain ⟨ms, h1, h2, h3⟩ := pick_more hn h0 k l
    obtain ⟨v, hv⟩ := cell_ok hn (a := a + j) (by omega) (k + 2)
    obtain ⟨x, hx, ex⟩ := idxL (l := menuF) (i := v % 62) (Int.emod_nonneg _ (by decide)) (by rw [menuF_len]; exact Int.emod_lt_of_pos _ (by decide))
    generalize hmf : menuF = mf at *
    have e1 : pkE (M (k + 3)) (mE ns a (some (true, .lst mf)) none none (some (false, .int j)) none none none none none none) = some x := by
      refine v2_ok (x := .lst mf) (y := .int (v % 62)) rfl (v2_ok (x := .int v) (y := .int 62) hv (v1_ok (x := .lst mf) rfl ?_) (modE (by decide))) ex
      show some (D.int (mf.length : Nat)) = _
      rw [← hmf, menuF_len]; rfl
    refine ⟨x :: ms, ?_, fun y hy => ?_, by simp [h3]⟩
    · show (((pkE (M (k + 3)) (mE ns a (some (true, .lst mf)) none none (some (false, .int j)) none none none none none none)).bind fun x => some (some x)).bind fun o => (goLc (fLc (.nm 5) [5] vT0 (pkE (M (k + 3))) (mE ns a (some (true, .lst mf)) none none none none none none none none none)) (l.map fun (j : Nat) => D.int j)).bind fun r => some (match o with | none => r | some x => x :: r)) = _
      rw [e1, h1]; rfl
    · rcases List.mem_cons.1 hy with rfl | h
      · exact hx
      · exact h2 y h
abbrev fsE : PD.Env → Option Bool := vT1 (v2 (cmpd .notIn) (v2 dIdx (vVar 3) (vK (.int 0))) (vTup (vCons (vK (.str [100, 101, 102])) (vCons (vK (.str [98, 111, 120])) (vCons (vK (.str [116, 114, 121])) (vCons (vK (.str [119, 104, 101, 110])) vNil))))))
theorem fs_ok (ns : List Int) (a : Int) (s2 s4 s5 s6 s7 s8 s9 s10 s11 : O) : menuF.map (fun d => fLc (.nm 3) [3] fsE (vVar 3) (mE ns a s2 none s4 s5 s6 s7 s8 s9 s10 s11) d) = menuF.map fun d => some (if isS d then some d else none) := by kernel_rfl
theorem catT {a b : List D} (h : a.length + b.length ≤ lim) : dCatT (.tup a) (.tup b) = some (.tup (a ++ b)) := by
  show mkT (a ++ b) = _
  unfold mkT; rw [if_pos (by rw [List.length_append]; exact h)]
theorem toT {l : List D} (h : l.length ≤ lim) : dToT (.lst l) = some (.tup l) := by
  show mkT l = _
  unfold mkT; rw [if_pos h]
theorem toR {l : List D} (h : l.length ≤ lim) : dRev (.lst l) = some (.lst l.reverse) := by
  show mkL l.reverse = _
  unfold mkL; rw [if_pos (by rw [List.length_reverse]; exact h)]
theorem tok_nil : TOk [] := ⟨(fun r h => by cases h), by simp, rfl, (fun s h => by simp at h)⟩
theorem tops_td : [([.tup [S wTop, .tup [S [120], S [122]]]] : List D), [.tup [S wTop, .tup [S [121]]]], [.tup [S wTop, .tup [S [102], S [97]]]]].map (fun T => (T.flatMap (td wTop), T.flatMap (td wOut))) = [([[120], [122]], []), ([[121]], []), ([[102], [97]], [])] := by kernel_rfl
theorem tok_one {x : D} (hx : x ∈ ([.tup [S [120], S [122]], .tup [S [121]], .tup [S [102], S [97]]] : List D)) : TOk [.tup [S wTop, x]] := by
  have ht := tops_td
  simp only [List.map_cons, List.map_nil, List.cons.injEq, Prod.mk.injEq, and_true] at ht
  obtain ⟨⟨a1, a2⟩, ⟨b1, b2⟩, c1, c2⟩ := ht
  have hm : .tup [S wTop, x] ∈ exB := by
    unfold exB
    simp only [List.mem_cons, List.not_mem_nil, or_false] at hx
    rcases hx with rfl | rfl | rfl <;> simp
  refine ⟨fun r hr => by simp at hr; subst hr; exact smpB hm, by simp, ?_, ?_⟩
  · simp only [List.mem_cons, List.not_mem_nil, or_false] at hx
    rcases hx with rfl | rfl | rfl
    · exact a2
    · exact b2
    · exact c2
  · simp only [List.mem_cons, List.not_mem_nil, or_false] at hx
    rcases hx with rfl | rfl | rfl
    · rw [a1]; decide
    · rw [b1]; decide
    · rw [c1]; decide
theorem gok {g : D} (hg : g ∈ ([.tup [S [113]], .tup [S [120], S [98]]] : List D)) : ∃ gs : Nms, g = .tup (sL gs) ∧ GOk gs := by
  simp only [List.mem_cons, List.not_mem_nil, or_false] at hg
  rcases hg with rfl | rfl
  · exact ⟨[[113]], rfl, by simp, nm_q, fun k l A => by kernel_rfl⟩
  · exact ⟨[[120], [98]], rfl, by simp, (fun s hs => by simp at hs; rcases hs with rfl | rfl <;> (unfold Nm; decide)), fun k l A => by kernel_rfl⟩
theorem more_ok {ns : List Int} (hn : ns.length ≤ 63) {a : Int} (h0 : 0 ≤ a) (k : Nat) : ∃ W, M (k + 4) 39 [.scr ns, .int a] = some (.tup [W]) ∧ (∃ m, Good W m) ∧ ∀ k, CKok (k + 20) W := by
  obtain ⟨v0, hv0⟩ := cell_ok hn h0 (k + 2)
  obtain ⟨c, hc⟩ : ∃ c : Nat, 1 + v0 % 4 = (c : Int) := ⟨(1 + v0 % 4).toNat, by have := Int.emod_nonneg v0 (b := 4) (by decide); omega⟩
  have hc4 : c ≤ 4 := by have := Int.emod_lt_of_pos v0 (b := 4) (by decide); omega
  obtain ⟨L0, p1, p2, p3⟩ := pick_more hn h0 k (List.range c)
  rw [List.length_range] at p3
  obtain ⟨L, hL0⟩ : ∃ L, L0.filter isS = L := ⟨_, rfl⟩
  have hL : LOk L := ⟨fun r hr => by rw [← hL0] at hr; obtain ⟨x1, x2⟩ := List.mem_filter.1 hr; exact mF_Q (p2 r x1) x2, by rw [← hL0]; exact Nat.le_trans (List.length_filter_le _ _) (by omega)⟩
  have zL : L.length ≤ 4 := hL.z
  obtain ⟨v, hv⟩ := cell_ok hn (a := a + 9) (by omega) (k + 2)
  obtain ⟨xt, hxt, ext⟩ := idxT (l := [.tup [S [120], S [122]], .tup [S [121]], .tup [S [102], S [97]]]) (i := v % 3) (Int.emod_nonneg _ (by decide)) (by show v % 3 < 3; exact Int.emod_lt_of_pos _ (by decide))
  obtain ⟨xg, hxg, exg⟩ := idxT (l := [.tup [S [113]], .tup [S [120], S [98]]]) (i := v / 6 % 2) (Int.emod_nonneg _ (by decide)) (by show v / 6 % 2 < 2; exact Int.emod_lt_of_pos _ (by decide))
  obtain ⟨gs, rfl, hG⟩ := gok hxg
  obtain ⟨T, eT, hT⟩ : ∃ T : List D, (T = if (v / 3 % 2 == 0) = true then [.tup [S wTop, xt]] else []) ∧ TOk T := by
    refine ⟨_, rfl, ?_⟩
    split
    · exact tok_one hxt
    · exact tok_nil
  have zT : T.length ≤ 1 := hT.z
  obtain ⟨q, hq⟩ : ∃ q, v / 12 % 3 = q := ⟨_, rfl⟩
  have hq0 : 0 ≤ q := by rw [← hq]; exact Int.emod_nonneg _ (by decide)
  refine ⟨if (q == 0) = true then B1 gs T L else K2 gs T L, ?_, ?_, fun k => ?_⟩
  rotate_left
  · split
    · exact good_B1 hT hL hG
    · exact good_K2 hT hL hG
  · split
    · exact ck_B1 hT hL hG k
    · exact ck_K2 hT hL hG k
  have e1 := sm_ok k ns a
  have fs := fs_ok ns a
  generalize hmf : menuF = mf at *
  have e2 : vLc (vIr1 (v2 (bopd .add) (vK (.int 1)) (v2 (bopd .mod) (vCall (M (k + 3)) 29 (vCons (vVar 0) (vCons (vVar 1) vNil))) (vK (.int 4))))) (.nm 5) [5] (vT0) (pkE (M (k + 3))) (mE ns a (some (true, .lst mf)) none none none none none none none none none) = some (.lst L0) := by
    have x1 : v2 (bopd .add) (vK (.int 1)) (v2 (bopd .mod) (vCall (M (k + 3)) 29 (vCons (vVar 0) (vCons (vVar 1) vNil))) (vK (.int 4))) (mE ns a (some (true, .lst mf)) none none none none none none none none none) = some (.int c) := by
      rw [← hc]
      exact v2_ok rfl (v2_ok (x := .int v0) (y := .int 4) hv0 rfl (modE (by decide))) addE
    have x2 : vIr1 (v2 (bopd .add) (vK (.int 1)) (v2 (bopd .mod) (vCall (M (k + 3)) 29 (vCons (vVar 0) (vCons (vVar 1) vNil))) (vK (.int 4)))) (mE ns a (some (true, .lst mf)) none none none none none none none none none) = some ((List.range c).map fun j => D.int (j : Nat)) := by
      unfold vIr1
      rw [x1]
      show (if (decide (-100000 ≤ (c : Int)) && decide ((c : Int) ≤ 100000)) = true then some ((List.range (c : Int).toNat).map fun k => D.int (k : Nat)) else none) = _
      rw [decide_eq_true (by omega), decide_eq_true (by omega)]; rfl
    unfold vLc
    rw [x2]
    show (goLc _ ((List.range c).map fun j => D.int (j : Nat))).bind mkL = _
    rw [p1]
    show mkL L0 = _
    unfold mkL; rw [if_pos (by unfold lim; omega)]
  have e3 : vLc (vIl (vVar 4)) (.nm 3) [3] fsE (vVar 3) (mE ns a (some (true, .lst mf)) none (some (true, .lst L0)) none none none none none none none) = some (.lst L) := by
    show (goLc (fLc (.nm 3) [3] fsE (vVar 3) (mE ns a (some (true, .lst mf)) none (some (true, .lst L0)) none none none none none none none)) L0).bind mkL = _
    rw [goLc_flt (p := isS) (h := fun d => d) fun d hd => mapE (fs _ _ _ _ _ _ _ _ _) d (p2 d hd), List.map_id', hL0]
    show mkL L = _
    unfold mkL; rw [if_pos (by unfold lim; omega)]
  show ((d__law_more (M (k + 3)) (startE 12 [.scr ns, .int a])).bind fun o => match o with | .nx _ => if false then none else some .non | .rt d => some d) = _
  unfold d__law_more
  rw [q_seq (ρ' := mE ns a (some (true, .lst mf)) none none none none none none none none none) (q_asg e1 (by show 2 < 12; decide))]
  rw [q_seq (ρ' := mE ns a (some (true, .lst mf)) none (some (true, .lst L0)) none none none none none none none) (q_asg e2 (by show 4 < 12; decide))]
  rw [q_seq (ρ' := mE ns a (some (true, .lst mf)) none (some (true, .lst L)) none none none none none none none) (q_asg e3 (by show 4 < 12; decide))]
  rw [q_seq (ρ' := mE ns a (some (true, .lst mf)) none (some (true, .lst L)) none (some (false, .int v)) none none none none none) (q_asg (d := .int v) hv (by show 6 < 12; decide))]
  rw [q_seq (ρ' := mE ns a (some (true, .lst mf)) none (some (true, .lst L)) none (some (false, .int v)) (some (false, .tup T)) none none none none) ?t7]
  rw [q_seq (ρ' := mE ns a (some (true, .lst mf)) none (some (true, .lst L)) none (some (false, .int v)) (some (false, .tup T)) (some (false, .tup (lH1 T L))) none none none) ?t8]
  rw [q_seq (ρ' := mE ns a (some (true, .lst mf)) none (some (true, .lst L)) none (some (false, .int v)) (some (false, .tup T)) (some (false, .tup (inner1 T L))) none none none) ?t9]
  obtain ⟨s9, s10, e10⟩ : ∃ s9 s10 : O, vIfS (v2 (cmpd .gt) (v2 (bopd .mod) (v2 (bopd .fdiv) (vVar 6) (vK (.int 12))) (vK (.int 3))) (vK (.int 0))) [] (vSeq (vAsg .vl (vTup (vCons (vTup (vCons (vK (.str [117, 115, 101])) (vCons (vTup (vCons (vK (.str [98])) vNil)) (vCons (vK (.str [102])) vNil)))) (vCons (vTup (vCons (vK (.str [108, 101, 116])) (vCons (vK (.str [121])) (vCons (vTup (vCons (vK (.str [110, 97, 109, 101])) (vCons (vK (.str [97])) vNil))) vNil)))) vNil))) [] 9) (vSeq (vAsg .vl (vTup (vCons (vK (.str [119, 104, 101, 110])) (vCons (vTup (vCons (vK (.str [110, 97, 109, 101])) (vCons (vK (.str [120])) vNil))) (vCons (vTup (vCons (vTup (vCons (vK (.str [108, 101, 116])) (vCons (vK (.str [122])) (vCons (vTup (vCons (vK (.str [110, 97, 109, 101])) (vCons (vK (.str [121])) vNil))) vNil)))) vNil)) (vCons (vVar 9) vNil))))) [9] 10) (vSeq (vAsg .vl (v2 dCatT (vTup (vCons (vTup (vCons (vK (.str [100, 101, 102])) (vCons (vK (.str [104])) (vCons (vTup (vCons (vK (.str [113])) vNil)) (vCons (v2 dCatT (vVar 7) (vTup (vCons (vVar 10) vNil))) vNil))))) vNil)) (vVar 8)) [10] 8) vSkip))) (vSkip) (mE ns a (some (true, .lst mf)) none (some (true, .lst L)) none (some (false, .int v)) (some (false, .tup T)) (some (false, .tup (inner1 T L))) none none none) = some (.nx (mE ns a (some (true, .lst mf)) none (some (true, .lst L)) none (some (false, .int v)) (some (false, .tup T)) (some (false, .tup (if (q == 0) = true then inner1 T L else inner2 T L))) s9 s10 none)) := by
    by_cases hz : q = 0
    · refine ⟨none, none, (q_if (b := false) ?_).trans ?_⟩
      · refine (v2_ok (v2_ok (v2_ok (x := .int v) (y := .int 12) rfl rfl (fdivE (by decide) (by decide))) (y := .int 3) rfl (modE (by decide))) (y := .int 0) rfl gtI).trans ?_
        rw [hq, hz]; rfl
      · rw [hz]; rfl
    · refine ⟨some (false, .tup [uBf, yA]), some (false, wh), (q_if (b := true) ?_).trans ?_⟩
      · refine (v2_ok (v2_ok (v2_ok (x := .int v) (y := .int 12) rfl rfl (fdivE (by decide) (by decide))) (y := .int 3) rfl (modE (by decide))) (y := .int 0) rfl gtI).trans ?_
        rw [hq, decide_eq_true (by omega)]
      · rw [if_pos rfl]
        refine (q_seq (ρ' := mE ns a (some (true, .lst mf)) none (some (true, .lst L)) none (some (false, .int v)) (some (false, .tup T)) (some (false, .tup (inner1 T L))) (some (false, .tup [uBf, yA])) none none) rfl).trans ?_
        refine (q_seq (ρ' := mE ns a (some (true, .lst mf)) none (some (true, .lst L)) none (some (false, .int v)) (some (false, .tup T)) (some (false, .tup (inner1 T L))) (some (false, .tup [uBf, yA])) (some (false, wh)) none) rfl).trans ?_
        have hb : (q == 0) = false := by simpa using hz
        rw [hb]
        refine (q_seq (ρ' := mE ns a (some (true, .lst mf)) none (some (true, .lst L)) none (some (false, .int v)) (some (false, .tup T)) (some (false, .tup (inner2 T L))) (some (false, .tup [uBf, yA])) (some (false, wh)) none) ?_).trans rfl
        refine (q_asg (d := .tup (inner2 T L)) ?_ (by show 8 < 12; decide)).trans rfl
        refine v2_ok (x := .tup [H2 T]) (y := .tup (inner1 T L)) (vtup_ok (vcons_ok (vtup_ok (vcons_ok rfl (vcons_ok rfl (vcons_ok rfl (vcons_ok (v2_ok (x := .tup T) (y := .tup [wh]) rfl rfl (catT (by simp; unfold lim; omega))) rfl)))) (by show 4 ≤ lim; unfold lim; omega)) rfl) (by show 1 ≤ lim; unfold lim; omega)) rfl (catT (by unfold inner1 lS; simp; unfold lim; omega))
  rw [q_seq e10]
  have hW : (if (q == 0) = true then B1 gs T L else K2 gs T L) = if (q == 0) = true then rBox (S [107]) (.tup [rDef (S [107]) (.tup (sL gs)) (.tup (if (q == 0) = true then inner1 T L else inner2 T L))]) else rDef (S [107]) (.tup (sL gs)) (.tup (if (q == 0) = true then inner1 T L else inner2 T L)) := by
    cases (q == 0) <;> rfl
  rw [hW]
  generalize (if (q == 0) = true then inner1 T L else inner2 T L) = inn
  rw [q_seq (ρ' := mE ns a (some (true, .lst mf)) none (some (true, .lst L)) none (some (false, .int v)) (some (false, .tup T)) (some (false, .tup inn)) s9 s10 (some (false, .tup [rDef (S [107]) (.tup (sL gs)) (.tup inn)]))) ?t11]
  rw [q_seqR (d := .tup [if (q == 0) = true then rBox (S [107]) (.tup [rDef (S [107]) (.tup (sL gs)) (.tup inn)]) else rDef (S [107]) (.tup (sL gs)) (.tup inn)]) (q_ret ?t12)]
  · rfl
  case t7 =>
    refine (q_asg (d := .tup T) ?_ (by show 7 < 12; decide)).trans rfl
    have x1 : v2 (cmpd .eq) (v2 (bopd .mod) (v2 (bopd .fdiv) (vVar 6) (vK (.int 3))) (vK (.int 2))) (vK (.int 0)) (mE ns a (some (true, .lst mf)) none (some (true, .lst L)) none (some (false, .int v)) none none none none none) = some (.bl (v / 3 % 2 == 0)) :=
      v2_ok (v2_ok (v2_ok (x := .int v) (y := .int 3) rfl rfl (fdivE (by decide) (by decide))) (y := .int 2) rfl (modE (by decide))) (y := .int 0) rfl eqI
    unfold vIf
    refine (bs x1).trans ?_
    rw [eT]
    show (if (v / 3 % 2 == 0) = true then _ else _) = _
    split
    · exact vtup_ok (vcons_ok (vtup_ok (vcons_ok rfl (vcons_ok (v2_ok rfl (v2_ok (x := .int v) (y := .int 3) rfl rfl (modE (by decide))) ext) rfl)) (by show 2 ≤ lim; unfold lim; omega)) rfl) (by show 1 ≤ lim; unfold lim; omega)
    · rfl
  case t8 =>
    refine (q_asg (d := .tup (lH1 T L)) ?_ (by show 8 < 12; decide)).trans rfl
    refine (v2_ok (x := .tup ([oR, lgR] ++ T)) (y := .tup L) (v2_ok (x := .tup [oR, lgR]) (y := .tup T) rfl rfl (catT (by simp; unfold lim; omega))) (v1_ok (x := .lst L) rfl (toT (by unfold lim; omega))) (catT (by simp; unfold lim; omega))).trans ?_
    unfold lH1; simp
  case t9 =>
    refine (q_asg (d := .tup (inner1 T L)) ?_ (by show 8 < 12; decide)).trans rfl
    refine (v2_ok (x := .tup [H1 T L, l1R]) (y := .tup L.reverse) rfl (v1_ok (x := .lst L.reverse) (v1_ok (x := .lst L) rfl (toR (by unfold lim; omega))) (toT (by rw [List.length_reverse]; unfold lim; omega))) (catT (by simp; unfold lim; omega))).trans rfl
  case t11 =>
    refine (q_asg (d := .tup [rDef (S [107]) (.tup (sL gs)) (.tup inn)]) ?_ (by show 11 < 12; decide)).trans rfl
    exact vtup_ok (vcons_ok (vtup_ok (vcons_ok rfl (vcons_ok rfl (vcons_ok (v2_ok rfl (v2_ok (v2_ok (x := .int v) (y := .int 6) rfl rfl (fdivE (by decide) (by decide))) (y := .int 2) rfl (modE (by decide))) exg) (vcons_ok rfl rfl)))) (by show 4 ≤ lim; unfold lim; omega)) rfl) (by show 1 ≤ lim; unfold lim; omega)
  case t12 =>
    have x1 : v2 (cmpd .eq) (v2 (bopd .mod) (v2 (bopd .fdiv) (vVar 6) (vK (.int 12))) (vK (.int 3))) (vK (.int 0)) (mE ns a (some (true, .lst mf)) none (some (true, .lst L)) none (some (false, .int v)) (some (false, .tup T)) (some (false, .tup inn)) s9 s10 (some (false, .tup [rDef (S [107]) (.tup (sL gs)) (.tup inn)]))) = some (.bl (q == 0)) := by
      rw [← hq]
      exact v2_ok (v2_ok (v2_ok (x := .int v) (y := .int 12) rfl rfl (fdivE (by decide) (by decide))) (y := .int 3) rfl (modE (by decide))) (y := .int 0) rfl eqI
    unfold vIf
    refine (bs x1).trans ?_
    show (if (q == 0) = true then _ else _) = _
    split
    · rfl
    · rfl
end K04
end
section
set_option Elab.async false
set_option linter.all false
set_option maxRecDepth 100000
set_option maxHeartbeats 4000000
/-! K04L: the law, whole: what its walk tells at every script. -/
namespace K04
open PD L2
abbrev lawR (C : Nat → List D → Option D) : PD.Env → Option Out := (vSeq (vAsg .vl (vTup (vCons (vTup (vCons (vK (.str [117, 115, 101])) (vCons (vTup (vCons (vK (.str [97])) (vCons (vK (.str [98])) vNil))) (vCons (vK .non) vNil)))) (vCons (vTup (vCons (vK (.str [117, 115, 101])) (vCons (vTup (vCons (vK (.str [97])) (vCons (vK (.str [98])) vNil))) (vCons (vK (.str [99])) vNil)))) (vCons (vTup (vCons (vK (.str [108, 97, 122, 121])) (vCons (vTup (vCons (vK (.str [97])) vNil)) (vCons (vK (.str [100])) vNil)))) (vCons (vTup (vCons (vK (.str [102, 97, 114])) (vCons (vK (.str [116])) (vCons (vTup (vCons (vK (.str [97])) vNil)) (vCons (vK (.str [120])) (vCons (vK (.str [101])) vNil)))))) vNil))))) [] 3) (vSeq (vAsg .vl (v2 dCatT (vVar 3) (vTup (vCons (vTup (vCons (vK (.str [102, 114, 111, 109])) (vCons (vK (.int 1)) (vCons (vTup (vNil)) (vCons (vTup (vCons (vTup (vCons (vK (.str [120])) (vCons (vK (.str [103])) vNil))) (vCons (vTup (vCons (vK (.str [121])) (vCons (vK (.str [121])) vNil))) vNil))) vNil))))) (vCons (vTup (vCons (vK (.str [102, 114, 111, 109])) (vCons (vK (.int 0)) (vCons (vTup (vCons (vK (.str [97])) vNil)) (vCons (vK (.str [42])) vNil))))) (vCons (vTup (vCons (vK (.str [100, 114, 111, 112])) (vCons (vK (.str [104])) vNil))) vNil))))) [] 3) (vSeq (vAsg .fr (vLst (vCons (vTup (vCons (vK (.str [97])) (vCons (vK (.str [117, 115, 101])) vNil))) (vCons (vTup (vCons (vK (.str [99])) (vCons (vK (.str [117, 115, 101])) vNil))) (vCons (vTup (vCons (vK (.str [100])) (vCons (vK (.str [108, 97, 122, 121])) vNil))) (vCons (vTup (vCons (vK (.str [101])) (vCons (vK (.str [102, 97, 114])) vNil))) (vCons (vTup (vCons (vK (.str [103])) (vCons (vK (.str [102, 114, 111, 109])) vNil))) (vCons (vTup (vCons (vK (.str [121])) (vCons (vK (.str [102, 114, 111, 109])) vNil))) (vCons (vTup (vCons (vK (.str [104])) (vCons (vK (.str [100, 114, 111, 112])) vNil))) vNil)))))))) [] 8) (vSeq (vIfS (v2 (cmpd .ne) (vCall C 21 (vCons (vVar 3) vNil)) (vVar 8)) [3] (vSeq (vRet (vK (.bl false)) []) vSkip) (vSkip)) (vSeq (vAsg .vl (vTup (vCons (vTup (vCons (vK (.str [116, 111, 112])) (vCons (vTup (vCons (vK (.str [110])) vNil)) vNil))) (vCons (vTup (vCons (vK (.str [115, 97, 121])) (vCons (vTup (vCons (vK (.str [112, 108, 117, 115])) (vCons (vTup (vCons (vK (.str [110, 97, 109, 101])) (vCons (vK (.str [110])) vNil))) (vCons (vTup (vCons (vK (.str [110, 97, 109, 101])) (vCons (vK (.str [120])) vNil))) vNil)))) vNil))) (vCons (vTup (vCons (vK (.str [108, 101, 116])) (vCons (vK (.str [110])) (vCons (vTup (vCons (vK (.str [110, 97, 109, 101])) (vCons (vK (.str [109])) vNil))) vNil)))) vNil)))) [] 9) (vSeq (vAsg .vl (vTup (vCons (vTup (vCons (vK (.str [100, 101, 102])) (vCons (vK (.str [102])) (vCons (vTup (vCons (vK (.str [120])) vNil)) (vCons (vVar 9) vNil))))) vNil)) [9] 3) (vSeq (vIfS (vOr (v2 (cmpd .ne) (vCall C 21 (vCons (vVar 3) vNil)) (vLst (vCons (vTup (vCons (vK (.str [102])) (vCons (vK (.str [100, 101, 102])) vNil))) (vCons (vTup (vCons (vK (.str [110])) (vCons (vK (.str [108, 101, 116])) vNil))) vNil)))) (v2 (cmpd .ne) (vCall C 22 (vCons (vVar 3) vNil)) (vLst (vCons (vK (.str [109])) (vCons (vK (.str [110])) vNil))))) [3, 3] (vSeq (vRet (vK (.bl false)) []) vSkip) (vSkip)) (vSeq (vRet (vAnd (v2 (cmpd .eq) (vCall C 21 (vCons (vTup (vNil)) vNil)) (vLst (vNil))) (v2 (cmpd .eq) (vCall C 22 (vCons (vTup (vNil)) vNil)) (vLst (vNil)))) []) vSkip))))))))
theorem rest_ok (x0 x1 x2 x3 x4 x5 x6 x7 : O) : lawR (M 99) [x0, x1, x2, x3, x4, x5, x6, x7, none, none] = some (.rt (.bl true)) := by kernel_rfl
theorem f1_ok {ns : List Int} (hn : ns.length ≤ 63) (j : Nat) (x3 x4 x5 x6 x7 x8 x9 : O) : ∃ y3 y4 y5 y6 y7, d_law_f1 (M 99) [some (false, .scr ns), some (false, .lst menu), some (false, .int j), x3, x4, x5, x6, x7, x8, x9] = some (.nx [some (false, .scr ns), some (false, .lst menu), some (false, .int j), y3, y4, y5, y6, y7, x8, x9]) := by
  obtain ⟨l, e32, hd, rest, m, rfl, hh, g, hm, hl, hck⟩ : ∃ l, M (97 + 2) 32 [.scr ns, .int (12 * j), .lst menu] = some (.tup l) ∧ ∃ (hd rest : List D) (m : Int), l = hd ++ rest ∧ hd ∈ heads ∧ GoodL l m ∧ (l.length : Int) + m ≤ 40 ∧ l.length ≤ 10 ∧ ∀ k, ∀ r ∈ rest, CKok (k + 20) r := by
    obtain ⟨l, e, h⟩ := rows_ok hn (a := 12 * j) (by omega) 97
    exact ⟨l, e, h.h⟩
  obtain ⟨W, e39, ⟨mW, gW⟩, ckW⟩ := more_ok hn (a := 200 + 12 * j) (by omega) 95
  have gA := goodL_app g (goodL_one gW)
  obtain ⟨nA, zA, cA⟩ := cnt_ok gA (by rw [List.length_append]; simp only [List.length_cons, List.length_nil]; omega)
  obtain ⟨nB, zB, cB⟩ := cnt_ok g (by omega)
  have ecat : dCatT (.tup (hd ++ rest)) (.tup [W]) = some (.tup (hd ++ rest ++ [W])) := catT (by simp only [List.length_cons, List.length_nil]; unfold lim; omega)
  have tA : nA ≤ 40 → TurnOk 66 (.tup (hd ++ rest ++ [W])) := fun h => by
    rw [List.append_assoc] at gA cA ⊢
    refine turn_ok (k := 66) gA (by simp only [List.length_append, List.length_cons, List.length_nil] at hl ⊢; omega) (hd_ok 77 hd hh) (fun r hr => ?_) (cA 66).1 h
    rcases List.mem_append.1 hr with h | h
    · exact hck 77 r h
    · simp at h; subst h; exact ckW 77
  have tB : TurnOk 66 (.tup (hd ++ rest)) := turn_ok (k := 66) g (by omega) (hd_ok 77 hd hh) (fun r hr => hck 77 r hr) (cB 66).1 (by omega)
  obtain ⟨rows, t, erow⟩ : ∃ rows, TurnOk 66 rows ∧ rows = if decide (nA ≤ 40) = true then .tup (hd ++ rest ++ [W]) else .tup (hd ++ rest) := by
    refine ⟨_, ?_, rfl⟩
    split
    · rename_i h; exact tA (by simpa using h)
    · exact tB
  obtain ⟨u6, u7, f1⟩ := f2_ok t (some (false, .scr ns)) (some (false, .lst menu)) (some (false, .int j)) (some (false, .tup [W])) (some (false, .int 0)) x6 x7 x8 x9 none
  obtain ⟨w6, w7, f2⟩ := f2_ok t (some (false, .scr ns)) (some (false, .lst menu)) (some (false, .int j)) (some (false, .tup [W])) (some (false, .int 1)) u6 u7 x8 x9 none
  refine ⟨some (false, rows), some (false, .tup [W]), some (false, .int 1), w6, w7, ?_⟩
  generalize menu = me at *
  unfold d_law_f1
  refine (q_seq (ρ' := [some (false, .scr ns), some (false, .lst me), some (false, .int j), some (false, .tup (hd ++ rest)), some (false, .tup [W]), x5, x6, x7, x8, x9]) ?_).trans ?_
  · have m1 : v2 (bopd .mul) (vK (.int 12)) (vVar 2) [some (false, .scr ns), some (false, .lst me), some (false, .int j), x3, x4, x5, x6, x7, x8, x9] = some (.int (12 * j)) := v2_ok rfl rfl (mulL (by decide) (by decide))
    have c1 : vCall (M 99) 32 (vCons (vVar 0) (vCons (v2 (bopd .mul) (vK (.int 12)) (vVar 2)) (vCons (vVar 1) vNil))) [some (false, .scr ns), some (false, .lst me), some (false, .int j), x3, x4, x5, x6, x7, x8, x9] = some (.tup (hd ++ rest)) := by
      unfold vCall
      rw [vcons_ok (x := .scr ns) (r := [.int (12 * j), .lst me]) rfl (vcons_ok m1 (vcons_ok rfl rfl))]
      exact e32
    have c2 : vCall (M 99) 39 (vCons (vVar 0) (vCons (v2 (bopd .add) (vK (.int 200)) (v2 (bopd .mul) (vK (.int 12)) (vVar 2))) vNil)) [some (false, .scr ns), some (false, .lst me), some (false, .int j), x3, x4, x5, x6, x7, x8, x9] = some (.tup [W]) := by
      unfold vCall
      rw [vcons_ok (x := .scr ns) (r := [.int (200 + 12 * j)]) rfl (vcons_ok (v2_ok (x := .int 200) rfl m1 addE) rfl)]
      exact e39
    unfold vPar
    refine (bs c1).trans ?_
    refine (bs c2).trans ?_
    rfl
  refine (q_seq (ρ' := [some (false, .scr ns), some (false, .lst me), some (false, .int j), some (false, rows), some (false, .tup [W]), x5, x6, x7, x8, x9]) ?_).trans ?_
  · refine (q_asg (d := rows) ?_ (by show 3 < 10; decide)).trans rfl
    have c0 : v2 dCatT (vVar 3) (vVar 4) [some (false, .scr ns), some (false, .lst me), some (false, .int j), some (false, .tup (hd ++ rest)), some (false, .tup [W]), x5, x6, x7, x8, x9] = some (.tup (hd ++ rest ++ [W])) := v2_ok rfl rfl ecat
    have c1 : v2 (cmpd .le) (vCall (M 99) 40 (vCons (v2 dCatT (vVar 3) (vVar 4)) vNil)) (vK (.int 40)) [some (false, .scr ns), some (false, .lst me), some (false, .int j), some (false, .tup (hd ++ rest)), some (false, .tup [W]), x5, x6, x7, x8, x9] = some (.bl (decide (nA ≤ 40))) := by
      refine v2_ok (x := .int nA) (y := .int 40) ?_ rfl rfl
      unfold vCall
      rw [vcons_ok c0 rfl]
      exact (cA 68).2
    unfold vIf
    refine (bs c1).trans ?_
    rw [erow]
    show (if decide (nA ≤ 40) = true then _ else _) = _
    split
    · exact c0
    · rfl
  refine (q_seq (ρ' := [some (false, .scr ns), some (false, .lst me), some (false, .int j), some (false, rows), some (false, .tup [W]), some (false, .int 1), w6, w7, x8, x9]) ?_).trans rfl
  refine (q_for (l := [.int 0, .int 1]) rfl).trans ?_
  show ((d_law_f2 (M 99) [some (false, .scr ns), some (false, .lst me), some (false, .int j), some (false, rows), some (false, .tup [W]), some (false, .int 0), x6, x7, x8, x9]).bind fun o => match o with | .nx ρ' => goFor _ [.int 1] ρ' | .rt x => some (.rt x)) = _
  refine (bs f1).trans ?_
  show ((d_law_f2 (M 99) [some (false, .scr ns), some (false, .lst me), some (false, .int j), some (false, rows), some (false, .tup [W]), some (false, .int 1), u6, u7, x8, x9]).bind fun o => match o with | .nx ρ' => some (Out.nx ρ') | .rt x => some (.rt x)) = _
  exact (bs f2).trans rfl
theorem loop_ok {ns : List Int} (hn : ns.length ≤ 63) : ∀ (l : List Nat) (x2 x3 x4 x5 x6 x7 : O), ∃ y2 y3 y4 y5 y6 y7, goFor (fun d ρ => (bindT (.nm 2) d ρ).bind fun r1 => d_law_f1 (M 99) r1) (l.map fun (j : Nat) => D.int j) [some (false, .scr ns), some (false, .lst menu), x2, x3, x4, x5, x6, x7, none, none] = some (.nx [some (false, .scr ns), some (false, .lst menu), y2, y3, y4, y5, y6, y7, none, none])
  | [], x2, x3, x4, x5, x6, x7 => ⟨x2, x3, x4, x5, x6, x7, rfl⟩
  | j :: l, x2, x3, x4, x5, x6, x7 => by
    obtain ⟨y3, y4, y5, y6, y7, e1⟩ := f1_ok hn j x3 x4 x5 x6 x7 none none
    obtain ⟨z2, z3, z4, z5, z6, z7, e2⟩ := loop_ok hn l (some (false, .int j)) y3 y4 y5 y6 y7
    refine ⟨z2, z3, z4, z5, z6, z7, ?_⟩
    generalize menu = me at *
    show ((d_law_f1 (M 99) [some (false, .scr ns), some (false, .lst me), some (false, .int j), x3, x4, x5, x6, x7, none, none]).bind fun o => match o with | .nx ρ' => goFor (fun d ρ => (bindT (.nm 2) d ρ).bind fun r1 => d_law_f1 (M 99) r1) (l.map fun (j : Nat) => D.int j) ρ' | .rt x => some (.rt x)) = _
    exact (bs e1).trans e2
theorem plain (ns : List Int) (h : ns.length ≤ 63) : M 100 41 [.scr ns] = some (.bl true) := by
  obtain ⟨y2, y3, y4, y5, y6, y7, e⟩ := loop_ok h (List.range 8) none none none none none none
  have r := rest_ok (some (false, .scr ns)) (some (false, .lst menu)) y2 y3 y4 y5 y6 y7
  have e30 := menu_ok 96
  generalize menu = me at *
  show ((d_law (M 99) (startE 10 [.scr ns])).bind fun o => match o with | .nx _ => if false then none else some .non | .rt d => some d) = _
  unfold d_law
  rw [q_seq (ρ' := [some (false, .scr ns), some (false, .lst me), none, none, none, none, none, none, none, none]) (q_asg (d := .lst me) e30 (by show 1 < 10; decide))]
  rw [q_seq (ρ' := [some (false, .scr ns), some (false, .lst me), y2, y3, y4, y5, y6, y7, none, none]) ((q_for (l := (List.range 8).map fun (j : Nat) => D.int j) rfl).trans e)]
  exact (bs r).trans rfl
end K04
end
section
set_option Elab.async false
set_option linter.all false
set_option maxRecDepth 100000
set_option maxHeartbeats 0
namespace K04
open PySem PySem.Spec PyProof.Rows L2 PD
def spLaw (K : PySem.W.Frag) : Sp := spF (T0 K) (M 100 41) false
theorem facts {P : Program} {w : World} {K : PySem.W.Frag} {h : Heap} {mg : Str → Option Value} {f : Addr} (X : K.In h) (Gm : h.Ns mainGlobals mg) (hfa : mg ("law" : Str) = some (.ref f)) (c : He.SaysD fa fn K) :
    ∃ fd : FuncData, (∀ (s : Shared) (v : Value), BindsTo s fd ⟨[v], []⟩ [("_law_script", v)]) ∧ ∀ base : Heap, K.In base → base.Ns mainGlobals mg → FnOk P w K mg base CX0 103 f fd ["_law_script"] (spLaw K) := by
  obtain ⟨fd, F⟩ := z_law c
  have e := hfa.symm.trans (He.glo_ok X Gm (c.fact 41 (f := .glo "law") rfl))
  cases e
  have b := FunD.bindsA (ps := ["_law_script"]) F bd_law
  exact ⟨fd, fun s v => b s [v] rfl, fun base hb hg => x_law F (gx (P := P) (w := w) (base := base) hb hg c 99) (by omega)⟩
end K04
open PySem PySem.W PySem.Calls PyProof.Rows
theorem PySem.Challenge.cw_modulehall_k04_whole_scopes_holds : PySem.Challenge.rw_modulehall_k04_whole_scopes.Holds := by
  w_on; o_law
  refine HandSHeadRun.head_any (r := OpenLaw.row PySem.Challenge.rw_modulehall_k04_whole_scopes) (q := view (OpenLaw.row PySem.Challenge.rw_modulehall_k04_whole_scopes).prog [57]) (H := K04.hk) (ob := K04.ob) (M := 4000) (loose := K04.loose) (d := HandSHeadRun.topDef (OpenLaw.row PySem.Challenge.rw_modulehall_k04_whole_scopes).prog 57) (kwd := []) K04.ob_eq
    (by kernel_rfl) (fun s => by kernel_rfl) K04.run (by kernel_rfl) (by kernel_rfl) (by kernel_rfl) (by rfl) (by first | assumption | decide +kernel) (by decide +kernel) ⟨rfl, rfl, rfl, rfl, rfl, by decide +kernel⟩ ?hw ?hc
  case hw => w_witness2
  case hc =>
    refine L2.walk_ofE (l := PySem.Challenge.rw_modulehall_k04_whole_scopes) (n := 63) (k := 103) (x := "_law_script") (CX := L2.CX0) rfl (by decide) (by kernel_rfl) ⟨rfl, by decide, by decide⟩ ?F (fun _ _ _ _ z => z)
    intro w mg fa h Y G hmg0
    obtain ⟨K, KX, c⟩ := Y
    have hmg : mg ("law" : PySem.Str) = some (.ref fa) := by
      have e : (HandSHeadRun.topDef (OpenLaw.row PySem.Challenge.rw_modulehall_k04_whole_scopes).prog 57).name = ("law" : PySem.Str) := by kernel_rfl
      rw [← e]
      exact hmg0
    obtain ⟨fd, hb, hF⟩ := K04.facts (P := (PySem.Challenge.rw_modulehall_k04_whole_scopes).prog) (w := w) KX G hmg c
    refine ⟨K, fd, K04.spLaw K, KX, hb, fun H a ns hl _ hS => ?_, hF⟩
    exact ⟨H, [.scr ns], .bl true, fun _ _ h => h, ⟨_, _, rfl, ⟨a, rfl, hS⟩, rfl⟩, K04.plain ns hl, fun Hf' H' v _ _ _ _ r => r⟩
end
