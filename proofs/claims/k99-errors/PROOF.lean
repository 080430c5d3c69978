import PyProof.Rows.All
import Wide.All
import OpenK.AllK
import Wide.FinOn
import KE.KStateDown
import HandS.ForMost
import HandS.ForExc
import HandS.Evl
import HandS.ExcInit
import HandS.Wide
import HandS.TupAny
import HandS.TupMul
import HandS.IsInst
import HandS.Deep
import HandS.Gcd
import HandS.Style
import HandS.CallSlots
import HandS.Defaults
import HandS.Walk
import HandS.Zip
import KE.GoesMore
import HandS.Conv
import HandS.DictComp
import HandS.SetFor
import PyProof.ReprRoads
import KE.KExcInit
import KE.KExcMore
import KE.KExcIs
import HandS.MakeKw
import HandS.HeadHook2
import PySem.Challenge.RW_allslopes_k99_errors_by_hand
import HandS.Ends
import HandS.HeadEnd
import HandS.Head2
section
set_option Elab.async false
set_option linter.all false
set_option maxRecDepth 100000
set_option maxHeartbeats 4000000
namespace LD
open PySem PySem.Spec PyProof.Rows L2

/-! ### data -/
/-- data that nobody changes any more -/
inductive D where
  | non | bl (b : Bool) | int (i : Int) | str (s : Str) | tup (ds : List D) | lst (ds : List D) | dk (kvs : List (Key × D)) | scr (ns : List Int) | exc (C : Addr) (f : Str) (d : D) (m : Str) | opq (v : V)
/-- what a slot may hold: frozen data, a list or a dict of its own -/
inductive OV where
  | fz (d : D) | ls (xs : List OV) | dk (kvs : List (Key × D))
mutual
def erase : OV → D
  | .fz d => d
  | .ls xs => .lst (eraseAll xs)
  | .dk kvs => .dk kvs
def eraseAll : List OV → List D
  | [] => []
  | x :: xs => erase x :: eraseAll xs
end
theorem eraseAll_eq : ∀ xs, eraseAll xs = xs.map erase
  | [] => rfl
  | x :: xs => by rw [eraseAll, eraseAll_eq xs]; rfl
theorem erase_fzs (ds : List D) : eraseAll (ds.map .fz) = ds := by
  rw [eraseAll_eq, List.map_map]
  induction ds with
  | nil => rfl
  | cons d ds ih => rw [List.map_cons, ih]; rfl

abbrev Ex (H H' : Hp) : Prop := ∀ a o, H a = some o → H' a = some o
theorem Ex.refl (H : Hp) : Ex H H := fun _ _ h => h
theorem Ex.trans {H H1 H2 : Hp} (a : Ex H H1) (b : Ex H1 H2) : Ex H H2 := fun x o h => b x o (a x o h)
theorem Ex.new {H : Hp} {p : Addr} {o : HO} (h : H p = none) : Ex H (upd H p o) := fun a u e => by
  rw [upd_ne (ne_of_none e h)]
  exact e
theorem Ex.none {H H' : Hp} (e : Ex H H') {p : Addr} (h : H' p = none) : H p = none := by
  cases h1 : H p with
  | none => rfl
  | some o => rw [e p o h1] at h; cases h

/-- an exception at e that holds its args at t1, its dict at dx -/
def exT (e C dx t1 : Addr) : HO := .ext fun h => h.get? e = some ({ cls := .ref C, dict := some dx, data := .fields #[.ref t1, .none, .none, .none, .bool false, .none] } : Obj)
section
variable (K : PySem.W.Frag)
mutual
inductive Rep (G : Hp) : V → D → Prop
  | non : Rep G .non .non
  | bl (b : Bool) : Rep G (.bl b) (.bl b)
  | int (i : Int) : Rep G (.int i) (.int i)
  | str (x : Str) : Rep G (.str x) (.str x)
  | tup {a : Addr} {xs : List V} {ds : List D} : SqT K G a xs → RepAll G xs ds → Rep G (.ref a) (.tup ds)
  | lst {a : Addr} {xs : List V} {ds : List D} : G a = some (.lst xs) → RepAll G xs ds → Rep G (.ref a) (.lst ds)
  | scr {a : Addr} {ns : List Int} : SqL K G a (ns.map V.int) → Rep G (.ref a) (.scr ns)
  | dk {a : Addr} {kvs : List (Key × V)} {ds : List (Key × D)} : G a = some (.dK kvs) → RepKV G kvs ds → Rep G (.ref a) (.dk ds)
  | exc {a C dx t1 : Addr} {f m : Str} {v : V} {d : D} : G a = some (exT a C dx t1) → G dx = some (exd dx [(f, v)]) → G t1 = some (.tup [.str m]) → Rep G v d → Rep G (.ref a) (.exc C f d m)
  | opq (v : V) : Rep G v (.opq v)
inductive RepAll (G : Hp) : List V → List D → Prop
  | nil : RepAll G [] []
  | cons {v : V} {vs : List V} {d : D} {ds : List D} : Rep G v d → RepAll G vs ds → RepAll G (v :: vs) (d :: ds)
inductive RepKV (G : Hp) : List (Key × V) → List (Key × D) → Prop
  | nil : RepKV G [] []
  | cons {k : Key} {v : V} {vs : List (Key × V)} {d : D} {ds : List (Key × D)} : Rep G v d → RepKV G vs ds → RepKV G ((k, v) :: vs) ((k, d) :: ds)
end
/-- an object of a slot's own; F covers the addresses that it stands at -/
inductive Own (G H : Hp) : V → OV → (Addr → Prop) → Prop
  | fz {v : V} {d : D} {F : Addr → Prop} : Rep K G v d → Own G H v (.fz d) F
  | ls {p : Addr} {vs : List V} {xs : List OV} {F : Addr → Prop} (fps : Nat → Addr → Prop) : H p = some (.lst vs) → F p → vs.length = xs.length →
      (∀ (i : Nat) (v : V) (o : OV), vs[i]? = some v → xs[i]? = some o → Own G H v o (fps i)) → (∀ i a, fps i a → F a ∧ a ≠ p) → (∀ i j a, fps i a → fps j a → i = j) → Own G H (.ref p) (.ls xs) F
  | dk {p : Addr} {kvs : List (Key × V)} {ds : List (Key × D)} {F : Addr → Prop} : H p = some (.dK kvs) → F p → RepKV K G kvs ds → Own G H (.ref p) (.dk ds) F
end

section
variable {K : PySem.W.Frag} {G G' H H' : Hp}
theorem sql_ex (e : Ex G G') {a : Addr} {xs : List V} (h : SqL K G a xs) : SqL K G' a xs := by
  rcases h with (h | ⟨o, h⟩) | h
  · exact Or.inl (Or.inl (e _ _ h))
  · exact Or.inl (Or.inr ⟨o, e _ _ h⟩)
  · exact Or.inr h
theorem sqt_ex (e : Ex G G') {a : Addr} {xs : List V} (h : SqT K G a xs) : SqT K G' a xs := by
  rcases h with (h | ⟨o, h⟩) | h
  · exact Or.inl (Or.inl (e _ _ h))
  · exact Or.inl (Or.inr ⟨o, e _ _ h⟩)
  · exact Or.inr h
mutual
theorem Rep.mono (e : Ex G G') : ∀ {d : D} {v : V}, Rep K G v d → Rep K G' v d
  | .non, _, h => by cases h; exact .non
  | .bl b, _, h => by cases h; exact .bl b
  | .int b, _, h => by cases h; exact .int b
  | .str b, _, h => by cases h; exact .str b
  | .tup ds, _, h => by
    cases h with
    | tup h1 h2 => exact .tup (sqt_ex e h1) (RepAll.mono e h2)
  | .lst ds, _, h => by
    cases h with
    | lst h1 h2 => exact .lst (e _ _ h1) (RepAll.mono e h2)
  | .scr ns, _, h => by
    cases h with
    | scr h1 => exact .scr (sql_ex e h1)
  | .dk ds, _, h => by
    cases h with
    | dk h1 h2 => exact .dk (e _ _ h1) (RepKV.mono e h2)
  | .exc C f d m, _, h => by
    cases h with
    | exc h1 h2 h3 h4 => exact .exc (e _ _ h1) (e _ _ h2) (e _ _ h3) (Rep.mono e h4)
  | .opq v, _, h => by cases h; exact .opq v
theorem RepAll.mono (e : Ex G G') : ∀ {ds : List D} {vs : List V}, RepAll K G vs ds → RepAll K G' vs ds
  | [], _, h => by cases h; exact .nil
  | d :: ds, _, h => by
    cases h with
    | cons h1 h2 => exact .cons (Rep.mono e h1) (RepAll.mono e h2)
theorem RepKV.mono (e : Ex G G') : ∀ {ds : List (Key × D)} {vs : List (Key × V)}, RepKV K G vs ds → RepKV K G' vs ds
  | [], _, h => by cases h; exact .nil
  | (k, d) :: ds, _, h => by
    cases h with
    | cons h1 h2 => exact .cons (Rep.mono e h1) (RepKV.mono e h2)
end
theorem Own.mono {v : V} {o : OV} {F : Addr → Prop} (h : Own K G H v o F) (e : Ex G G') (k : ∀ a u, F a → H a = some u → H' a = some u) : Own K G' H' v o F := by
  induction h with
  | fz r => exact .fz (r.mono e)
  | ls fps h1 h2 h3 _ h5 h6 ih => exact .ls fps (k _ _ h2 h1) h2 h3 (fun i v o a b => ih i v o a b fun x u fx hx => k x u (h5 i x fx).1 hx) h5 h6
  | dk h1 h2 h3 => exact .dk (k _ _ h2 h1) h2 (h3.mono e)
theorem Own.wide {v : V} {o : OV} {F F' : Addr → Prop} (h : Own K G H v o F) (s : ∀ a, F a → F' a) : Own K G H v o F' := by
  induction h generalizing F' with
  | fz r => exact .fz r
  | ls fps h1 h2 h3 h4 h5 h6 ih => exact .ls fps h1 (s _ h2) h3 h4 (fun i a q => ⟨s _ (h5 i a q).1, (h5 i a q).2⟩) h6
  | dk h1 h2 h3 => exact .dk h1 (s _ h2) h3
theorem RepAll.get : ∀ {vs : List V} {ds : List D}, RepAll K G vs ds → ∀ {i : Nat} {d : D}, ds[i]? = some d → ∃ v, vs[i]? = some v ∧ Rep K G v d
  | _, _, .nil, i, d, e => by simp at e
  | _, _, .cons h t, 0, d, e => by simp at e; subst e; exact ⟨_, rfl, h⟩
  | _, _, .cons h t, i + 1, d, e => by
    obtain ⟨v, e1, r⟩ := t.get (i := i) (by simpa using e)
    exact ⟨v, by simpa using e1, r⟩
theorem RepAll.length : ∀ {vs : List V} {ds : List D}, RepAll K G vs ds → vs.length = ds.length
  | _, _, .nil => rfl
  | _, _, .cons h t => by simp [t.length]
theorem RepAll.append : ∀ {vs ws : List V} {ds es : List D}, RepAll K G vs ds → RepAll K G ws es → RepAll K G (vs ++ ws) (ds ++ es)
  | _, _, _, _, .nil, h => h
  | _, _, _, _, .cons a t, h => .cons a (t.append h)
theorem RepAll.of {vs : List V} {ds : List D} (hl : vs.length = ds.length) (h : ∀ (i : Nat) v d, vs[i]? = some v → ds[i]? = some d → Rep K G v d) : RepAll K G vs ds := by
  induction vs generalizing ds with
  | nil => cases ds with | nil => exact .nil | cons d ds => simp at hl
  | cons v vs ih =>
    cases ds with
    | nil => simp at hl
    | cons d ds => exact .cons (h 0 v d rfl rfl) (ih (by simpa using hl) fun i v d a b => h (i + 1) v d (by simpa using a) (by simpa using b))

open Classical in
/-- the objects of F let go: from now on they are frozen -/
noncomputable def froz (G H : Hp) (F : Addr → Prop) : Hp := fun a => if F a then H a else G a
theorem froz_in {F : Addr → Prop} {a : Addr} (h : F a) : froz G H F a = H a := by unfold froz; rw [if_pos h]
theorem froz_out {F : Addr → Prop} {a : Addr} (h : ¬ F a) : froz G H F a = G a := by unfold froz; rw [if_neg h]
theorem froz_ex {F : Addr → Prop} (e : Ex G H) : Ex G (froz G H F) := fun a o h => by
  by_cases f : F a
  · rw [froz_in f]; exact e _ _ h
  · rw [froz_out f]; exact h
theorem froz_le {F : Addr → Prop} (e : Ex G H) : Ex (froz G H F) H := fun a o h => by
  by_cases f : F a
  · rw [froz_in f] at h; exact h
  · rw [froz_out f] at h; exact e _ _ h
theorem Own.froz {v : V} {o : OV} {F F' : Addr → Prop} (e : Ex G H) (h : Own K G H v o F) (s : ∀ a, F a → F' a) : Rep K (froz G H F') v (erase o) := by
  induction h with
  | fz r => exact r.mono (froz_ex e)
  | @ls p vs xs F fps h1 h2 h3 _ h5 h6 ih =>
    refine .lst (by rw [froz_in (s _ h2)]; exact h1) (RepAll.of (by rw [eraseAll_eq, List.length_map]; exact h3) fun i v d a b => ?_)
    rw [eraseAll_eq, List.getElem?_map] at b
    cases q : xs[i]? with
    | none => rw [q] at b; cases b
    | some o =>
      rw [q] at b
      cases b
      exact ih i v o a q fun x fx => s x (h5 i x fx).1
  | dk h1 h2 h3 => exact .dk (by rw [froz_in (s _ h2)]; exact h1) (h3.mono (froz_ex e))
end
end LD

end
section
set_option Elab.async false
set_option linter.all false
set_option maxRecDepth 100000
set_option maxHeartbeats 4000000
namespace LD
open PySem PySem.Spec PyProof.Rows L2

abbrev Envr := List (Option OV)
/-- the frame's slots σ hold what ρ says; each owned object stands apart -/
structure Ok (K : PySem.W.Frag) (G H : Hp) (σ : L2.St) (ρ : Envr) (fps : Nat → Addr → Prop) : Prop where
  ex : Ex G H
  len : σ.length = ρ.length
  own : ∀ (i : Nat) o, ρ[i]? = some (some o) → ∃ v, σ[i]? = some (some v) ∧ Own K G H v o (fps i)
  dj : ∀ i j a, fps i a → fps j a → i = j
  fr : ∀ i a, fps i a → H a ≠ none ∧ G a = none
abbrev Tot (fps : Nat → Addr → Prop) (a : Addr) : Prop := ∃ i, fps i a
/-- from (G, H) to (G', H'): what is not ours stands as it stood -/
structure Frm (fps : Nat → Addr → Prop) (G H G' H' : Hp) : Prop where
  h : ∀ a o, H a = some o → ¬ Tot fps a → H' a = some o
  g : ∀ a, H a ≠ none → ¬ Tot fps a → G' a = G a
  ex : Ex G G'
structure Post (K : PySem.W.Frag) (P : List Nat) (G H : Hp) (σ : L2.St) (fps : Nat → Addr → Prop) (G' H' : Hp) (σ' : L2.St) (ρ' : Envr) (fps' : Nat → Addr → Prop) : Prop where
  ok : Ok K G' H' σ' ρ' fps'
  frm : Frm fps G H G' H'
  sub : ∀ a, Tot fps' a → Tot fps a ∨ H a = none
  pr : ∀ i ∈ P, σ'[i]? = σ[i]?
section
variable {K : PySem.W.Frag} {P : List Nat} {G H G1 H1 G2 H2 : Hp} {σ σ1 σ2 : L2.St} {ρ ρ1 ρ2 : Envr} {fps fps1 fps2 : Nat → Addr → Prop}
theorem Frm.refl : Frm fps G H G H := ⟨fun _ _ h _ => h, fun _ _ _ => rfl, Ex.refl _⟩
theorem Post.refl (h : Ok K G H σ ρ fps) : Post K P G H σ fps G H σ ρ fps := ⟨h, .refl, fun _ h => .inl h, fun _ _ => rfl⟩
theorem Post.trans (a : Post K P G H σ fps G1 H1 σ1 ρ1 fps1) (b : Post K P G1 H1 σ1 fps1 G2 H2 σ2 ρ2 fps2) : Post K P G H σ fps G2 H2 σ2 ρ2 fps2 := by
  have nt : ∀ x, H x ≠ none → ¬ Tot fps x → ¬ Tot fps1 x := fun x hx hn ht => (a.sub x ht).elim hn hx
  refine ⟨b.ok, ⟨fun x o h n => b.frm.h x o (a.frm.h x o h n) (nt x (by rw [h]; simp) n), fun x hx n => ?_, a.frm.ex.trans b.frm.ex⟩, fun x hx => ?_, fun i hi => (b.pr i hi).trans (a.pr i hi)⟩
  · have h1 : H1 x ≠ none := by
      cases q : H x with
      | none => exact absurd q hx
      | some o => rw [a.frm.h x o q n]; simp
    rw [b.frm.g x h1 (nt x hx n), a.frm.g x hx n]
  · rcases b.sub x hx with h | h
    · exact a.sub x h
    · by_cases t : Tot fps x
      · exact .inl t
      · refine .inr ?_
        cases q : H x with
        | none => rfl
        | some o => rw [a.frm.h x o q t] at h; cases h
theorem Post.weak {P' : List Nat} (a : Post K P G H σ fps G1 H1 σ1 ρ1 fps1) (h : ∀ i ∈ P', i ∈ P) : Post K P' G H σ fps G1 H1 σ1 ρ1 fps1 := ⟨a.ok, a.frm, a.sub, fun i hi => a.pr i (h i hi)⟩

/-- a new object that is frozen at once -/
theorem Ok.newG (h : Ok K G H σ ρ fps) {p : Addr} {o : HO} (hp : H p = none) : Post K P G H σ fps (upd G p o) (upd H p o) σ ρ fps := by
  have gp : G p = none := h.ex.none hp
  have np : ∀ i a, fps i a → a ≠ p := fun i a f e => (h.fr i a f).1 (by rw [e]; exact hp)
  refine ⟨⟨fun a u e => ?_, h.len, fun i x e => ?_, h.dj, fun i a f => ?_⟩, ⟨fun a u e _ => ?_, fun a e _ => ?_, Ex.new gp⟩, fun a t => .inl t, fun _ _ => rfl⟩
  · by_cases q : a = p
    · rw [q, upd_same] at e ⊢; exact e
    · rw [upd_ne q] at e ⊢; exact h.ex _ _ e
  · obtain ⟨v, e1, w⟩ := h.own i x e
    exact ⟨v, e1, w.mono (Ex.new gp) fun a u f e => by rw [upd_ne (np i a f)]; exact e⟩
  · rw [upd_ne (np i a f), upd_ne (np i a f)]; exact h.fr i a f
  · rw [upd_ne (ne_of_none e hp)]; exact e
  · by_cases q : a = p
    · exact absurd (q ▸ hp) e
    · rw [upd_ne q]
/-- a new object that is nobody's as yet -/
theorem Ok.newH (h : Ok K G H σ ρ fps) {p : Addr} {o : HO} (hp : H p = none) : Post K P G H σ fps G (upd H p o) σ ρ fps := by
  have gp : G p = none := h.ex.none hp
  have np : ∀ i a, fps i a → a ≠ p := fun i a f e => (h.fr i a f).1 (by rw [e]; exact hp)
  refine ⟨⟨fun a u e => ?_, h.len, fun i x e => ?_, h.dj, fun i a f => ?_⟩, ⟨fun a u e _ => ?_, fun a e _ => rfl, Ex.refl _⟩, fun a t => .inl t, fun _ _ => rfl⟩
  · rw [upd_ne (ne_of_none e gp)]; exact h.ex _ _ e
  · obtain ⟨v, e1, w⟩ := h.own i x e
    exact ⟨v, e1, w.mono (Ex.refl _) fun a u f e => by rw [upd_ne (np i a f)]; exact e⟩
  · rw [upd_ne (np i a f)]; exact h.fr i a f
  · rw [upd_ne (ne_of_none e hp)]; exact e
/-- slot i's own objects are let go -/
theorem Ok.thaw (h : Ok K G H σ ρ fps) {i : Nat} {o : OV} {v : V} (hi : ρ[i]? = some (some o)) (hv : σ[i]? = some (some v)) :
    ∃ G' fps', Post K P G H σ fps G' H σ (ρ.set i (some (.fz (erase o)))) fps' ∧ Rep K G' v (erase o) := by
  obtain ⟨v', e1, w⟩ := h.own i o hi
  rw [hv] at e1; cases e1
  have r := w.froz h.ex fun a f => f
  have hil : i < ρ.length := (List.getElem?_eq_some_iff.mp hi).1
  refine ⟨froz G H (fps i), fun j a => j ≠ i ∧ fps j a, ⟨⟨froz_le h.ex, by rw [List.length_set]; exact h.len, fun j x e => ?_, fun j k a f g => h.dj j k a f.2 g.2, fun j a f => ⟨(h.fr j a f.2).1, ?_⟩⟩,
    ⟨fun a u e _ => e, fun a e t => froz_out fun f => t ⟨i, f⟩, froz_ex h.ex⟩, fun a ⟨j, t⟩ => .inl ⟨j, t.2⟩, fun _ _ => rfl⟩, r⟩
  · by_cases q : j = i
    · subst q
      rw [List.getElem?_set_self hil] at e
      cases e
      exact ⟨v, hv, .fz r⟩
    · rw [List.getElem?_set_ne (Ne.symm q)] at e
      obtain ⟨y, e1, w⟩ := h.own j x e
      exact ⟨y, e1, (w.mono (froz_ex h.ex) fun _ _ _ e => e).wide fun a f => ⟨q, f⟩⟩
  · rw [froz_out fun g => f.1 (h.dj j i a f.2 g)]; exact (h.fr j a f.2).2
/-- a value that comes with objects of its own: let go -/
structure Got (K : PySem.W.Frag) (G H : Hp) (fps : Nat → Addr → Prop) (v : V) (o : OV) (F : Addr → Prop) : Prop where
  own : Own K G H v o F
  dj : ∀ i a, fps i a → ¬ F a
  fr : ∀ a, F a → H a ≠ none ∧ G a = none
theorem Got.fz {v : V} {d : D} (r : Rep K G v d) : Got K G H fps v (.fz d) fun _ => False := ⟨.fz r, fun _ _ _ h => h, fun _ h => h.elim⟩
theorem Ok.let_ (h : Ok K G H σ ρ fps) {v : V} {o : OV} {F : Addr → Prop} (g : Got K G H fps v o F) : Ok K (froz G H F) H σ ρ fps ∧ Rep K (froz G H F) v (erase o) ∧ Ex G (froz G H F) ∧ (∀ a, ¬ F a → froz G H F a = G a) := by
  refine ⟨⟨froz_le h.ex, h.len, fun i x e => ?_, h.dj, fun i a f => ⟨(h.fr i a f).1, ?_⟩⟩, g.own.froz h.ex fun _ f => f, froz_ex h.ex, fun a n => froz_out n⟩
  · obtain ⟨y, e1, w⟩ := h.own i x e
    exact ⟨y, e1, w.mono (froz_ex h.ex) fun _ _ _ e => e⟩
  · rw [froz_out (g.dj i a f)]; exact (h.fr i a f).2
/-- slot i takes a new value -/
theorem Ok.set (h : Ok K G H σ ρ fps) {i : Nat} {v : V} {o : OV} {F : Addr → Prop} (g : Got K G H fps v o F) (hi : i < σ.length) :
    Ok K G H (σ.set i (some v)) (ρ.set i (some o)) (fun j a => if j = i then F a else fps j a) := by
  refine ⟨h.ex, by rw [List.length_set, List.length_set]; exact h.len, fun j x e => ?_, fun j k a f q => ?_, fun j a f => ?_⟩
  · by_cases q : j = i
    · subst q
      rw [List.getElem?_set_self (by rw [← h.len]; exact hi)] at e
      cases e
      exact ⟨v, List.getElem?_set_self hi, by simpa using g.own⟩
    · rw [List.getElem?_set_ne (Ne.symm q)] at e
      obtain ⟨y, e1, w⟩ := h.own j x e
      exact ⟨y, by rw [List.getElem?_set_ne (Ne.symm q)]; exact e1, by simpa [q] using w⟩
  · by_cases q1 : j = i
    · by_cases q2 : k = i
      · rw [q1, q2]
      · simp [q1, q2] at f q
        exact absurd f (g.dj k a q)
    · by_cases q2 : k = i
      · simp [q1, q2] at f q
        exact absurd q (g.dj j a f)
      · simp [q1, q2] at f q
        exact h.dj j k a f q
  · by_cases q1 : j = i
    · simp [q1] at f; exact g.fr a f
    · simp [q1] at f; exact h.fr j a f
/-- slot i is forgotten -/
theorem Ok.drop (h : Ok K G H σ ρ fps) (i : Nat) : Ok K G H σ (ρ.set i none) fps := by
  refine ⟨h.ex, by rw [List.length_set]; exact h.len, fun j x e => ?_, h.dj, h.fr⟩
  by_cases q : j = i
  · subst q
    by_cases hl : j < ρ.length
    · rw [List.getElem?_set_self hl] at e; cases e
    · rw [List.set_eq_of_length_le (by omega)] at e
      exact h.own j x e
  · rw [List.getElem?_set_ne (Ne.symm q)] at e
    exact h.own j x e
end

/-! ### what comes of an expression, of a statement -/
/-- a value and the slots behind it, or an error: its kind, its field, what it keeps -/
inductive R (α : Type) where
  | ok (a : α) (ρ : Envr) | ex (k f : Str) (d : D) (ρ : Envr)
inductive SR where
  | nx (ρ : Envr) | rt (o : OV) (ρ : Envr) | bk (ρ : Envr) | ct (ρ : Envr) | ex (k f : Str) (d : D) (ρ : Envr)
abbrev FE := Envr → Option (R D)
abbrev FO := Envr → Option (R OV)
abbrev FT := Envr → Option (R Bool)
abbrev FA := Envr → Option (R (List D))
abbrev FS := Envr → Option SR

section
variable (K : PySem.W.Frag) (cm : Str → Addr) (W : WX)
/-- what is wanted where an error comes -/
def WEx (P : List Nat) (G H : Hp) (σ : L2.St) (fps : Nat → Addr → Prop) (k f : Str) (d : D) (ρ' : Envr) (σ' : L2.St) : Prop :=
  ∀ v dx G' H' fps', Post K P G H σ fps G' H' σ' ρ' fps' → H' dx = some (.xd [(f, v)]) → Rep K G' v d → W (.ref (cm k)) (some dx) σ' H'
def DE (t : TE) (f : FE) : Prop := ∀ G H σ ρ fps, Ok K G H σ ρ fps → ∀ r, f ρ = some r → ∀ Q : VK,
  (match r with
    | .ok d ρ' => ∀ v G' H' fps', Post K [] G H σ fps G' H' σ ρ' fps' → Rep K G' v d → Q v H'
    | .ex k f d ρ' => WEx K cm W [] G H σ fps k f d ρ' σ) → t σ H Q
def DO (t : TE) (f : FO) : Prop := ∀ G H σ ρ fps, Ok K G H σ ρ fps → ∀ r, f ρ = some r → ∀ Q : VK,
  (match r with
    | .ok o ρ' => ∀ v G' H' fps' F, Post K [] G H σ fps G' H' σ ρ' fps' → Got K G' H' fps' v o F → (∀ a, F a → Tot fps a ∨ H a = none) → Q v H'
    | .ex k f d ρ' => WEx K cm W [] G H σ fps k f d ρ' σ) → t σ H Q
def DT (t : TT) (f : FT) : Prop := ∀ G H σ ρ fps, Ok K G H σ ρ fps → ∀ r, f ρ = some r → ∀ Q : Bool → Hp → Prop,
  (match r with
    | .ok b ρ' => ∀ G' H' fps', Post K [] G H σ fps G' H' σ ρ' fps' → Q b H'
    | .ex k f d ρ' => WEx K cm W [] G H σ fps k f d ρ' σ) → t σ H Q
def DA (t : TA) (f : FA) : Prop := ∀ G H σ ρ fps, Ok K G H σ ρ fps → ∀ r, f ρ = some r → ∀ Q : List V → Hp → Prop,
  (match r with
    | .ok ds ρ' => ∀ vs G' H' fps', Post K [] G H σ fps G' H' σ ρ' fps' → RepAll K G' vs ds → Q vs H'
    | .ex k f d ρ' => WEx K cm W [] G H σ fps k f d ρ' σ) → t σ H Q
/-- P: the slots that keep their objects -/
def DS (P : List Nat) (t : TS) (f : FS) : Prop := ∀ G H σ ρ fps, Ok K G H σ ρ fps → ∀ r, f ρ = some r → ∀ D : Ends,
  (match r with
    | .nx ρ' => ∀ σ' G' H' fps', Post K P G H σ fps G' H' σ' ρ' fps' → D.nx σ' H'
    | .bk ρ' => ∀ σ' G' H' fps', Post K P G H σ fps G' H' σ' ρ' fps' → D.bk σ' H'
    | .ct ρ' => ∀ σ' G' H' fps', Post K P G H σ fps G' H' σ' ρ' fps' → D.ct σ' H'
    | .rt o ρ' => ∀ v σ' G' H' fps' F, Post K P G H σ fps G' H' σ' ρ' fps' → Got K G' H' fps' v o F → (∀ a, F a → Tot fps a ∨ H a = none) → D.rt v H'
    | .ex k f d ρ' => ∀ σ', WEx K cm W P G H σ fps k f d ρ' σ') → t D σ H
end

section
variable (X : Cx) (cm : Str → Addr) (W : WX)
structure Dx (e : Expr) (t : TE) (f : FE) : Prop where
  pe : PE X e t
  de : DE X.K cm W t f
structure Ox (e : Expr) (t : TE) (f : FO) : Prop where
  pe : PE X e t
  de : DO X.K cm W t f
structure Tx (e : Expr) (t : TT) (f : FT) : Prop where
  pe : PT X e t
  de : DT X.K cm W t f
structure Wx (e : Expr) (t : TT) (f : FT) : Prop where
  pe : L2.PW X e t
  de : DT X.K cm W t f
structure Ax (e : List Expr) (t : TA) (f : FA) : Prop where
  pe : PA X e t
  de : DA X.K cm W t f
structure Sx (P : List Nat) (e : Stmt) (t : TS) (f : FS) : Prop where
  pe : PS X e t
  de : DS X.K cm W P t f
structure Bx (P : List Nat) (e : List Stmt) (t : TS) (f : FS) : Prop where
  pe : PSs X e t
  de : DS X.K cm W P t f
end
section
variable {X : Cx} {cm : Str → Addr} {W : WX} {K : PySem.W.Frag} {G H : Hp} {σ : L2.St} {ρ ρ1 : Envr} {fps : Nat → Addr → Prop}
theorem WEx.back {P : List Nat} {k f : Str} {d : D} {G1 H1 : Hp} {σ1 σ' : L2.St} {ρ1 ρ' : Envr} {fps1 : Nat → Addr → Prop} (w : WEx K cm W P G H σ fps k f d ρ' σ') (p : Post K P G H σ fps G1 H1 σ1 ρ1 fps1) : WEx K cm W P G1 H1 σ1 fps1 k f d ρ' σ' :=
  fun v dx G' H' fps' q => w v dx G' H' fps' (p.trans q)
/-- an expression's error within a statement -/
theorem WEx.expr {P : List Nat} {k f : Str} {d : D} {ρ' : Envr} (w : ∀ σ', WEx K cm W P G H σ fps k f d ρ' σ') : WEx K cm W [] G H σ fps k f d ρ' σ :=
  fun v dx G' H' fps' q => w σ v dx G' H' fps' ⟨q.ok, q.frm, q.sub, fun _ _ => rfl⟩
theorem Post.any {P : List Nat} {G' H' : Hp} {fps' : Nat → Addr → Prop} (q : Post K [] G H σ fps G' H' σ ρ fps') : Post K P G H σ fps G' H' σ ρ fps' := ⟨q.ok, q.frm, q.sub, fun _ _ => rfl⟩
end
end LD

end
section
set_option Elab.async false
set_option linter.all false
set_option maxRecDepth 100000
set_option maxHeartbeats 4000000
namespace LD
open PySem PySem.Spec PyProof.Rows L2

/-! ### combinators -/
def rb {α β : Type} (r : Option (R α)) (k : α → Envr → Option (R β)) : Option (R β) := match r with
  | none => none
  | some (.ok a ρ) => k a ρ
  | some (.ex k f d ρ) => some (.ex k f d ρ)
def fC (d : D) : FE := fun ρ => some (.ok d ρ)
def fV (i : Nat) : FE := fun ρ => match ρ[i]? with
  | some (some (.fz d)) => some (.ok d ρ)
  | some (some o) => some (.ok (erase o) (ρ.set i (some (.fz (erase o)))))
  | _ => none
/-- frozen at once -/
def fE (f : FO) : FE := fun ρ => rb (f ρ) fun o ρ1 => some (.ok (erase o) ρ1)
def fO (f : FE) : FO := fun ρ => rb (f ρ) fun d ρ1 => some (.ok (.fz d) ρ1)
def f1 (op : D → Option OV) (f : FE) : FO := fun ρ => rb (f ρ) fun d ρ1 => (op d).map (.ok · ρ1)
def f2 (op : D → D → Option OV) (f g : FE) : FO := fun ρ => rb (f ρ) fun d ρ1 => rb (g ρ1) fun e ρ2 => (op d e).map (.ok · ρ2)
def fN (op : List D → Option OV) (f : FA) : FO := fun ρ => rb (f ρ) fun ds ρ1 => (op ds).map (.ok · ρ1)
def fNil : FA := fun ρ => some (.ok [] ρ)
def fCons (f : FE) (g : FA) : FA := fun ρ => rb (f ρ) fun d ρ1 => rb (g ρ1) fun ds ρ2 => some (.ok (d :: ds) ρ2)
def fTup (f : FA) : FE := fun ρ => rb (f ρ) fun ds ρ1 => if ds.length ≤ 100000 then some (.ok (.tup ds) ρ1) else none
def fLst (f : FA) : FO := fun ρ => rb (f ρ) fun ds ρ1 => if ds.length ≤ 100000 then some (.ok (.ls (ds.map .fz)) ρ1) else none
def fTest (f : FE) : FT := fun ρ => rb (f ρ) fun d ρ1 => match d with
  | .bl b => some (.ok b ρ1)
  | _ => none
def fBool (f : FT) : FE := fun ρ => rb (f ρ) fun b ρ1 => some (.ok (.bl b) ρ1)
def fAnd (f g : FT) : FT := fun ρ => rb (f ρ) fun b ρ1 => if b = true then g ρ1 else some (.ok false ρ1)
def fOr (f g : FT) : FT := fun ρ => rb (f ρ) fun b ρ1 => if b = true then some (.ok true ρ1) else g ρ1
def fNot (f : FT) : FT := fun ρ => rb (f ρ) fun b ρ1 => some (.ok (!b) ρ1)
def fIf {α : Type} (c : FT) (f g : Envr → Option (R α)) : Envr → Option (R α) := fun ρ => rb (c ρ) fun b ρ1 => if b = true then f ρ1 else g ρ1

/-! ### what grows -/
structure Alloc (G H G' H' : Hp) : Prop where
  ex : Ex H H'
  exg : Ex G G'
  le : Ex G' H'
  old : ∀ a, H a ≠ none → G' a = G a
section
variable {K : PySem.W.Frag} {P : List Nat} {G H G1 H1 G' H' : Hp} {σ : L2.St} {ρ : Envr} {fps : Nat → Addr → Prop}
theorem Alloc.refl (h : Ex G H) : Alloc G H G H := ⟨Ex.refl _, Ex.refl _, h, fun _ _ => rfl⟩
theorem Alloc.post (a : Alloc G H G' H') (h : Ok K G H σ ρ fps) : Post K P G H σ fps G' H' σ ρ fps := by
  refine ⟨⟨a.le, h.len, fun i o e => ?_, h.dj, fun i x f => ?_⟩, ⟨fun x o e _ => a.ex x o e, fun x n _ => a.old x n, a.exg⟩, fun x t => .inl t, fun _ _ => rfl⟩
  · obtain ⟨v, e1, w⟩ := h.own i o e
    exact ⟨v, e1, w.mono a.exg fun x u _ q => a.ex x u q⟩
  · obtain ⟨n, g⟩ := h.fr i x f
    refine ⟨?_, by rw [a.old x n]; exact g⟩
    cases q : H x with
    | none => exact absurd q n
    | some o => rw [a.ex x o q]; simp
theorem Alloc.newG (h : Ex G H) {p : Addr} {o : HO} (hp : H p = none) : Alloc G H (upd G p o) (upd H p o) := by
  refine ⟨Ex.new hp, Ex.new (h.none hp), fun a u e => ?_, fun a e => ?_⟩
  · by_cases q : a = p
    · rw [q, upd_same] at e ⊢; exact e
    · rw [upd_ne q] at e ⊢; exact h _ _ e
  · rw [upd_ne fun q => e (by rw [q]; exact hp)]
theorem Alloc.newH (h : Ex G H) {p : Addr} {o : HO} (hp : H p = none) : Alloc G H G (upd H p o) := by
  refine ⟨Ex.new hp, Ex.refl _, fun a u e => ?_, fun a e => rfl⟩
  rw [upd_ne (ne_of_none e (h.none hp))]; exact h _ _ e

section
variable (K)
/-- a value's making by one, two, many: what it says, op, as data -/
def Op1 (r : V → Hp → VK → Prop) (op : D → Option OV) : Prop := ∀ G H x d o, Ex G H → Rep K G x d → op d = some o → ∀ Q : VK,
  (∀ v G' H' F, Alloc G H G' H' → Own K G' H' v o F → (∀ a, F a → H a = none ∧ H' a ≠ none ∧ G' a = none) → Q v H') → r x H Q
def Op2 (r : R2) (op : D → D → Option OV) : Prop := ∀ G H x y d e o, Ex G H → Rep K G x d → Rep K G y e → op d e = some o → ∀ Q : VK,
  (∀ v G' H' F, Alloc G H G' H' → Own K G' H' v o F → (∀ a, F a → H a = none ∧ H' a ≠ none ∧ G' a = none) → Q v H') → r x y H Q
def OpN (r : List V → Hp → VK → Prop) (op : List D → Option OV) : Prop := ∀ G H xs ds o, Ex G H → RepAll K G xs ds → op ds = some o → ∀ Q : VK,
  (∀ v G' H' F, Alloc G H G' H' → Own K G' H' v o F → (∀ a, F a → H a = none ∧ H' a ≠ none ∧ G' a = none) → Q v H') → r xs H Q
end
/-- the value comes frozen, nothing is made -/
theorem op_fz {v : V} {d : D} {Q : VK} (h : Ex G H) (r : Rep K G v d) (k : ∀ v G' H' F, Alloc G H G' H' → Own K G' H' v (.fz d) F → (∀ a, F a → H a = none ∧ H' a ≠ none ∧ G' a = none) → Q v H') : Q v H :=
  k v G H (fun _ => False) (.refl h) (.fz r) fun _ q => q.elim
/-- a new tuple -/
theorem op_tup {xs : List V} {ds : List D} {Q : VK} (h : Ex G H) (r : RepAll K G xs ds) (k : ∀ v G' H' F, Alloc G H G' H' → Own K G' H' v (.fz (.tup ds)) F → (∀ a, F a → H a = none ∧ H' a ≠ none ∧ G' a = none) → Q v H') :
    ∀ p, H p = none → Q (.ref p) (upd H p (.tup xs)) := fun p hp =>
  k (.ref p) (upd G p (.tup xs)) _ (fun _ => False) (.newG h hp) (.fz (.tup (.inl (.inl upd_same)) (r.mono (Ex.new (h.none hp))))) fun _ q => q.elim
theorem own_lst {xs : List V} {ds : List D} {p : Addr} (hp : H p = some (.lst xs)) (r : RepAll K G xs ds) : Own K G H (.ref p) (.ls (ds.map .fz)) (fun a => a = p) :=
  .ls (fun _ _ => False) hp rfl (by rw [List.length_map]; exact r.length) (fun i v o a b => by
    rw [List.getElem?_map] at b
    cases q : ds[i]? with
    | none => rw [q] at b; cases b
    | some d =>
      rw [q] at b
      cases b
      obtain ⟨v', e, w⟩ := r.get q
      rw [a] at e
      cases e
      exact .fz w) (fun _ _ q => q.elim) (fun _ _ _ q _ => q.elim)
/-- a new list -/
theorem op_lst {xs : List V} {ds : List D} {Q : VK} (h : Ex G H) (r : RepAll K G xs ds) (k : ∀ v G' H' F, Alloc G H G' H' → Own K G' H' v (.ls (ds.map .fz)) F → (∀ a, F a → H a = none ∧ H' a ≠ none ∧ G' a = none) → Q v H') :
    ∀ p, H p = none → Q (.ref p) (upd H p (.lst xs)) := fun p hp =>
  k (.ref p) G _ (fun a => a = p) (.newH h hp) (own_lst upd_same r) fun a q => by
    rw [q]; exact ⟨hp, by rw [upd_same]; simp, h.none hp⟩
end

section
variable {X : Cx} {cm : Str → Addr} {W : WX} {a b c e : Expr} {ta tb tc te : TE} {fa fb fc : FE} {fo : FO} {pos : Pos}
/-! ### how readings go on -/
theorem de_bind {K : PySem.W.Frag} {P : List Nat} {t : TE} {f : FE} (h : DE K cm W t f) {G H : Hp} {σ : L2.St} {ρ : Envr} {fps : Nat → Addr → Prop} (ok : Ok K G H σ ρ fps) {β : Type} {k : D → Envr → Option (R β)} {r : R β} (e : rb (f ρ) k = some r) {Q : VK}
    (q : ∀ d ρ1, k d ρ1 = some r → ∀ v G1 H1 fps1, Post K P G H σ fps G1 H1 σ ρ1 fps1 → Rep K G1 v d → Q v H1)
    (x : ∀ k f d ρ', r = .ex k f d ρ' → WEx K cm W [] G H σ fps k f d ρ' σ) : t σ H Q := by
  cases hf : f ρ with
  | none => rw [hf] at e; cases e
  | some r1 =>
    rw [hf] at e
    cases r1 with
    | ok d ρ1 => exact h G H σ ρ fps ok _ hf Q fun v G' H' fps' p r' => q d ρ1 e v G' H' fps' p.any r'
    | ex k f d ρ1 =>
      cases e
      exact h G H σ ρ fps ok _ hf Q (x _ _ _ _ rfl)
theorem do_bind {K : PySem.W.Frag} {P : List Nat} {t : TE} {f : FO} (h : DO K cm W t f) {G H : Hp} {σ : L2.St} {ρ : Envr} {fps : Nat → Addr → Prop} (ok : Ok K G H σ ρ fps) {β : Type} {k : OV → Envr → Option (R β)} {r : R β} (e : rb (f ρ) k = some r) {Q : VK}
    (q : ∀ o ρ1, k o ρ1 = some r → ∀ v G1 H1 fps1 F, Post K P G H σ fps G1 H1 σ ρ1 fps1 → Got K G1 H1 fps1 v o F → (∀ a, F a → Tot fps a ∨ H a = none) → Q v H1)
    (x : ∀ k f d ρ', r = .ex k f d ρ' → WEx K cm W [] G H σ fps k f d ρ' σ) : t σ H Q := by
  cases hf : f ρ with
  | none => rw [hf] at e; cases e
  | some r1 =>
    rw [hf] at e
    cases r1 with
    | ok d ρ1 => exact h G H σ ρ fps ok _ hf Q fun v G' H' fps' F p r' s => q d ρ1 e v G' H' fps' F p.any r' s
    | ex k f d ρ1 =>
      cases e
      exact h G H σ ρ fps ok _ hf Q (x _ _ _ _ rfl)
theorem dt_bind {K : PySem.W.Frag} {P : List Nat} {t : TT} {f : FT} (h : DT K cm W t f) {G H : Hp} {σ : L2.St} {ρ : Envr} {fps : Nat → Addr → Prop} (ok : Ok K G H σ ρ fps) {β : Type} {k : Bool → Envr → Option (R β)} {r : R β} (e : rb (f ρ) k = some r) {Q : Bool → Hp → Prop}
    (q : ∀ d ρ1, k d ρ1 = some r → ∀ G1 H1 fps1, Post K P G H σ fps G1 H1 σ ρ1 fps1 → Q d H1)
    (x : ∀ k f d ρ', r = .ex k f d ρ' → WEx K cm W [] G H σ fps k f d ρ' σ) : t σ H Q := by
  cases hf : f ρ with
  | none => rw [hf] at e; cases e
  | some r1 =>
    rw [hf] at e
    cases r1 with
    | ok d ρ1 => exact h G H σ ρ fps ok _ hf Q fun G' H' fps' p => q d ρ1 e G' H' fps' p.any
    | ex k f d ρ1 =>
      cases e
      exact h G H σ ρ fps ok _ hf Q (x _ _ _ _ rfl)
theorem da_bind {K : PySem.W.Frag} {P : List Nat} {t : TA} {f : FA} (h : DA K cm W t f) {G H : Hp} {σ : L2.St} {ρ : Envr} {fps : Nat → Addr → Prop} (ok : Ok K G H σ ρ fps) {β : Type} {k : List D → Envr → Option (R β)} {r : R β} (e : rb (f ρ) k = some r) {Q : List V → Hp → Prop}
    (q : ∀ d ρ1, k d ρ1 = some r → ∀ v G1 H1 fps1, Post K P G H σ fps G1 H1 σ ρ1 fps1 → RepAll K G1 v d → Q v H1)
    (x : ∀ k f d ρ', r = .ex k f d ρ' → WEx K cm W [] G H σ fps k f d ρ' σ) : t σ H Q := by
  cases hf : f ρ with
  | none => rw [hf] at e; cases e
  | some r1 =>
    rw [hf] at e
    cases r1 with
    | ok d ρ1 => exact h G H σ ρ fps ok _ hf Q fun v G' H' fps' p r' => q d ρ1 e v G' H' fps' p.any r'
    | ex k f d ρ1 =>
      cases e
      exact h G H σ ρ fps ok _ hf Q (x _ _ _ _ rfl)
/-- an Alloc behind: the value with its objects -/
theorem Alloc.got {K : PySem.W.Frag} {P : List Nat} {G H G' H' : Hp} {σ : L2.St} {ρ : Envr} {fps : Nat → Addr → Prop} {v : V} {o : OV} {F : Addr → Prop} (ok : Ok K G H σ ρ fps) (a : Alloc G H G' H') (w : Own K G' H' v o F) (n : ∀ a, F a → H a = none ∧ H' a ≠ none ∧ G' a = none) :
    Post K P G H σ fps G' H' σ ρ fps ∧ Got K G' H' fps v o F :=
  ⟨a.post ok, ⟨w, fun i x f q => (ok.fr i x f).1 (n x q).1, fun x q => (n x q).2⟩⟩
theorem fresh_back {K : PySem.W.Frag} {P : List Nat} {G H G1 H1 : Hp} {σ σ1 : L2.St} {ρ1 : Envr} {fps fps1 : Nat → Addr → Prop} (p : Post K P G H σ fps G1 H1 σ1 ρ1 fps1) {a : Addr} (h : H1 a = none) : Tot fps a ∨ H a = none := by
  by_cases t : Tot fps a
  · exact .inl t
  · refine .inr ?_
    cases q : H a with
    | none => rfl
    | some o => rw [p.frm.h a o q t] at h; cases h
theorem sub_back {K : PySem.W.Frag} {P : List Nat} {G H G1 H1 : Hp} {σ σ1 : L2.St} {ρ1 : Envr} {fps fps1 : Nat → Addr → Prop} (p : Post K P G H σ fps G1 H1 σ1 ρ1 fps1) {a : Addr} (h : Tot fps1 a ∨ H1 a = none) : Tot fps a ∨ H a = none :=
  h.elim (p.sub a) (fresh_back p)

/-! ### names, constants -/
theorem de_C {K : PySem.W.Frag} {v : V} {d : D} (r : ∀ G, Rep K G v d) : DE K cm W (tC v) (fC d) := by
  intro G H σ ρ fps ok r' e Q q
  cases e
  exact q v G H fps (.refl ok) (r G)
theorem de_V {K : PySem.W.Frag} (i : Nat) : DE K cm W (tVar i) (fV i) := by
  intro G H σ ρ fps ok r e Q q
  unfold fV at e
  cases h : ρ[i]? with
  | none => rw [h] at e; cases e
  | some x =>
    cases x with
    | none => rw [h] at e; cases e
    | some o =>
      obtain ⟨v, hv, w⟩ := ok.own i o h
      cases o with
      | fz d =>
        rw [h] at e
        cases e
        cases w with
        | fz r => exact ⟨v, hv, q v G H fps (.refl ok) r⟩
      | ls xs =>
        rw [h] at e
        cases e
        obtain ⟨G', fps', p, r⟩ := ok.thaw h hv
        exact ⟨v, hv, q v G' H fps' p r⟩
      | dk xs =>
        rw [h] at e
        cases e
        obtain ⟨G', fps', p, r⟩ := ok.thaw h hv
        exact ⟨v, hv, q v G' H fps' p r⟩
theorem dx_V (i : Nat) {x : Str} {pos : Pos} (hN : X.N[i]? = some x := by rfl) (hv : Vis X.env.scope x := by first | exact Or.inl rfl | exact Or.inr (Or.inl rfl) | exact Or.inr (Or.inr rfl)) (hd : (x == ("__debug__" : Str)) = false := by decide)
    (hcd : (x == ("__classdict__" : Str)) = false := by decide) : Dx X cm W (.Name x pos) (tVar i) (fV i) := ⟨pe_var hN hv hd hcd, de_V i⟩
theorem dx_int {i : Int} {j} : Dx X cm W (.Constant (.int i) j pos) (tC (.int i)) (fC (.int i)) := ⟨pe_int, de_C fun _ => .int i⟩
theorem dx_bl {i : Bool} {j} : Dx X cm W (.Constant (.bool i) j pos) (tC (.bl i)) (fC (.bl i)) := ⟨pe_bl, de_C fun _ => .bl i⟩
theorem dx_non {j} : Dx X cm W (.Constant .none j pos) (tC .non) (fC .non) := ⟨pe_non, de_C fun _ => .non⟩
theorem dx_str {s : Str} {j} : Dx X cm W (.Constant (.str s) j pos) (tC (.str s)) (fC (.str s)) := ⟨pe_str, de_C fun _ => .str s⟩

/-! ### own and frozen -/
theorem de_E {K : PySem.W.Frag} {t : TE} {f : FO} (h : DO K cm W t f) : DE K cm W t (fE f) := by
  intro G H σ ρ fps ok r e Q q
  refine do_bind (P := []) h ok e (fun o ρ1 e1 v G1 H1 fps1 F p g s => ?_) fun k f d ρ' e1 => by rw [e1] at q; exact q
  cases e1
  obtain ⟨ok2, r2, ex2, out2⟩ := p.ok.let_ g
  refine q v (froz G1 H1 F) H1 fps1 ⟨ok2, ⟨p.frm.h, fun a n t => ?_, p.frm.ex.trans ex2⟩, p.sub, fun _ _ => rfl⟩ r2
  rw [out2 a fun f => (s a f).elim t n]
  exact p.frm.g a n t
theorem do_O {K : PySem.W.Frag} {t : TE} {f : FE} (h : DE K cm W t f) : DO K cm W t (fO f) := by
  intro G H σ ρ fps ok r e Q q
  refine de_bind (P := []) h ok e (fun d ρ1 e1 v G1 H1 fps1 p g => ?_) fun k f d ρ' e1 => by rw [e1] at q; exact q
  cases e1
  exact q v G1 H1 fps1 _ p (.fz g) fun _ f => f.elim
theorem dx_E {f : FO} (h : Ox X cm W e te f) : Dx X cm W e te (fE f) := ⟨h.pe, de_E h.de⟩
theorem ox_O {f : FE} (h : Dx X cm W e te f) : Ox X cm W e te (fO f) := ⟨h.pe, do_O h.de⟩

/-! ### operations on values -/
theorem do_1 {K : PySem.W.Frag} {t : TE} {f : FE} {r1 : V → Hp → VK → Prop} {op : D → Option OV} (h : DE K cm W t f) (ho : Op1 K r1 op) : DO K cm W (tUn r1 t) (f1 op f) := by
  intro G H σ ρ fps ok r e Q q
  refine de_bind (P := []) h ok e (fun d ρ1 e1 v G1 H1 fps1 p g => ?_) fun k f d ρ' e1 => by rw [e1] at q; exact q
  cases ho' : op d with
  | none => rw [ho'] at e1; cases e1
  | some o =>
    rw [ho'] at e1
    cases e1
    refine ho G1 H1 v d o p.ok.ex g ho' Q fun u G2 H2 F al w n => ?_
    obtain ⟨p2, g2⟩ := al.got (P := []) p.ok w n
    exact q u G2 H2 fps1 F (p.trans p2) g2 fun a f => fresh_back p (n a f).1
theorem do_2 {K : PySem.W.Frag} {ta tb : TE} {f g : FE} {r2 : R2} {op : D → D → Option OV} (h : DE K cm W ta f) (h' : DE K cm W tb g) (ho : Op2 K r2 op) : DO K cm W (tOp r2 ta tb) (f2 op f g) := by
  intro G H σ ρ fps ok r e Q q
  refine de_bind (P := []) h ok e (fun d ρ1 e1 v G1 H1 fps1 p g1 => ?_) fun k f d ρ' e1 => by rw [e1] at q; exact q
  refine de_bind (P := []) h' p.ok e1 (fun d' ρ2 e2 v' G2 H2 fps2 p' g2 => ?_) fun k f d ρ' e1 => by rw [e1] at q; exact q.back p
  cases ho' : op d d' with
  | none => rw [ho'] at e2; cases e2
  | some o =>
    rw [ho'] at e2
    cases e2
    refine ho G2 H2 v v' d d' o p'.ok.ex (g1.mono p'.frm.ex) g2 ho' Q fun u G3 H3 F al w n => ?_
    obtain ⟨p3, g3⟩ := al.got (P := []) p'.ok w n
    exact q u G3 H3 fps2 F ((p.trans p').trans p3) g3 fun a f => fresh_back (p.trans p') (n a f).1
theorem do_N {K : PySem.W.Frag} {t : TA} {f : FA} {rN : List V → Hp → VK → Prop} {op : List D → Option OV} (h : DA K cm W t f) (ho : OpN K rN op) : DO K cm W (tCB rN t) (fN op f) := by
  intro G H σ ρ fps ok r e Q q
  refine da_bind (P := []) h ok e (fun d ρ1 e1 v G1 H1 fps1 p g => ?_) fun k f d ρ' e1 => by rw [e1] at q; exact q
  cases ho' : op d with
  | none => rw [ho'] at e1; cases e1
  | some o =>
    rw [ho'] at e1
    cases e1
    refine ho G1 H1 v d o p.ok.ex g ho' Q fun u G2 H2 F al w n => ?_
    obtain ⟨p2, g2⟩ := al.got (P := []) p.ok w n
    exact q u G2 H2 fps1 F (p.trans p2) g2 fun a f => fresh_back p (n a f).1
theorem da_nil {K : PySem.W.Frag} : DA K cm W tNil fNil := by
  intro G H σ ρ fps ok r e Q q
  cases e
  exact q [] G H fps (.refl ok) .nil
theorem da_cons {K : PySem.W.Frag} {t : TE} {u : TA} {f : FE} {g : FA} (h : DE K cm W t f) (h' : DA K cm W u g) : DA K cm W (tCons t u) (fCons f g) := by
  intro G H σ ρ fps ok r e Q q
  refine de_bind (P := []) h ok e (fun d ρ1 e1 v G1 H1 fps1 p g1 => ?_) fun k f d ρ' e1 => by rw [e1] at q; exact q
  refine da_bind (P := []) h' p.ok e1 (fun ds ρ2 e2 vs G2 H2 fps2 p' g2 => ?_) fun k f d ρ' e1 => by rw [e1] at q; exact q.back p
  cases e2
  exact q (v :: vs) G2 H2 fps2 (p.trans p') (.cons (g1.mono p'.frm.ex) g2)
theorem sizeLine_big {n : Nat} (h : n ≤ 100000) : n ≤ sizeLine := Nat.le_trans h (by decide)
theorem de_tup {K : PySem.W.Frag} {t : TA} {f : FA} (h : DA K cm W t f) : DE K cm W (tTup t) (fTup f) := by
  intro G H σ ρ fps ok r e Q q
  refine da_bind (P := []) h ok e (fun d ρ1 e1 v G1 H1 fps1 p g => ?_) fun k f d ρ' e1 => by rw [e1] at q; exact q
  by_cases hl : d.length ≤ 100000
  · simp only [if_pos hl] at e1
    cases e1
    refine ⟨by rw [g.length]; exact sizeLine_big hl, op_tup p.ok.ex g fun u G2 H2 F al w n => ?_⟩
    cases w with
    | fz r => exact q u G2 H2 fps1 (p.trans (al.post p.ok)) r
  · simp only [if_neg hl] at e1
    cases e1
theorem do_lst {K : PySem.W.Frag} {t : TA} {f : FA} (h : DA K cm W t f) : DO K cm W (tLst t) (fLst f) := by
  intro G H σ ρ fps ok r e Q q
  refine da_bind (P := []) h ok e (fun d ρ1 e1 v G1 H1 fps1 p g => ?_) fun k f d ρ' e1 => by rw [e1] at q; exact q
  by_cases hl : d.length ≤ 100000
  · simp only [if_pos hl] at e1
    cases e1
    refine ⟨by rw [g.length]; exact sizeLine_big hl, op_lst p.ok.ex g fun u G2 H2 F al w n => ?_⟩
    obtain ⟨p2, g2⟩ := al.got (P := []) p.ok w n
    exact q u G2 H2 fps1 F (p.trans p2) g2 fun a f => fresh_back p (n a f).1
  · simp only [if_neg hl] at e1
    cases e1
theorem ax_nil : Ax X cm W [] tNil fNil := ⟨pa_nil, da_nil⟩
theorem ax_cons {es : List Expr} {tr : TA} {fr : FA} (h : Dx X cm W e te fa) (h' : Ax X cm W es tr fr) (hs : starEach (e :: es) X.env = (false, eval e X.env) :: starEach es X.env := by rfl) : Ax X cm W (e :: es) (tCons te tr) (fCons fa fr) := ⟨pa_cons h.pe h'.pe hs, da_cons h.de h'.de⟩
theorem dx_tup {es : List Expr} {tr : TA} {fr : FA} {x1} (h : Ax X cm W es tr fr) : Dx X cm W (.Tuple es x1 pos) (tTup tr) (fTup fr) := ⟨pe_tup h.pe, de_tup h.de⟩
theorem ox_lst {es : List Expr} {tr : TA} {fr : FA} (h : Ax X cm W es tr fr) : Ox X cm W (.List es pos) (tLst tr) (fLst fr) := ⟨pe_lst h.pe, do_lst h.de⟩

/-! ### tests -/
theorem dt_B {K : PySem.W.Frag} {t : TE} {f : FE} (h : DE K cm W t f) : DT K cm W (tB t) (fTest f) := by
  intro G H σ ρ fps ok r e Q q
  refine de_bind (P := []) h ok e (fun d ρ1 e1 v G1 H1 fps1 p g => ?_) fun k f d ρ' e1 => by rw [e1] at q; exact q
  cases g with
  | bl b =>
    cases e1
    exact ⟨b, rfl, q G1 H1 fps1 p⟩
  | _ => cases e1
theorem dt_Test {K : PySem.W.Frag} {t : TE} {f : FE} (h : DE K cm W t f) : DT K cm W (tTest t) (fTest f) := by
  intro G H σ ρ fps ok r e Q q
  refine de_bind (P := []) h ok e (fun d ρ1 e1 v G1 H1 fps1 p g => ?_) fun k f d ρ' e1 => by rw [e1] at q; exact q
  cases g with
  | bl b =>
    cases e1
    exact ⟨b, rfl, q G1 H1 fps1 p⟩
  | _ => cases e1
theorem dt_and {K : PySem.W.Frag} {t u : TT} {f g : FT} (h : DT K cm W t f) (h' : DT K cm W u g) : DT K cm W (tAnd t u) (fAnd f g) := by
  intro G H σ ρ fps ok r e Q q
  refine dt_bind (P := []) h ok e (fun b ρ1 e1 G1 H1 fps1 p => ?_) fun k f d ρ' e1 => by rw [e1] at q; exact q
  cases b with
  | true =>
    refine iteT (h' G1 H1 σ ρ1 fps1 p.ok r e1 Q ?_)
    cases r with
    | ok b ρ' => exact fun G' H' fps' p' => q G' H' fps' (p.trans p')
    | ex k f d ρ' => exact WEx.back q p
  | false =>
    cases e1
    exact iteF (q G1 H1 fps1 p)
theorem dt_or {K : PySem.W.Frag} {t u : TT} {f g : FT} (h : DT K cm W t f) (h' : DT K cm W u g) : DT K cm W (tOr t u) (fOr f g) := by
  intro G H σ ρ fps ok r e Q q
  refine dt_bind (P := []) h ok e (fun b ρ1 e1 G1 H1 fps1 p => ?_) fun k f d ρ' e1 => by rw [e1] at q; exact q
  cases b with
  | false =>
    refine iteF (h' G1 H1 σ ρ1 fps1 p.ok r e1 Q ?_)
    cases r with
    | ok b ρ' => exact fun G' H' fps' p' => q G' H' fps' (p.trans p')
    | ex k f d ρ' => exact WEx.back q p
  | true =>
    cases e1
    exact iteT (q G1 H1 fps1 p)
theorem dt_not {K : PySem.W.Frag} {t : TT} {f : FT} (h : DT K cm W t f) : DT K cm W (tNot t) (fNot f) := by
  intro G H σ ρ fps ok r e Q q
  refine dt_bind (P := []) h ok e (fun b ρ1 e1 G1 H1 fps1 p => ?_) fun k f d ρ' e1 => by rw [e1] at q; exact q
  cases e1
  exact q G1 H1 fps1 p
theorem de_if {K : PySem.W.Frag} {c : TT} {t u : TE} {fc : FT} {f g : FE} (hc : DT K cm W c fc) (h : DE K cm W t f) (h' : DE K cm W u g) : DE K cm W (tIf c t u) (fIf fc f g) := by
  intro G H σ ρ fps ok r e Q q
  refine dt_bind (P := []) hc ok e (fun b ρ1 e1 G1 H1 fps1 p => ?_) fun k f d ρ' e1 => by rw [e1] at q; exact q
  cases b with
  | true =>
    refine iteT (h G1 H1 σ ρ1 fps1 p.ok r e1 Q ?_)
    cases r with
    | ok b ρ' => exact fun v G' H' fps' p' => q v G' H' fps' (p.trans p')
    | ex k f d ρ' => exact WEx.back q p
  | false =>
    refine iteF (h' G1 H1 σ ρ1 fps1 p.ok r e1 Q ?_)
    cases r with
    | ok b ρ' => exact fun v G' H' fps' p' => q v G' H' fps' (p.trans p')
    | ex k f d ρ' => exact WEx.back q p
theorem do_if {K : PySem.W.Frag} {c : TT} {t u : TE} {fc : FT} {f g : FO} (hc : DT K cm W c fc) (h : DO K cm W t f) (h' : DO K cm W u g) : DO K cm W (tIf c t u) (fIf fc f g) := by
  intro G H σ ρ fps ok r e Q q
  refine dt_bind (P := []) hc ok e (fun b ρ1 e1 G1 H1 fps1 p => ?_) fun k f d ρ' e1 => by rw [e1] at q; exact q
  cases b with
  | true =>
    refine iteT (h G1 H1 σ ρ1 fps1 p.ok r e1 Q ?_)
    cases r with
    | ok b ρ' => exact fun v G' H' fps' F p' g' s => q v G' H' fps' F (p.trans p') g' fun a fa => sub_back p (s a fa)
    | ex k f d ρ' => exact WEx.back q p
  | false =>
    refine iteF (h' G1 H1 σ ρ1 fps1 p.ok r e1 Q ?_)
    cases r with
    | ok b ρ' => exact fun v G' H' fps' F p' g' s => q v G' H' fps' F (p.trans p') g' fun a fa => sub_back p (s a fa)
    | ex k f d ρ' => exact WEx.back q p
theorem de_andV {K : PySem.W.Frag} {t u : TE} {f g : FE} (h : DE K cm W t f) (h' : DE K cm W u g) : DE K cm W (tAndV t u) (fIf (fTest f) g (fC (.bl false))) := by
  intro G H σ ρ fps ok r e Q q
  have e' : rb (f ρ) (β := D) (fun (d : D) (ρ1 : Envr) => match d with | .bl b => (if b = true then g ρ1 else some (.ok (D.bl false) ρ1)) | _ => none) = some r := by
    rw [← e]
    unfold fIf fTest
    cases hf : f ρ with
    | none => rfl
    | some r1 =>
      cases r1 with
      | ok d ρ1 => cases d <;> rfl
      | ex => rfl
  refine de_bind (P := []) h ok e' (fun d ρ1 e1 v G1 H1 fps1 p g1 => ?_) fun k f d ρ' e1 => by rw [e1] at q; exact q
  · cases g1 with
    | bl b =>
      refine ⟨b, rfl, ?_⟩
      cases b with
      | true =>
        refine iteT (h' G1 H1 σ ρ1 fps1 p.ok r e1 Q ?_)
        cases r with
        | ok b ρ' => exact fun v G' H' fps' p' => q v G' H' fps' (p.trans p')
        | ex k f d ρ' => exact WEx.back q p
      | false =>
        cases e1
        exact iteF (q _ G1 H1 fps1 p (.bl false))
    | _ => cases e1
theorem de_orV {K : PySem.W.Frag} {t u : TE} {f g : FE} (h : DE K cm W t f) (h' : DE K cm W u g) : DE K cm W (tOrV t u) (fIf (fTest f) (fC (.bl true)) g) := by
  intro G H σ ρ fps ok r e Q q
  have e' : rb (f ρ) (β := D) (fun (d : D) (ρ1 : Envr) => match d with | .bl b => (if b = true then some (.ok (D.bl true) ρ1) else g ρ1) | _ => none) = some r := by
    rw [← e]
    unfold fIf fTest
    cases hf : f ρ with
    | none => rfl
    | some r1 =>
      cases r1 with
      | ok d ρ1 => cases d <;> rfl
      | ex => rfl
  refine de_bind (P := []) h ok e' (fun d ρ1 e1 v G1 H1 fps1 p g1 => ?_) fun k f d ρ' e1 => by rw [e1] at q; exact q
  · cases g1 with
    | bl b =>
      refine ⟨b, rfl, ?_⟩
      cases b with
      | false =>
        refine iteF (h' G1 H1 σ ρ1 fps1 p.ok r e1 Q ?_)
        cases r with
        | ok b ρ' => exact fun v G' H' fps' p' => q v G' H' fps' (p.trans p')
        | ex k f d ρ' => exact WEx.back q p
      | true =>
        cases e1
        exact iteT (q _ G1 H1 fps1 p (.bl true))
    | _ => cases e1
theorem de_notV {K : PySem.W.Frag} {t : TE} {f : FE} (h : DE K cm W t f) : DE K cm W (tNotV t) (fBool (fNot (fTest f))) := by
  intro G H σ ρ fps ok r e Q q
  have e' : rb (f ρ) (β := D) (fun (d : D) (ρ1 : Envr) => match d with | .bl b => some (.ok (D.bl (!b)) ρ1) | _ => none) = some r := by
    rw [← e]
    unfold fBool fNot fTest
    cases hf : f ρ with
    | none => rfl
    | some r1 =>
      cases r1 with
      | ok d ρ1 => cases d <;> rfl
      | ex => rfl
  refine de_bind (P := []) h ok e' (fun d ρ1 e1 v G1 H1 fps1 p g1 => ?_) fun k f d ρ' e1 => by rw [e1] at q; exact q
  · cases g1 with
    | bl b =>
      cases e1
      exact ⟨b, rfl, q _ G1 H1 fps1 p (.bl _)⟩
    | _ => cases e1
theorem tx_val {f : FE} (h : Dx X cm W e te f) (he : ∀ whole, isTrue e X.env whole = (do let v ← whole; standAt e.pos; holding [v] (truthy v)) := by intro _; rfl) : Tx X cm W e (tB te) (fTest f) := ⟨pt_val h.pe he, dt_B h.de⟩
theorem tx_W {t : TT} {f : FT} (h : Wx X cm W e t f) : Tx X cm W e t f := ⟨h.pe.pt, h.de⟩
theorem wx_and1 {t : TT} {f : FT} (h : Tx X cm W a t f) : Wx X cm W (.BoolOp .And [a] pos) t f := ⟨pw_and1 h.pe, h.de⟩
theorem wx_or1 {t : TT} {f : FT} (h : Tx X cm W a t f) : Wx X cm W (.BoolOp .Or [a] pos) t f := ⟨pw_or1 h.pe, h.de⟩
theorem wx_and {t u : TT} {f g : FT} {rest : List Expr} (h : Tx X cm W a t f) (h' : Wx X cm W (.BoolOp .And (b :: rest) pos) u g) : Wx X cm W (.BoolOp .And (a :: b :: rest) pos) (tAnd t u) (fAnd f g) := ⟨pw_and h.pe h'.pe, dt_and h.de h'.de⟩
theorem wx_or {t u : TT} {f g : FT} {rest : List Expr} (h : Tx X cm W a t f) (h' : Wx X cm W (.BoolOp .Or (b :: rest) pos) u g) : Wx X cm W (.BoolOp .Or (a :: b :: rest) pos) (tOr t u) (fOr f g) := ⟨pw_or h.pe h'.pe, dt_or h.de h'.de⟩
theorem tx_not {t : TT} {f : FT} (h : Tx X cm W a t f) : Tx X cm W (.UnaryOp .Not a pos) (tNot t) (fNot f) := ⟨pt_not h.pe, dt_not h.de⟩
theorem dx_if {t : TT} {f : FT} {g h : FE} (hc : Tx X cm W c t f) (ha : Dx X cm W a ta g) (hb : Dx X cm W b tb h) : Dx X cm W (.IfExp c a b pos) (tIf t ta tb) (fIf f g h) := ⟨pe_ifExp hc.pe ha.pe hb.pe, de_if hc.de ha.de hb.de⟩
theorem ox_if {t : TT} {f : FT} {g h : FO} (hc : Tx X cm W c t f) (ha : Ox X cm W a ta g) (hb : Ox X cm W b tb h) : Ox X cm W (.IfExp c a b pos) (tIf t ta tb) (fIf f g h) := ⟨pe_ifExp hc.pe ha.pe hb.pe, do_if hc.de ha.de hb.de⟩
theorem dx_one {o} (h : Dx X cm W a ta fa) : Dx X cm W (.BoolOp o [a] pos) ta fa := ⟨pe_one h.pe, h.de⟩
theorem dx_and {rest : List Expr} (h : Dx X cm W a ta fa) (h' : Dx X cm W (.BoolOp .And (b :: rest) pos) tb fb) : Dx X cm W (.BoolOp .And (a :: b :: rest) pos) (tAndV ta tb) (fIf (fTest fa) fb (fC (.bl false))) := ⟨pe_and h.pe h'.pe, de_andV h.de h'.de⟩
theorem dx_or {rest : List Expr} (h : Dx X cm W a ta fa) (h' : Dx X cm W (.BoolOp .Or (b :: rest) pos) tb fb) : Dx X cm W (.BoolOp .Or (a :: b :: rest) pos) (tOrV ta tb) (fIf (fTest fa) (fC (.bl true)) fb) := ⟨pe_or h.pe h'.pe, de_orV h.de h'.de⟩
theorem dx_not (h : Dx X cm W a ta fa) : Dx X cm W (.UnaryOp .Not a pos) (tNotV ta) (fBool (fNot (fTest fa))) := ⟨pe_not h.pe, de_notV h.de⟩
end
end LD

end
section
set_option Elab.async false
set_option linter.all false
set_option maxRecDepth 100000
set_option maxHeartbeats 4000000
namespace LD
open PySem PySem.Spec PyProof.Rows L2

/-! ### as the library's data -/
mutual
def toPy : D → PyData
  | .non => .none
  | .bl b => .bool b
  | .int i => .int i
  | .str s => .str s
  | .tup ds => .tuple (toPys ds)
  | .lst ds => .list (toPys ds)
  | .dk _ => .none
  | .scr _ => .none
  | .exc .. => .none
  | .opq _ => .none
def toPys : List D → List PyData
  | [] => []
  | d :: ds => toPy d :: toPys ds
end
mutual
def isData : D → Bool
  | .non => true
  | .bl _ => true
  | .int _ => true
  | .str _ => true
  | .tup ds => isDatas ds
  | .lst ds => isDatas ds
  | .dk _ => false
  | .scr _ => false
  | .exc .. => false
  | .opq _ => false
def isDatas : List D → Bool
  | [] => true
  | d :: ds => isData d && isDatas ds
end
section
variable {K : PySem.W.Frag} {G H : Hp}
mutual
theorem Rep.dp (e : Ex G H) : ∀ {d : D} {v : V}, Rep K G v d → isData d = true → Dp K H v (toPy d)
  | .non, _, h, _ => by cases h; exact .non
  | .bl b, _, h, _ => by cases h; exact .bl b
  | .int b, _, h, _ => by cases h; exact .int b
  | .str b, _, h, _ => by cases h; exact .str b
  | .tup ds, _, h, p => by
    cases h with
    | tup h1 h2 => exact .tup (sqt_ex e h1) (RepAll.dp e h2 p)
  | .lst ds, _, h, p => by
    cases h with
    | lst h1 h2 => exact .lst (Or.inl (Or.inl (e _ _ h1))) (RepAll.dp e h2 p)
  | .dk ds, _, _, p => by cases p
  | .scr ds, _, _, p => by cases p
  | .exc .., _, _, p => by cases p
  | .opq v, _, _, p => by cases p
theorem RepAll.dp (e : Ex G H) : ∀ {ds : List D} {vs : List V}, RepAll K G vs ds → isDatas ds = true → DpAll K H vs (toPys ds)
  | [], _, h, _ => by cases h; exact .nil
  | d :: ds, _, h, p => by
    cases h with
    | cons h1 h2 =>
      have p' : (isData d && isDatas ds) = true := p
      rw [Bool.and_eq_true] at p'
      exact .cons (Rep.dp e h1 p'.1) (RepAll.dp e h2 p'.2)
end
end
/-- data of which == and repr can be asked -/
def plain (d : D) : Bool := isData d && SeqAt.shaped (toPy d)
theorem plain_i {i : Int} : plain (.int i) = true := by simp [plain, isData, toPy, SeqAt.shaped, PyData.canLay0, PyData.depth]
theorem plain_b {i : Bool} : plain (.bl i) = true := by simp [plain, isData, toPy, SeqAt.shaped, PyData.canLay0, PyData.depth]
theorem plain_n : plain .non = true := by simp [plain, isData, toPy, SeqAt.shaped, PyData.canLay0, PyData.depth]

/-! ### operations on data -/
def eqD (d e : D) : Option OV := if plain d = true ∧ plain e = true then some (.fz (.bl (PyData.eqv (toPy d) (toPy e)))) else none
def neD (d e : D) : Option OV := if plain d = true ∧ plain e = true then some (.fz (.bl (!PyData.eqv (toPy d) (toPy e)))) else none
def cmpD (p : Int → Int → Bool) : D → D → Option OV
  | .int i, .int j => some (.fz (.bl (p i j)))
  | _, _ => none
def intD (p : Int → Int → Option Int) : D → D → Option OV
  | .int i, .int j => (p i j).map fun k => .fz (.int k)
  | _, _ => none
def addD : D → D → Option OV
  | .int i, .int j => some (.fz (.int (i + j)))
  | .str i, .str j => if i.length + j.length ≤ sizeLine then some (.fz (.str (i ++ j))) else none
  | .tup xs, .tup ys => if xs.length + ys.length ≤ sizeLine then some (.fz (.tup (xs ++ ys))) else none
  | .lst xs, .lst ys => if xs.length + ys.length ≤ sizeLine then some (.ls ((xs ++ ys).map .fz)) else none
  | _, _ => none
def subD : D → D → Option OV := intD fun i j => some (i - j)
def rep {α : Type} (n : Int) (xs : List α) : List α := (List.replicate n.toNat xs).flatten
def repStr (k : Int) (s : Str) : Str := if k < 1 then Str.empty else if (k == 1 || s.length == 0) = true then s else ⟨(List.replicate k.toNat s.cps).foldl (· ++ ·) #[]⟩
def mulD : D → D → Option OV
  | .int i, .int j => if i.natAbs.log2 + j.natAbs.log2 < 1000000 then some (.fz (.int (i * j))) else none
  | .lst xs, .int k => if -(2 ^ 63) ≤ k ∧ k < 2 ^ 63 ∧ xs.length * k.toNat ≤ sizeLine then some (.ls ((rep k xs).map .fz)) else none
  | .tup xs, .int k => if xs ≠ [] ∧ 2 ≤ k ∧ k ≤ 1000 ∧ xs.length ≤ 1000 then some (.fz (.tup (rep k xs))) else none
  | .str s, .int k => if -1000 ≤ k ∧ k ≤ 1000 ∧ s.length ≤ 1000 ∧ (repStr k s).length ≤ sizeLine then some (.fz (.str (repStr k s))) else none
  | _, _ => none
def modD : D → D → Option OV := intD fun i j => if j ≠ 0 then some (i.fmod j) else none
def divD : D → D → Option OV := intD fun i j => if 0 < j ∧ j.natAbs.log2 < 9000 then some (i / j) else none
def powD : D → D → Option OV := intD fun i j => if 0 ≤ j ∧ (Builtin.Int.intBits i : Int) * j ≤ 2 ^ 27 then some (i ^ j.toNat) else none
def isND : D → D → Option OV
  | .non, .non => some (.fz (.bl true))
  | .int _, .non => some (.fz (.bl false))
  | .bl _, .non => some (.fz (.bl false))
  | .str _, .non => some (.fz (.bl false))
  | .tup _, .non => some (.fz (.bl false))
  | .lst _, .non => some (.fz (.bl false))
  | _, _ => none
def notND : D → D → Option OV
  | .non, .non => some (.fz (.bl false))
  | .int _, .non => some (.fz (.bl true))
  | .bl _, .non => some (.fz (.bl true))
  | .str _, .non => some (.fz (.bl true))
  | .tup _, .non => some (.fz (.bl true))
  | .lst _, .non => some (.fz (.bl true))
  | _, _ => none
def atD : D → D → Option OV
  | .tup xs, .int i => (atI xs i).map .fz
  | .lst xs, .int i => (atI xs i).map .fz
  | .str z, .int i => if z.length ≤ sizeLine then (atI z.cps.toList i).map fun c => .fz (.str ⟨#[c]⟩) else none
  | .scr xs, .int i => (atI xs i).map fun n => .fz (.int n)
  | _, _ => none
def cutL {α : Type} (xs : List α) (lo hi : Option Int) : List α := (xs.drop (HT.sIx xs.length 0 lo)).take (HT.sIx xs.length xs.length hi - HT.sIx xs.length 0 lo)
def cutD : D → Option Int → Option Int → Option OV
  | .tup xs, lo, hi => some (.fz (.tup (cutL xs lo hi)))
  | .lst xs, lo, hi => some (.ls ((cutL xs lo hi).map .fz))
  | .scr xs, lo, hi => some (.ls ((cutL xs lo hi).map fun n => .fz (.int n)))
  | .str z, lo, hi => if z.length ≤ sizeLine then some (.fz (.str (cutS z lo hi))) else none
  | _, _, _ => none
def lenD : D → Option OV
  | .tup xs => some (.fz (.int xs.length))
  | .lst xs => some (.fz (.int xs.length))
  | .scr xs => some (.fz (.int xs.length))
  | .str z => if z.length ≤ sizeLine then some (.fz (.int z.length)) else none
  | _ => none
inductive Ty where
  | non | bl | int | str | tup | lst
def Ty.nm : Ty → String
  | .non => "NoneType" | .bl => "bool" | .int => "int" | .str => "str" | .tup => "tuple" | .lst => "list"
def tyD : D → Option Ty
  | .non => some .non | .bl _ => some .bl | .int _ => some .int | .str _ => some .str | .tup _ => some .tup | .lst _ => some .lst | _ => none
def subT : Ty → Ty → Bool
  | .non, .non => true | .bl, .bl => true | .bl, .int => true | .int, .int => true | .str, .str => true | .tup, .tup => true | .lst, .lst => true | _, _ => false
theorem kit_T (a b : Ty) : kitB a.nm b.nm = some (subT a b) := by
  cases a <;> cases b <;> decide +kernel
def isiD (d : D) (T : Ty) : Option OV := (tyD d).map fun t => .fz (.bl (subT t T))
def reprD (d : D) : Option OV := if plain d = true ∧ (toPy d).showable = true ∧ (toPy d).shown.length ≤ sizeLine then some (.fz (.str (toPy d).shown)) else none
def intsD : List D → Option (List Int)
  | [] => some []
  | .int i :: ds => (intsD ds).map (i :: ·)
  | _ :: _ => none
def boolsD : List D → Option (List Bool)
  | [] => some []
  | .bl i :: ds => (boolsD ds).map (i :: ·)
  | _ :: _ => none
def maxL : Int → List Int → Int
  | m, [] => m
  | m, x :: xs => maxL (if x > m then x else m) xs
def minL : Int → List Int → Int
  | m, [] => m
  | m, x :: xs => minL (if x < m then x else m) xs

section
variable {X : Cx} {K : PySem.W.Frag} {G H : Hp}
theorem OpR.or {f : Value → Value → Sem Value} {r r' : R2} (h : OpR X f r) (h' : OpR X f r') : OpR X f (fun x y H Q => r x y H Q ∨ r' x y H Q) := by
  intro pins s σ H x y v u Q I rx ry q
  rcases q with q | q
  · exact h pins s σ H x y v u Q I rx ry q
  · exact h' pins s σ H x y v u Q I rx ry q
theorem Op2.l {r r' : R2} {op : D → D → Option OV} (h : Op2 K r op) : Op2 K (fun x y H Q => r x y H Q ∨ r' x y H Q) op := fun G H x y d e o a b c i Q k => .inl (h G H x y d e o a b c i Q k)
theorem Op2.r {r r' : R2} {op : D → D → Option OV} (h : Op2 K r' op) : Op2 K (fun x y H Q => r x y H Q ∨ r' x y H Q) op := fun G H x y d e o a b c i Q k => .inr (h G H x y d e o a b c i Q k)

theorem op2_eq : Op2 K (rEqD K) eqD := by
  intro G H x y d e o ex r1 r2 h Q k
  unfold eqD at h
  split at h
  · rename_i c
    cases h
    obtain ⟨c1, c2⟩ := c
    unfold plain at c1 c2
    rw [Bool.and_eq_true] at c1 c2
    exact ⟨_, _, r1.dp ex c1.1, r2.dp ex c2.1, c1.2, c2.2, op_fz ex (.bl _) k⟩
  · cases h
theorem op2_ne : Op2 K (rNeD K) neD := by
  intro G H x y d e o ex r1 r2 h Q k
  unfold neD at h
  split at h
  · rename_i c
    cases h
    obtain ⟨c1, c2⟩ := c
    unfold plain at c1 c2
    rw [Bool.and_eq_true] at c1 c2
    exact ⟨_, _, r1.dp ex c1.1, r2.dp ex c2.1, c1.2, c2.2, op_fz ex (.bl _) k⟩
  · cases h
theorem op2_cmp {p : Int → Int → Bool} : Op2 K (rI0 fun i j => .bl (p i j)) (cmpD p) := by
  intro G H x y d e o ex r1 r2 h Q k
  cases r1 <;> cases r2 <;> first | (cases h; done) | skip
  cases h
  exact ⟨_, _, rfl, rfl, op_fz ex (.bl _) k⟩
theorem op2_int {p : Int → Int → Option Int} {C : Int → Int → Prop} {g : Int → Int → Int} (hp : ∀ i j k, p i j = some k → C i j ∧ k = g i j) : Op2 K (rI C fun i j => .int (g i j)) (intD p) := by
  intro G H x y d e o ex r1 r2 h Q k
  cases r1 <;> cases r2 <;> first | (cases h; done) | skip
  rename_i i j
  have h : (p i j).map (fun k => OV.fz (D.int k)) = some o := h
  cases hq : p i j with
  | none => rw [hq] at h; cases h
  | some n =>
    rw [hq] at h
    cases h
    obtain ⟨c, rfl⟩ := hp i j n hq
    exact ⟨_, _, rfl, rfl, c, op_fz ex (.int _) k⟩
theorem op2_int0 {p : Int → Int → Option Int} {g : Int → Int → Int} (hp : ∀ i j k, p i j = some k → k = g i j) : Op2 K (rI0 fun i j => .int (g i j)) (intD p) := by
  intro G H x y d e o ex r1 r2 h Q k
  cases r1 <;> cases r2 <;> first | (cases h; done) | skip
  rename_i i j
  have h : (p i j).map (fun k => OV.fz (D.int k)) = some o := h
  cases hq : p i j with
  | none => rw [hq] at h; cases h
  | some n =>
    rw [hq] at h
    cases h
    obtain rfl := hp i j n hq
    exact ⟨_, _, rfl, rfl, op_fz ex (.int _) k⟩
theorem op2_sub : Op2 K (rI0 fun i j => .int (i - j)) subD := op2_int0 (g := fun i j => i - j) fun i j k h => by cases h; rfl
theorem op2_mod : Op2 K (rI (fun _ j => j ≠ 0) fun i j => .int (i.fmod j)) modD := op2_int (g := fun i j => i.fmod j) fun i j k h => by
  split at h
  · rename_i c; cases h; exact ⟨c, rfl⟩
  · cases h
theorem op2_div : Op2 K (rI CDivW fun i j => .int (i / j)) divD := op2_int (g := fun i j => i / j) fun i j k h => by
  split at h
  · rename_i c; cases h; exact ⟨c, rfl⟩
  · cases h
def CPowB (i j : Int) : Prop := 0 ≤ j ∧ (Builtin.Int.intBits i : Int) * j ≤ 2 ^ 27
theorem op_powB : OpR X (binaryOp .Pow) (rI CPowB fun i j => .int (i ^ j.toNat)) := opI fun _ _ _ _ _ _ _ hc q => pow_int hc.1 hc.2 q
theorem op2_pow : Op2 K (rI CPowB fun i j => .int (i ^ j.toNat)) powD := op2_int (g := fun i j => i ^ j.toNat) fun i j k h => by
  split at h
  · rename_i c; cases h; exact ⟨c, rfl⟩
  · cases h
/-- + of ints, texts, tuples, lists -/
def rAddU (K : PySem.W.Frag) : R2 := fun x y H Q => rI0 (fun i j => .int (i + j)) x y H Q ∨ (∃ i j, x = .str i ∧ y = .str j ∧ i.length + j.length ≤ sizeLine ∧ Q (.str (i ++ j)) H) ∨ rCatA K x y H Q ∨ rCat x y H Q
theorem op_addU : OpR X (binaryOp .Add) (rAddU X.K) := OpR.or op_add (OpR.or op_add_str (OpR.or op_catA op_cat))
theorem op2_add : Op2 K (rAddU K) addD := by
  intro G H x y d e o ex r1 r2 h Q k
  cases d <;> cases e <;> first | (cases h; done) | skip
  · cases r1; cases r2
    cases h
    exact .inl ⟨_, _, rfl, rfl, op_fz ex (.int _) k⟩
  · cases r1; cases r2
    simp only [addD] at h
    split at h
    · rename_i c
      cases h
      exact .inr (.inl ⟨_, _, rfl, rfl, c, op_fz ex (.str _) k⟩)
    · cases h
  · cases r1 with
    | @tup a xs ds h1 h2 =>
      cases r2 with
      | @tup b ys es h3 h4 =>
        simp only [addD] at h
        split at h
        · rename_i c
          cases h
          refine .inr (.inr (.inl ⟨a, b, xs, ys, rfl, rfl, sqt_ex ex h1, sqt_ex ex h3, by rw [h2.length, h4.length]; exact c, fun z => ?_, fun _ z => ?_, fun _ _ => op_tup ex (h2.append h4) k⟩))
          · subst z
            cases h2
            exact op_fz ex (.tup h3 h4) k
          · subst z
            cases h4
            rw [List.append_nil] at k
            exact op_fz ex (.tup h1 h2) k
        · cases h
  · cases r1 with
    | @lst a xs ds h1 h2 =>
      cases r2 with
      | @lst b ys es h3 h4 =>
        simp only [addD] at h
        split at h
        · rename_i c
          cases h
          exact .inr (.inr (.inr ⟨a, b, xs, ys, rfl, rfl, ex _ _ h1, ex _ _ h3, by rw [h2.length, h4.length]; exact c, op_lst ex (h2.append h4) k⟩))
        · cases h
/-- a text times an int -/
def rRepS : R2 := fun x y H Q => ∃ s k, x = .str s ∧ y = .int k ∧ -1000 ≤ k ∧ k ≤ 1000 ∧ s.length ≤ 1000 ∧ (repStr k s).length ≤ sizeLine ∧ Q (.str (repStr k s)) H
theorem op_repS : OpR X (binaryOp .Mult) rRepS := by
  intro pins s σ H x y v u Q I rx ry h
  obtain ⟨z, k, rfl, rfl, h1, h2, h3, h4, q⟩ := h
  obtain ⟨t, rfl⟩ := rx
  obtain ⟨t', rfl⟩ := ry
  have hprod : ∀ (_ : ¬ k < 1), (z.length : Int) * k ≤ 1000 * 1000 := fun hk => Int.mul_le_mul (by omega) h2 (by omega) (by omega)
  refine PySem.P.mul_str (by rw [decide_eq_false (by omega), decide_eq_false (by omega)]; rfl) (fun hk _ => ?_) (fun hk _ => ?_) ?_
  · have := Int.le_ediv_of_mul_le (a := (z.length : Int)) (b := 2 ^ 63 - 1) (c := k) (by omega) (Int.le_trans (hprod hk) (by decide))
    omega
  · have hp := hprod hk
    have e : ((z.length * k.toNat : Nat) : Int) = (z.length : Int) * k := by
      rw [Int.natCast_mul]
      congr 1
      omega
    unfold Builtin.Str.tooLong
    exact decide_eq_false (by rw [sizeLine_eq]; omega)
  · unfold repStr at h4 q
    split
    · rename_i c
      rw [if_pos c] at h4 q
      exact ⟨h4, ⟨.str _, H, I.tok _, ⟨_, rfl⟩, q⟩⟩
    · rename_i c
      rw [if_neg c] at h4 q
      split
      · rename_i c2
        rw [if_pos c2] at q
        exact ⟨.str _, H, I.tok _, ⟨_, rfl⟩, q⟩
      · rename_i c2
        rw [if_neg c2] at h4 q
        exact ⟨h4, ⟨.str _, H, I.tok _, ⟨_, rfl⟩, q⟩⟩
def rMulU (K : PySem.W.Frag) : R2 := fun x y H Q => rI CMulW (fun i j => .int (i * j)) x y H Q ∨ rRep x y H Q ∨ rRepT K x y H Q ∨ rRepS x y H Q
theorem op_mulU : OpR X (binaryOp .Mult) (rMulU X.K) := OpR.or op_mulW (OpR.or op_rep (OpR.or op_repT op_repS))
theorem RepAll.rep : ∀ (n : Nat) {xs : List V} {ds : List D}, RepAll K G xs ds → RepAll K G (List.replicate n xs).flatten (List.replicate n ds).flatten
  | 0, _, _, _ => .nil
  | n + 1, xs, ds, h => by
    rw [List.replicate_succ, List.replicate_succ, List.flatten_cons, List.flatten_cons]
    exact h.append (RepAll.rep n h)
theorem op2_mul : Op2 K (rMulU K) mulD := by
  intro G H x y d e o ex r1 r2 h Q k
  cases d <;> cases e <;> first | (cases h; done) | skip
  · cases r1; cases r2
    simp only [mulD] at h
    split at h
    · rename_i c
      cases h
      exact .inl ⟨_, _, rfl, rfl, c, op_fz ex (.int _) k⟩
    · cases h
  · cases r1; cases r2
    simp only [mulD] at h
    split at h
    · rename_i c
      cases h
      exact .inr (.inr (.inr ⟨_, _, rfl, rfl, c.1, c.2.1, c.2.2.1, c.2.2.2, op_fz ex (.str _) k⟩))
    · cases h
  · cases r1 with
    | @tup a xs ds h1 h2 =>
      cases r2
      simp only [mulD] at h
      split at h
      · rename_i c
        cases h
        exact .inr (.inr (.inl ⟨a, _, xs, rfl, rfl, sqt_ex ex h1, fun z => c.1 (by rw [z] at h2; cases h2; rfl), c.2.1, c.2.2.1, by rw [h2.length]; exact c.2.2.2, op_tup ex (h2.rep _) k⟩))
      · cases h
  · cases r1 with
    | @lst a xs ds h1 h2 =>
      cases r2
      simp only [mulD] at h
      split at h
      · rename_i c
        cases h
        exact .inr (.inl ⟨a, _, xs, rfl, rfl, ex _ _ h1, c.1, c.2.1, by rw [h2.length]; exact c.2.2, op_lst ex (h2.rep _) k⟩)
      · cases h
theorem op2_isN : Op2 K (fun x y H Q => y = .non ∧ Q (.bl (decide (x = .non))) H) isND := by
  intro G H x y d e o ex r1 r2 h Q k
  cases e <;> cases d <;> first | (cases h; done) | skip
  all_goals cases r2
  all_goals cases r1
  all_goals cases h
  all_goals exact ⟨rfl, op_fz ex (by first | exact .bl true | exact .bl false) k⟩
theorem op2_notN : Op2 K (fun x y H Q => y = .non ∧ Q (.bl (!decide (x = .non))) H) notND := by
  intro G H x y d e o ex r1 r2 h Q k
  cases e <;> cases d <;> first | (cases h; done) | skip
  all_goals cases r2
  all_goals cases r1
  all_goals cases h
  all_goals exact ⟨rfl, op_fz ex (by first | exact .bl true | exact .bl false) k⟩
theorem atI_rep {xs : List V} {ds : List D} (r : RepAll K G xs ds) {i : Int} {d : D} (h : atI ds i = some d) : ∃ v, atI xs i = some v ∧ Rep K G v d := by
  unfold atI at h ⊢
  rw [r.length]
  cases e : ixN ds.length i with
  | none => rw [e] at h; cases h
  | some j =>
    rw [e] at h
    exact r.get h
theorem op2_at : Op2 K (rIx K) atD := by
  intro G H x y d e o ex r1 r2 h Q k
  cases d <;> cases e <;> first | (cases h; done) | skip
  · cases r1; cases r2
    rename_i z i
    simp only [atD] at h
    split at h
    · rename_i c
      cases e : atI z.cps.toList i with
      | none => rw [e] at h; cases h
      | some n =>
        rw [e] at h
        cases h
        exact .inr (.inr ⟨z, i, n, rfl, rfl, c, e, op_fz ex (.str _) k⟩)
    · cases h
  · rename_i ds i
    cases r1 with
    | @tup a xs _ h1 h2 =>
      cases r2
      have h : (atI ds i).map OV.fz = some o := h
      cases e : atI ds i with
      | none => rw [e] at h; cases h
      | some n =>
        rw [e] at h
        cases h
        obtain ⟨v, ev, rv⟩ := atI_rep h2 e
        exact .inr (.inl ⟨a, xs, i, v, rfl, rfl, sqt_ex ex h1, ev, op_fz ex rv k⟩)
  · rename_i ds i
    cases r1 with
    | @lst a xs _ h1 h2 =>
      cases r2
      have h : (atI ds i).map OV.fz = some o := h
      cases e : atI ds i with
      | none => rw [e] at h; cases h
      | some n =>
        rw [e] at h
        cases h
        obtain ⟨v, ev, rv⟩ := atI_rep h2 e
        exact .inl ⟨a, xs, i, v, rfl, rfl, Or.inl (Or.inl (ex _ _ h1)), ev, op_fz ex rv k⟩
  · rename_i ns i
    cases r1 with
    | @scr a _ h1 =>
      cases r2
      have h : (atI ns i).map (fun n => OV.fz (D.int n)) = some o := h
      cases e : atI ns i with
      | none => rw [e] at h; cases h
      | some n =>
        rw [e] at h
        cases h
        refine .inl ⟨a, _, i, .int n, rfl, rfl, sql_ex ex h1, ?_, op_fz ex (.int _) k⟩
        unfold atI at e ⊢
        rw [List.length_map]
        cases e2 : ixN ns.length i with
        | none => rw [e2] at e; cases e
        | some j =>
          rw [e2] at e
          show (ns.map V.int)[j]? = _
          rw [List.getElem?_map, show ns[j]? = some n from e]
          rfl

/-! ### slices -/
def OpSl (K : PySem.W.Frag) (r : V → Option Int → Option Int → Hp → VK → Prop) (op : D → Option Int → Option Int → Option OV) : Prop := ∀ G H x d lo hi o, Ex G H → Rep K G x d → op d lo hi = some o → ∀ Q : VK,
  (∀ v G' H' F, Alloc G H G' H' → Own K G' H' v o F → (∀ a, F a → H a = none ∧ H' a ≠ none ∧ G' a = none) → Q v H') → r x lo hi H Q
theorem RepAll.take : ∀ (n : Nat) {xs : List V} {ds : List D}, RepAll K G xs ds → RepAll K G (xs.take n) (ds.take n)
  | 0, _, _, _ => .nil
  | n + 1, _, _, .nil => .nil
  | n + 1, _, _, .cons h t => .cons h (RepAll.take n t)
theorem RepAll.drop : ∀ (n : Nat) {xs : List V} {ds : List D}, RepAll K G xs ds → RepAll K G (xs.drop n) (ds.drop n)
  | 0, _, _, h => h
  | n + 1, _, _, .nil => .nil
  | n + 1, _, _, .cons h t => RepAll.drop n t
theorem RepAll.cut {xs : List V} {ds : List D} (r : RepAll K G xs ds) (lo hi : Option Int) : RepAll K G (cutV xs lo hi) (cutL ds lo hi) := by
  unfold cutV cutL
  rw [r.length]
  exact (r.drop _).take _
theorem cutL_map {α β : Type} (f : α → β) (xs : List α) (lo hi : Option Int) : cutL (xs.map f) lo hi = (cutL xs lo hi).map f := by
  unfold cutL
  rw [List.length_map, List.map_take, List.map_drop]
theorem RepAll.ints : ∀ (ns : List Int), RepAll K G (ns.map V.int) (ns.map D.int)
  | [] => .nil
  | n :: ns => .cons (.int n) (RepAll.ints ns)
def rSlU (K : PySem.W.Frag) : V → Option Int → Option Int → Hp → VK → Prop := fun x lo hi H Q => rSlA K x lo hi H Q ∨ rSlL K x lo hi H Q ∨ rSlS x lo hi H Q
theorem sl_U : SlR X (rSlU X.K) := SlR.or sl_tupA (SlR.or sl_list sl_str)
theorem opsl_cut : OpSl K (rSlU K) cutD := by
  intro G H x d lo hi o ex r h Q k
  cases d <;> first | (cases h; done) | skip
  · cases r
    simp only [cutD] at h
    split at h
    · rename_i c
      cases h
      exact .inr (.inr ⟨_, rfl, c, op_fz ex (.str _) k⟩)
    · cases h
  · rename_i ds
    cases r with
    | @tup a xs _ h1 h2 =>
      cases h
      refine .inl ⟨a, xs, rfl, sqt_ex ex h1, fun z => ?_, fun _ => op_tup ex (h2.cut lo hi) k⟩
      have e : cutL ds lo hi = ds := by
        unfold cutL
        rw [← h2.length, z.1, z.2, h2.length]
        simp
      rw [e] at k
      exact op_fz ex (.tup h1 h2) k
  · cases r with
    | @lst a xs ds h1 h2 =>
      cases h
      exact .inr (.inl ⟨a, xs, rfl, Or.inl (Or.inl (ex _ _ h1)), op_lst ex (h2.cut lo hi) k⟩)
  · rename_i ns
    cases r with
    | @scr a _ h1 =>
      cases h
      refine .inr (.inl ⟨a, _, rfl, sql_ex ex h1, ?_⟩)
      have e : (cutL ns lo hi).map (fun n => OV.fz (D.int n)) = ((cutL ns lo hi).map D.int).map OV.fz := by
        rw [List.map_map]; rfl
      rw [e] at k
      refine op_lst ex (xs := cutV (ns.map V.int) lo hi) ?_ k
      have e2 : cutV (ns.map V.int) lo hi = (cutL ns lo hi).map V.int := cutL_map V.int ns lo hi
      rw [e2]
      exact RepAll.ints _

/-! ### built-in calls -/
/-- one argument -/
def N1 (op : D → Option OV) : List D → Option OV
  | [d] => op d
  | _ => none
def N2 (op : D → D → Option OV) : List D → Option OV
  | [d, e] => op d e
  | _ => none
theorem opN_len : OpN K (fun xs H Q => ∃ x n, xs = [x] ∧ LenV K x H n ∧ Q (.int n) H) (N1 lenD) := by
  intro G H xs ds o ex r h Q k
  cases r with
  | nil => cases h
  | cons r rr =>
    cases rr with
    | cons _ _ => cases h
    | nil =>
      rename_i v d
      have h : lenD d = some o := h
      cases d <;> first | (cases h; done) | skip
      · cases r
        simp only [lenD] at h
        split at h
        · rename_i c
          cases h
          exact ⟨_, _, rfl, ⟨c, rfl⟩, op_fz ex (.int _) k⟩
        · cases h
      · cases r with
        | @tup a xs ds h1 h2 =>
          cases h
          rw [← h2.length] at k
          exact ⟨_, _, rfl, .inr ⟨xs, sqt_ex ex h1, rfl⟩, op_fz ex (.int _) k⟩
      · cases r with
        | @lst a xs ds h1 h2 =>
          cases h
          rw [← h2.length] at k
          exact ⟨_, _, rfl, .inl ⟨xs, Or.inl (Or.inl (ex _ _ h1)), rfl⟩, op_fz ex (.int _) k⟩
      · cases r with
        | @scr a ns h1 =>
          cases h
          exact ⟨_, _, rfl, .inl ⟨_, sql_ex ex h1, (List.length_map ..).symm⟩, op_fz ex (.int _) k⟩
theorem intsD_rep : ∀ {ds : List D} {xs : List V} {ns : List Int}, RepAll K G xs ds → intsD ds = some ns → xs = ns.map V.int
  | [], _, _, .nil, h => by cases h; rfl
  | d :: ds, _, ns, .cons r t, h => by
    cases d <;> first | (cases h; done) | skip
    rename_i i
    have h : (intsD ds).map (i :: ·) = some ns := h
    cases e : intsD ds with
    | none => rw [e] at h; cases h
    | some ms =>
      rw [e] at h
      cases h
      cases r
      rw [intsD_rep t e]
      rfl
theorem boolsD_rep : ∀ {ds : List D} {xs : List V} {ns : List Bool}, RepAll K G xs ds → boolsD ds = some ns → xs = ns.map V.bl
  | [], _, _, .nil, h => by cases h; rfl
  | d :: ds, _, ns, .cons r t, h => by
    cases d <;> first | (cases h; done) | skip
    rename_i i
    have h : (boolsD ds).map (i :: ·) = some ns := h
    cases e : boolsD ds with
    | none => rw [e] at h; cases h
    | some ms =>
      rw [e] at h
      cases h
      cases r
      rw [boolsD_rep t e]
      rfl
theorem maxL_spec : ∀ (xs : List Int) (m : Int), (maxL m xs = m ∨ maxL m xs ∈ xs) ∧ m ≤ maxL m xs ∧ ∀ y ∈ xs, y ≤ maxL m xs
  | [], m => ⟨.inl rfl, Int.le_refl _, fun _ h => nomatch h⟩
  | x :: xs, m => by
    unfold maxL
    obtain ⟨a, b, c⟩ := maxL_spec xs (if x > m then x else m)
    have h1 : m ≤ (if x > m then x else m) := by split <;> omega
    have h2 : x ≤ (if x > m then x else m) := by split <;> omega
    refine ⟨?_, by omega, fun y hy => ?_⟩
    · rcases a with a | a
      · rw [a]
        split
        · exact .inr (List.mem_cons_self ..)
        · exact .inl rfl
      · exact .inr (List.mem_cons_of_mem _ a)
    · rcases List.mem_cons.mp hy with e | e
      · rw [e]; omega
      · exact c y e
theorem minL_spec : ∀ (xs : List Int) (m : Int), (minL m xs = m ∨ minL m xs ∈ xs) ∧ minL m xs ≤ m ∧ ∀ y ∈ xs, minL m xs ≤ y
  | [], m => ⟨.inl rfl, Int.le_refl _, fun _ h => nomatch h⟩
  | x :: xs, m => by
    unfold minL
    obtain ⟨a, b, c⟩ := minL_spec xs (if x < m then x else m)
    have h1 : (if x < m then x else m) ≤ m := by split <;> omega
    have h2 : (if x < m then x else m) ≤ x := by split <;> omega
    refine ⟨?_, by omega, fun y hy => ?_⟩
    · rcases a with a | a
      · rw [a]
        split
        · exact .inr (List.mem_cons_self ..)
        · exact .inl rfl
      · exact .inr (List.mem_cons_of_mem _ a)
    · rcases List.mem_cons.mp hy with e | e
      · rw [e]; omega
      · exact c y e
def sumD : D → Option OV
  | .lst ds => (intsD ds).map fun ns => .fz (.int ns.sum)
  | .scr ns => some (.fz (.int ns.sum))
  | _ => none
theorem opN_sum : OpN K (rSum K) (N1 sumD) := by
  intro G H xs ds o ex r h Q k
  cases r with
  | nil => cases h
  | cons r rr =>
    cases rr with
    | cons _ _ => cases h
    | nil =>
      rename_i v d
      have h : sumD d = some o := h
      cases d <;> first | (cases h; done) | skip
      · rename_i ds _
        cases r with
        | @lst a xs _ h1 h2 =>
          have h : (intsD ds).map (fun ns => OV.fz (.int ns.sum)) = some o := h
          cases e : intsD ds with
          | none => rw [e] at h; cases h
          | some ns =>
            rw [e] at h
            cases h
            have e2 := intsD_rep h2 e
            subst e2
            exact ⟨a, ns, rfl, Or.inl (Or.inl (ex _ _ h1)), op_fz ex (.int _) k⟩
      · rename_i ns _
        cases r with
        | @scr a _ h1 =>
          cases h
          exact ⟨a, ns, rfl, sql_ex ex h1, op_fz ex (.int _) k⟩
/-- max, min: of a list of ints | of two -/
def maxD : List D → Option OV
  | [.lst ds] => match intsD ds with
    | some (n :: ns) => some (.fz (.int (maxL n ns)))
    | _ => none
  | [.int i, .int j] => some (.fz (.int (if j > i then j else i)))
  | _ => none
def minD : List D → Option OV
  | [.lst ds] => match intsD ds with
    | some (n :: ns) => some (.fz (.int (minL n ns)))
    | _ => none
  | [.int i, .int j] => some (.fz (.int (if j < i then j else i)))
  | _ => none
def rMaxU (K : PySem.W.Frag) : List V → Hp → VK → Prop := fun xs H Q => rMax K xs H Q ∨ ∃ i j, xs = [.int i, .int j] ∧ Q (.int (if j > i then j else i)) H
def rMinU (K : PySem.W.Frag) : List V → Hp → VK → Prop := fun xs H Q => rMin K xs H Q ∨ ∃ i j, xs = [.int i, .int j] ∧ Q (.int (if j < i then j else i)) H
theorem opN_max : OpN K (rMaxU K) maxD := by
  intro G H xs ds o ex r h Q k
  unfold maxD at h
  split at h
  · rename_i es
    split at h
    · rename_i n ns e
      cases h
      cases r with
      | cons r rr =>
        cases rr
        cases r with
        | @lst a xs _ h1 h2 =>
          have e2 := intsD_rep h2 e
          subst e2
          refine .inl ⟨a, n :: ns, rfl, Or.inl (Or.inl (ex _ _ h1)), by simp, fun m hm hb => ?_⟩
          obtain ⟨s1, s2, s3⟩ := maxL_spec ns n
          have e3 : m = maxL n ns := by
            have u1 : m ≤ maxL n ns := by
              rcases List.mem_cons.mp hm with q | q
              · rw [q]; exact s2
              · exact s3 m q
            have u2 : maxL n ns ≤ m := by
              rcases s1 with q | q
              · rw [q]; exact hb n (List.mem_cons_self ..)
              · exact hb _ (List.mem_cons_of_mem _ q)
            omega
          rw [e3]
          exact op_fz ex (.int _) k
    · cases h
  · cases h
    cases r with
    | cons r rr =>
      cases rr with
      | cons r2 rr =>
        cases rr
        cases r
        cases r2
        exact .inr ⟨_, _, rfl, op_fz ex (.int _) k⟩
  · cases h
theorem opN_min : OpN K (rMinU K) minD := by
  intro G H xs ds o ex r h Q k
  unfold minD at h
  split at h
  · rename_i es
    split at h
    · rename_i n ns e
      cases h
      cases r with
      | cons r rr =>
        cases rr
        cases r with
        | @lst a xs _ h1 h2 =>
          have e2 := intsD_rep h2 e
          subst e2
          refine .inl ⟨a, n :: ns, rfl, Or.inl (Or.inl (ex _ _ h1)), by simp, fun m hm hb => ?_⟩
          obtain ⟨s1, s2, s3⟩ := minL_spec ns n
          have e3 : m = minL n ns := by
            have u1 : minL n ns ≤ m := by
              rcases List.mem_cons.mp hm with q | q
              · rw [q]; exact s2
              · exact s3 m q
            have u2 : m ≤ minL n ns := by
              rcases s1 with q | q
              · rw [q]; exact hb n (List.mem_cons_self ..)
              · exact hb _ (List.mem_cons_of_mem _ q)
            omega
          rw [e3]
          exact op_fz ex (.int _) k
    · cases h
  · cases h
    cases r with
    | cons r rr =>
      cases rr with
      | cons r2 rr =>
        cases rr
        cases r
        cases r2
        exact .inr ⟨_, _, rfl, op_fz ex (.int _) k⟩
  · cases h
theorem call_maxU (hc : X.calm = true) : CallR X (.builtin "max") (rMaxU X.K) := CallR.or (cr_max hc) (call_max2 hc)
theorem call_minU (hc : X.calm = true) : CallR X (.builtin "min") (rMinU X.K) := CallR.or (cr_min hc) (call_min2 hc)
def absD : D → Option OV
  | .int i => some (.fz (.int (if i < 0 then -i else i)))
  | _ => none
theorem opN_abs : OpN K (fun xs H Q => ∃ i, xs = [.int i] ∧ Q (.int (if i < 0 then -i else i)) H) (N1 absD) := by
  intro G H xs ds o ex r h Q k
  cases r with
  | nil => cases h
  | cons r rr =>
    cases rr with
    | cons _ _ => cases h
    | nil =>
      rename_i v d
      have h : absD d = some o := h
      cases d <;> first | (cases h; done) | skip
      cases r
      cases h
      exact ⟨_, rfl, op_fz ex (.int _) k⟩
def intOf : D → Option OV
  | .int i => some (.fz (.int i))
  | .bl b => some (.fz (.int (if b then 1 else 0)))
  | _ => none
theorem opN_int : OpN K (fun xs H Q => (∃ i, xs = [.int i] ∧ Q (.int i) H) ∨ ∃ k, xs = [.bl k] ∧ Q (.int (if k then 1 else 0)) H) (N1 intOf) := by
  intro G H xs ds o ex r h Q k
  cases r with
  | nil => cases h
  | cons r rr =>
    cases rr with
    | cons _ _ => cases h
    | nil =>
      rename_i v d
      have h : intOf d = some o := h
      cases d <;> first | (cases h; done) | skip
      · cases r
        cases h
        exact .inr ⟨_, rfl, op_fz ex (.int _) k⟩
      · cases r
        cases h
        exact .inl ⟨_, rfl, op_fz ex (.int _) k⟩
def tupOf : D → Option OV
  | .lst ds => some (.fz (.tup ds))
  | .tup ds => some (.fz (.tup ds))
  | _ => none
theorem opN_tuple : OpN K (fun xs H Q => ∃ p ys, xs = [.ref p] ∧ ((SqL K H p ys ∧ ∀ l, H l = none → Q (.ref l) (upd H l (.tup ys))) ∨ (SqT K H p ys ∧ Q (.ref p) H))) (N1 tupOf) := by
  intro G H xs ds o ex r h Q k
  cases r with
  | nil => cases h
  | cons r rr =>
    cases rr with
    | cons _ _ => cases h
    | nil =>
      rename_i v d
      have h : tupOf d = some o := h
      cases d <;> first | (cases h; done) | skip
      · cases r with
        | @tup a xs ds h1 h2 => cases h; exact ⟨a, xs, rfl, .inr ⟨sqt_ex ex h1, op_fz ex (.tup h1 h2) k⟩⟩
      · cases r with
        | @lst a xs ds h1 h2 => cases h; exact ⟨a, xs, rfl, .inl ⟨Or.inl (Or.inl (ex _ _ h1)), op_tup ex h2 k⟩⟩
def lstOf : D → Option OV
  | .lst ds => some (.ls (ds.map .fz))
  | .tup ds => some (.ls (ds.map .fz))
  | _ => none
theorem opN_list : OpN K (fun xs H Q => ∃ p ys, xs = [.ref p] ∧ (SqL K H p ys ∨ SqT K H p ys) ∧ ∀ l, H l = none → Q (.ref l) (upd H l (.lst ys))) (N1 lstOf) := by
  intro G H xs ds o ex r h Q k
  cases r with
  | nil => cases h
  | cons r rr =>
    cases rr with
    | cons _ _ => cases h
    | nil =>
      rename_i v d
      have h : lstOf d = some o := h
      cases d <;> first | (cases h; done) | skip
      · cases r with
        | @tup a xs ds h1 h2 => cases h; exact ⟨a, xs, rfl, .inr (sqt_ex ex h1), op_lst ex h2 k⟩
      · cases r with
        | @lst a xs ds h1 h2 => cases h; exact ⟨a, xs, rfl, .inl (Or.inl (Or.inl (ex _ _ h1))), op_lst ex h2 k⟩
def allD : D → Option OV
  | .lst ds => (boolsD ds).map fun bs => .fz (.bl (bs.all id))
  | _ => none
def anyD : D → Option OV
  | .lst ds => (boolsD ds).map fun bs => .fz (.bl (bs.any id))
  | _ => none
theorem opN_all : OpN K (rAll K) (N1 allD) := by
  intro G H xs ds o ex r h Q k
  cases r with
  | nil => cases h
  | cons r rr =>
    cases rr with
    | cons _ _ => cases h
    | nil =>
      rename_i v d
      have h : allD d = some o := h
      cases d <;> first | (cases h; done) | skip
      rename_i ds _
      cases r with
      | @lst a xs _ h1 h2 =>
        have h : (boolsD ds).map (fun bs => OV.fz (.bl (bs.all id))) = some o := h
        cases e : boolsD ds with
        | none => rw [e] at h; cases h
        | some ns =>
          rw [e] at h
          cases h
          have e2 := boolsD_rep h2 e
          subst e2
          exact ⟨a, ns, rfl, Or.inl (Or.inl (ex _ _ h1)), op_fz ex (.bl _) k⟩
theorem opN_any : OpN K (rAny K) (N1 anyD) := by
  intro G H xs ds o ex r h Q k
  cases r with
  | nil => cases h
  | cons r rr =>
    cases rr with
    | cons _ _ => cases h
    | nil =>
      rename_i v d
      have h : anyD d = some o := h
      cases d <;> first | (cases h; done) | skip
      rename_i ds _
      cases r with
      | @lst a xs _ h1 h2 =>
        have h : (boolsD ds).map (fun bs => OV.fz (.bl (bs.any id))) = some o := h
        cases e : boolsD ds with
        | none => rw [e] at h; cases h
        | some ns =>
          rw [e] at h
          cases h
          have e2 := boolsD_rep h2 e
          subst e2
          exact ⟨a, ns, rfl, Or.inl (Or.inl (ex _ _ h1)), op_fz ex (.bl _) k⟩
theorem ty_rep (ex : Ex G H) {v : V} {d : D} {t : Ty} (r : Rep K G v d) (h : tyD d = some t) : TyX K H v (.type t.nm) := by
  cases r <;> cases h
  · exact .base .non
  · exact .base (.bl _)
  · exact .base (.int _)
  · exact .base (.str _)
  · rename_i a xs ds h1 h2
    have h1' := sqt_ex ex h1
    rcases h1' with (e | ⟨o, e⟩) | e
    · exact .base (.tup e)
    · exact .fTuple e
    · obtain ⟨o, its, n, e1, e2, _⟩ := e
      exact .kTuple e1 e2
  · rename_i a xs ds h1 h2
    exact .base (.lst (ex _ _ h1))
/-- isinstance(x, T), the class written: its reading after its first argument -/
def rIsT (K : PySem.W.Frag) (T : Ty) : List V → Hp → VK → Prop := fun xs H Q => ∃ x, xs = [x] ∧ rIsi K [x, .ty T.nm] H Q
theorem op1_isi (T : Ty) : ∀ G H x d o, Ex G H → Rep K G x d → isiD d T = some o → ∀ Q : VK,
    (∀ v G' H' F, Alloc G H G' H' → Own K G' H' v o F → (∀ a, F a → H a = none ∧ H' a ≠ none ∧ G' a = none) → Q v H') → rIsi K [x, .ty T.nm] H Q := by
  intro G H x d o ex r h Q k
  unfold isiD at h
  cases e : tyD d with
  | none => rw [e] at h; cases h
  | some t =>
    rw [e] at h
    cases h
    exact ⟨x, _, _, _, _, rfl, .ty _, ty_rep ex r e, kit_ty (kit_T t T), op_fz ex (.bl _) k⟩
end
end LD

end
section
set_option Elab.async false
set_option linter.all false
set_option maxRecDepth 100000
set_option maxHeartbeats 4000000
namespace LD
open PySem PySem.Spec PyProof.Rows L2

/-! ### expressions by their operations -/
section
variable {X : Cx} {cm : Str → Addr} {W : WX} {a b c e : Expr} {es : List Expr} {ta tb tc te : TE} {t : TA} {fa fb fc : FE} {fs : FA} {pos p : Pos}
theorem ox_add (h : Dx X cm W a ta fa) (h' : Dx X cm W b tb fb) : Ox X cm W (.BinOp a .Add b pos) (tOp (rAddU X.K) ta tb) (f2 addD fa fb) := ⟨pe_op op_addU h.pe h'.pe, do_2 h.de h'.de op2_add⟩
theorem ox_sub (h : Dx X cm W a ta fa) (h' : Dx X cm W b tb fb) : Ox X cm W (.BinOp a .Sub b pos) (tOp (rI0 fun i j => .int (i - j)) ta tb) (f2 subD fa fb) := ⟨pe_op op_sub h.pe h'.pe, do_2 h.de h'.de op2_sub⟩
theorem ox_mul (h : Dx X cm W a ta fa) (h' : Dx X cm W b tb fb) : Ox X cm W (.BinOp a .Mult b pos) (tOp (rMulU X.K) ta tb) (f2 mulD fa fb) := ⟨pe_op op_mulU h.pe h'.pe, do_2 h.de h'.de op2_mul⟩
theorem ox_mod (h : Dx X cm W a ta fa) (h' : Dx X cm W b tb fb) : Ox X cm W (.BinOp a .Mod b pos) (tOp (rI (fun _ j => j ≠ 0) fun i j => .int (i.fmod j)) ta tb) (f2 modD fa fb) := ⟨pe_op op_modN h.pe h'.pe, do_2 h.de h'.de op2_mod⟩
theorem ox_div (h : Dx X cm W a ta fa) (h' : Dx X cm W b tb fb) : Ox X cm W (.BinOp a .FloorDiv b pos) (tOp (rI CDivW fun i j => .int (i / j)) ta tb) (f2 divD fa fb) := ⟨pe_op op_fdivW h.pe h'.pe, do_2 h.de h'.de op2_div⟩
theorem ox_pow (h : Dx X cm W a ta fa) (h' : Dx X cm W b tb fb) : Ox X cm W (.BinOp a .Pow b pos) (tOp (rI CPowB fun i j => .int (i ^ j.toNat)) ta tb) (f2 powD fa fb) := ⟨pe_op op_powB h.pe h'.pe, do_2 h.de h'.de op2_pow⟩
/-- a comparison: op as the model has it, its reading, what it makes of data -/
structure CmpR (X : Cx) (op : CmpOp) (r : R2) (f : D → D → Option OV) : Prop where
  op : OpR X (compareOp op) r
  op2 : Op2 X.K r f
theorem cmp_lt : CmpR X .Lt (rI0 fun i j => .bl (decide (i < j))) (cmpD fun i j => decide (i < j)) := ⟨op_lt, op2_cmp⟩
theorem cmp_le : CmpR X .LtE (rI0 fun i j => .bl (decide (i ≤ j))) (cmpD fun i j => decide (i ≤ j)) := ⟨op_le, op2_cmp⟩
theorem cmp_gt : CmpR X .Gt (rI0 fun i j => .bl (decide (j < i))) (cmpD fun i j => decide (j < i)) := ⟨op_gt, op2_cmp⟩
theorem cmp_ge : CmpR X .GtE (rI0 fun i j => .bl (decide (j ≤ i))) (cmpD fun i j => decide (j ≤ i)) := ⟨op_ge, op2_cmp⟩
theorem cmp_eq (hu : X.A.units + 64 < cLine) : CmpR X .Eq (rEqD X.K) eqD := ⟨op_eqD hu, op2_eq⟩
theorem cmp_ne (hu : X.A.units + 64 < cLine) : CmpR X .NotEq (rNeD X.K) neD := ⟨op_neD hu, op2_ne⟩
theorem cmp_isN : CmpR X .Is (fun x y H Q => y = .non ∧ Q (.bl (decide (x = .non))) H) isND := ⟨op_isN, op2_isN⟩
theorem cmp_notN : CmpR X .IsNot (fun x y H Q => y = .non ∧ Q (.bl (!decide (x = .non))) H) notND := ⟨op_notN, op2_notN⟩
/-- x in a list, in a tuple -/
def inD (d e : D) : Option OV := match e with
  | .tup es => if plain d = true ∧ plain (.tup es) = true then some (.fz (.bl ((toPys es).any fun z => PyData.eqv z (toPy d)))) else none
  | .lst es => if plain d = true ∧ plain (.lst es) = true then some (.fz (.bl ((toPys es).any fun z => PyData.eqv z (toPy d)))) else none
  | _ => none
def notInD (d e : D) : Option OV := match e with
  | .tup es => if plain d = true ∧ plain (.tup es) = true then some (.fz (.bl (!(toPys es).any fun z => PyData.eqv z (toPy d)))) else none
  | .lst es => if plain d = true ∧ plain (.lst es) = true then some (.fz (.bl (!(toPys es).any fun z => PyData.eqv z (toPy d)))) else none
  | _ => none
def rInU (K : PySem.W.Frag) (n : Bool) : R2 := fun x y H Q => ∃ d ds, Dp K H x d ∧ (Dp K H y (.list ds) ∧ SeqAt.shaped (.list ds) = true ∨ Dp K H y (.tuple ds) ∧ SeqAt.shaped (.tuple ds) = true) ∧ SeqAt.shaped d = true ∧
  Q (.bl (if n = true then !(ds.any fun z => PyData.eqv z d) else ds.any fun z => PyData.eqv z d)) H
theorem room_item {A : Around} {d : PyData} {xs : List PyData} (h : SeqAt.shaped d = true) (hu : A.units + 65 < cLine) : A.units + 1 + min (PyData.depthAll xs) d.depth < cLine := by
  have h1 := SeqAt.depth_of_shaped h
  have h2 : min (PyData.depthAll xs) d.depth ≤ d.depth := Nat.min_le_right _ _
  omega
theorem op_inU (hu : X.A.units + 65 < cLine) : OpR X (compareOp .In) (rInU X.K false) := by
  intro pins s σ H x y v u Q I rx ry h
  obtain ⟨d, ds, hd, he, sd, q⟩ := h
  obtain ⟨as, r1⟩ := Dp.reads I d x v hd rx
  rcases he with ⟨he, se⟩ | ⟨he, se⟩
  · obtain ⟨bs, r2⟩ := Dp.reads I (.list ds) y u he ry
    exact SeqAt.in_list_reads r2 r1 (by have z := SeqAt.canLay_of_shaped se; simpa only [PyData.canLay0] using z) (SeqAt.canLay_of_shaped sd) (room_item sd hu) ⟨.bl _, H, I, rfl, q⟩
  · obtain ⟨bs, r2⟩ := Dp.reads I (.tuple ds) y u he ry
    exact SeqAt.in_tuple_reads r2 r1 (by have z := SeqAt.canLay_of_shaped se; simpa only [PyData.canLay0] using z) (SeqAt.canLay_of_shaped sd) (room_item sd hu) ⟨.bl _, H, I, rfl, q⟩
theorem op_notInU (hu : X.A.units + 65 < cLine) : OpR X (compareOp .NotIn) (rInU X.K true) := by
  intro pins s σ H x y v u Q I rx ry h
  obtain ⟨d, ds, hd, he, sd, q⟩ := h
  obtain ⟨as, r1⟩ := Dp.reads I d x v hd rx
  rcases he with ⟨he, se⟩ | ⟨he, se⟩
  · obtain ⟨bs, r2⟩ := Dp.reads I (.list ds) y u he ry
    exact SeqAt.notIn_list_reads r2 r1 (by have z := SeqAt.canLay_of_shaped se; simpa only [PyData.canLay0] using z) (SeqAt.canLay_of_shaped sd) (room_item sd hu) ⟨.bl _, H, I, rfl, q⟩
  · obtain ⟨bs, r2⟩ := Dp.reads I (.tuple ds) y u he ry
    exact SeqAt.notIn_tuple_reads r2 r1 (by have z := SeqAt.canLay_of_shaped se; simpa only [PyData.canLay0] using z) (SeqAt.canLay_of_shaped sd) (room_item sd hu) ⟨.bl _, H, I, rfl, q⟩
theorem plain_sp {d : D} (h : plain d = true) : isData d = true ∧ SeqAt.shaped (toPy d) = true := by
  unfold plain at h
  rwa [Bool.and_eq_true] at h
theorem op2_in {K : PySem.W.Frag} : Op2 K (rInU K false) inD := by
  intro G H x y d e o ex r1 r2 h Q k
  cases e <;> first | (cases h; done) | skip
  · simp only [inD] at h
    split at h
    · rename_i c
      cases h
      obtain ⟨c1, c2⟩ := plain_sp c.1
      obtain ⟨c3, c4⟩ := plain_sp c.2
      exact ⟨_, _, r1.dp ex c1, .inr ⟨r2.dp ex c3, c4⟩, c2, op_fz ex (.bl _) k⟩
    · cases h
  · simp only [inD] at h
    split at h
    · rename_i c
      cases h
      obtain ⟨c1, c2⟩ := plain_sp c.1
      obtain ⟨c3, c4⟩ := plain_sp c.2
      exact ⟨_, _, r1.dp ex c1, .inl ⟨r2.dp ex c3, c4⟩, c2, op_fz ex (.bl _) k⟩
    · cases h
theorem op2_notIn {K : PySem.W.Frag} : Op2 K (rInU K true) notInD := by
  intro G H x y d e o ex r1 r2 h Q k
  cases e <;> first | (cases h; done) | skip
  · simp only [notInD] at h
    split at h
    · rename_i c
      cases h
      obtain ⟨c1, c2⟩ := plain_sp c.1
      obtain ⟨c3, c4⟩ := plain_sp c.2
      exact ⟨_, _, r1.dp ex c1, .inr ⟨r2.dp ex c3, c4⟩, c2, op_fz ex (.bl _) k⟩
    · cases h
  · simp only [notInD] at h
    split at h
    · rename_i c
      cases h
      obtain ⟨c1, c2⟩ := plain_sp c.1
      obtain ⟨c3, c4⟩ := plain_sp c.2
      exact ⟨_, _, r1.dp ex c1, .inl ⟨r2.dp ex c3, c4⟩, c2, op_fz ex (.bl _) k⟩
    · cases h
theorem cmp_in (hu : X.A.units + 65 < cLine) : CmpR X .In (rInU X.K false) inD := ⟨op_inU hu, op2_in⟩
theorem cmp_notIn (hu : X.A.units + 65 < cLine) : CmpR X .NotIn (rInU X.K true) notInD := ⟨op_notInU hu, op2_notIn⟩
theorem dx_cmp {op : CmpOp} {r : R2} {f : D → D → Option OV} (hc : CmpR X op r f) (h : Dx X cm W a ta fa) (h' : Dx X cm W b tb fb) (hm : behindInMarks op b = false) : Dx X cm W (.Compare a [op] [b] pos) (tOp r ta tb) (fE (f2 f fa fb)) :=
  ⟨pe_cmpR hc.op h.pe h'.pe hm, de_E (do_2 h.de h'.de hc.op2)⟩
theorem tx_cmp {op : CmpOp} {r : R2} {f : D → D → Option OV} (hc : CmpR X op r f) (h : Dx X cm W a ta fa) (h' : Dx X cm W b tb fb) (hm : behindInMarks op b = false) : Tx X cm W (.Compare a [op] [b] pos) (tTest (tOp r ta tb)) (fTest (fE (f2 f fa fb))) :=
  ⟨pt_cmpR hc.op h.pe h'.pe hm, dt_Test (de_E (do_2 h.de h'.de hc.op2))⟩
/-- a op b op' c -/
def fChain (f g : D → D → Option OV) (fa fb fc : FE) : FE := fun ρ => rb (fa ρ) fun x ρ1 => rb (fb ρ1) fun y ρ2 => match f x y with
  | some (.fz (.bl k)) => if k = true then rb (fc ρ2) fun z ρ3 => match g y z with
      | some (.fz (.bl k')) => some (.ok (.bl k') ρ3)
      | _ => none
    else some (.ok (.bl false) ρ2)
  | _ => none
theorem de_chain {K : PySem.W.Frag} {r r' : R2} {f g : D → D → Option OV} (ho : Op2 K r f) (ho' : Op2 K r' g) (ha : DE K cm W ta fa) (hb : DE K cm W tb fb) (hc : DE K cm W tc fc) : DE K cm W (tChain r r' ta tb tc) (fChain f g fa fb fc) := by
  intro G H σ ρ fps ok rr e Q q
  refine de_bind (P := []) ha ok e (fun x ρ1 e1 v G1 H1 fps1 p g1 => ?_) fun k f d ρ' e1 => by rw [e1] at q; exact q
  refine de_bind (P := []) hb p.ok e1 (fun y ρ2 e2 u G2 H2 fps2 p2 g2 => ?_) fun k f d ρ' e1 => by rw [e1] at q; exact q.back p
  split at e2
  · rename_i k hk
    refine ho G2 H2 v u x y _ p2.ok.ex (g1.mono p2.frm.ex) g2 hk _ fun w G3 H3 F al ow n => ?_
    have p3 := (p.trans p2).trans (al.post (P := []) p2.ok)
    cases ow with
    | fz rw =>
      cases rw
      refine ⟨k, rfl, ?_⟩
      cases k with
      | true =>
        have e2 : rb (fc ρ2) (fun z ρ3 => match g y z with
          | some (.fz (.bl k')) => some (.ok (.bl k') ρ3)
          | _ => none) = some rr := e2
        refine iteT (de_bind (P := []) hc (al.post (P := []) p2.ok).ok e2 (fun z ρ3 e3 w' G4 H4 fps4 p4 g4 => ?_) fun k f d ρ' e1 => by rw [e1] at q; exact q.back p3)
        split at e3
        · rename_i k' hk'
          cases e3
          refine ho' G4 H4 u w' y z _ p4.ok.ex ((g2.mono al.exg).mono p4.frm.ex) g4 hk' _ fun w2 G5 H5 F5 al5 ow5 n5 => ?_
          cases ow5 with
          | fz rw5 => exact q _ _ _ fps4 ((p3.trans p4).trans (al5.post (P := []) p4.ok)) rw5
        · cases e3
      | false =>
        have e2 : some (R.ok (D.bl false) ρ2) = some rr := e2
        cases e2
        exact iteF (q _ _ _ fps2 p3 (.bl false))
  · cases e2
theorem dx_chain {op op' : CmpOp} {r r' : R2} {f g : D → D → Option OV} (h1 : CmpR X op r f) (h2 : CmpR X op' r' g) (ha : Dx X cm W a ta fa) (hb : Dx X cm W b tb fb) (hc : Dx X cm W c tc fc) (hm : lastMarks [op, op'] [b, c] = false := by with_unfolding_all rfl) :
    Dx X cm W (.Compare a [op, op'] [b, c] pos) (tChain r r' ta tb tc) (fChain f g fa fb fc) := ⟨pe_chain h1.op h2.op ha.pe hb.pe hc.pe hm, de_chain h1.op2 h2.op2 ha.de hb.de hc.de⟩
theorem tx_chain {op op' : CmpOp} {r r' : R2} {f g : D → D → Option OV} (h1 : CmpR X op r f) (h2 : CmpR X op' r' g) (ha : Dx X cm W a ta fa) (hb : Dx X cm W b tb fb) (hc : Dx X cm W c tc fc) (hm : lastMarks [op, op'] [b, c] = false := by with_unfolding_all rfl) :
    Tx X cm W (.Compare a [op, op'] [b, c] pos) (tTest (tChain r r' ta tb tc)) (fTest (fChain f g fa fb fc)) := ⟨pt_chain h1.op h2.op ha.pe hb.pe hc.pe hm, dt_Test (de_chain h1.op2 h2.op2 ha.de hb.de hc.de)⟩
/-! subscripts, slices -/
theorem dx_ix (h : Dx X cm W a ta fa) (h' : Dx X cm W b tb fb) (hs : PlainIx b := by exact fun _ _ => rfl) : Dx X cm W (.Subscript a b pos) (tOp (rIx X.K) ta tb) (fE (f2 atD fa fb)) := ⟨pe_ix ix_seq h.pe h'.pe hs, de_E (do_2 h.de h'.de op2_at)⟩
abbrev FP := Envr → Option (R (Option Int))
def fNoPart : FP := fun ρ => some (.ok none ρ)
def fPart (f : FE) : FP := fun ρ => rb (f ρ) fun d ρ1 => match d with
  | .int i => some (.ok (some i) ρ1)
  | _ => none
def DP (K : PySem.W.Frag) (cm : Str → Addr) (W : WX) (t : TO) (f : FP) : Prop := ∀ G H σ ρ fps, Ok K G H σ ρ fps → ∀ r, f ρ = some r → ∀ Q : Option Int → Hp → Prop,
  (match r with
    | .ok b ρ' => ∀ G' H' fps', Post K [] G H σ fps G' H' σ ρ' fps' → Q b H'
    | .ex k f d ρ' => WEx K cm W [] G H σ fps k f d ρ' σ) → t σ H Q
structure Px (X : Cx) (cm : Str → Addr) (W : WX) (e : Option Expr) (t : TO) (f : FP) : Prop where
  pe : PO X e t
  de : DP X.K cm W t f
theorem px_none : Px X cm W none tNoPart fNoPart := ⟨po_none, by
  intro G H σ ρ fps ok r e Q q
  cases e
  exact q G H fps (.refl ok)⟩
theorem px_some (h : Dx X cm W e te fa) : Px X cm W (some e) (tPart te) (fPart fa) := ⟨po_some h.pe, by
  intro G H σ ρ fps ok r e Q q
  refine de_bind (P := []) h.de ok e (fun d ρ1 e1 v G1 H1 fps1 p g => ?_) fun k f d ρ' e1 => by rw [e1] at q; exact q
  cases g with
  | int b =>
    cases e1
    exact ⟨b, rfl, q G1 H1 fps1 p⟩
  | _ => cases e1⟩
def fSl (op : D → Option Int → Option Int → Option OV) (f : FE) (g h : FP) : FO := fun ρ => rb (f ρ) fun d ρ1 => rb (g ρ1) fun lo ρ2 => rb (h ρ2) fun hi ρ3 => (op d lo hi).map (.ok · ρ3)
theorem dp_bind {K : PySem.W.Frag} {P : List Nat} {t : TO} {f : FP} (h : DP K cm W t f) {G H : Hp} {σ : L2.St} {ρ : Envr} {fps : Nat → Addr → Prop} (ok : Ok K G H σ ρ fps) {β : Type} {k : Option Int → Envr → Option (R β)} {r : R β} (e : rb (f ρ) k = some r) {Q : Option Int → Hp → Prop}
    (q : ∀ d ρ1, k d ρ1 = some r → ∀ G1 H1 fps1, Post K P G H σ fps G1 H1 σ ρ1 fps1 → Q d H1)
    (x : ∀ k f d ρ', r = .ex k f d ρ' → WEx K cm W [] G H σ fps k f d ρ' σ) : t σ H Q := by
  cases hf : f ρ with
  | none => rw [hf] at e; cases e
  | some r1 =>
    rw [hf] at e
    cases r1 with
    | ok d ρ1 => exact h G H σ ρ fps ok _ hf Q fun G' H' fps' p => q d ρ1 e G' H' fps' p.any
    | ex k f d ρ1 =>
      cases e
      exact h G H σ ρ fps ok _ hf Q (x _ _ _ _ rfl)
theorem do_sl {K : PySem.W.Frag} {r : V → Option Int → Option Int → Hp → VK → Prop} {op : D → Option Int → Option Int → Option OV} {tl th : TO} {g h : FP} (ho : OpSl K r op) (ha : DE K cm W ta fa) (hl : DP K cm W tl g) (hh : DP K cm W th h) : DO K cm W (tSl r ta tl th) (fSl op fa g h) := by
  intro G H σ ρ fps ok rr e Q q
  refine de_bind (P := []) ha ok e (fun x ρ1 e1 v G1 H1 fps1 p g1 => ?_) fun k f d ρ' e1 => by rw [e1] at q; exact q
  refine dp_bind (P := []) hl p.ok e1 (fun lo ρ2 e2 G2 H2 fps2 p2 => ?_) fun k f d ρ' e1 => by rw [e1] at q; exact q.back p
  refine dp_bind (P := []) hh p2.ok e2 (fun hi ρ3 e3 G3 H3 fps3 p3 => ?_) fun k f d ρ' e1 => by rw [e1] at q; exact q.back (p.trans p2)
  cases ho' : op x lo hi with
  | none => rw [ho'] at e3; cases e3
  | some o =>
    rw [ho'] at e3
    cases e3
    refine ho G3 H3 v x lo hi o p3.ok.ex ((g1.mono p2.frm.ex).mono p3.frm.ex) ho' Q fun u G4 H4 F al w n => ?_
    obtain ⟨p4, g4⟩ := al.got (P := []) p3.ok w n
    have pp := (p.trans p2).trans p3
    exact q u G4 H4 fps3 F (pp.trans p4) g4 fun a f => fresh_back pp (n a f).1
theorem ox_slice {lo hi : Option Expr} {tl th : TO} {g h : FP} {p2 : Pos} (ha : Dx X cm W a ta fa) (hl : Px X cm W lo tl g) (hh : Px X cm W hi th h) : Ox X cm W (.Subscript a (.Slice lo hi none p2) pos) (tSl (rSlU X.K) ta tl th) (fSl cutD fa g h) :=
  ⟨pe_slice sl_U ha.pe hl.pe hh.pe, do_sl opsl_cut ha.de hl.de hh.de⟩

/-! ### calls of built-ins by name -/
theorem ox_blt {x : Str} {id : String} {r : List V → Hp → VK → Prop} {op : List D → Option OV} (hc : CallR X (.builtin id) r) (ho : OpN X.K r op) (hg : Gl X x) (hm : X.mg x = none) (hv : bootBuiltins x = some (.builtin id)) (ha : Ax X cm W (e :: es) t fs) (hn : x ≠ "__name__" := by decide) (hdb : (x == ("__debug__" : Str)) = false := by decide)
    (he : starEach (e :: es) X.env = (false, eval e X.env) :: starEach es X.env := by rfl) (hpl : (backTo pos (starEach es X.env)).any (·.1) = false := by rfl) : Ox X cm W (.Call (.Name x p) (e :: es) [] pos) (tCB r t) (fN op fs) := ⟨pe_callB hc hg hm hv ha.pe hn hdb he hpl, do_N ha.de ho⟩
theorem ox_ty {x : Str} {T : String} {r : List V → Hp → VK → Prop} {op : List D → Option OV} (hc : CallR X (.type T) r) (ho : OpN X.K r op) (hg : Gl X x) (hm : X.mg x = none) (hv : bootBuiltins x = some (.type T)) (ha : Ax X cm W (e :: es) t fs) (hn : x ≠ "__name__" := by decide) (hdb : (x == ("__debug__" : Str)) = false := by decide)
    (he : starEach (e :: es) X.env = (false, eval e X.env) :: starEach es X.env := by rfl) (hpl : (backTo pos (starEach es X.env)).any (·.1) = false := by rfl) : Ox X cm W (.Call (.Name x p) (e :: es) [] pos) (tCB r t) (fN op fs) := ⟨pe_callTy hc hg hm hv ha.pe hn hdb he hpl, do_N ha.de ho⟩
theorem ox_fun {x : Str} {id : String} {r : List V → Hp → VK → Prop} {op : List D → Option OV} (hc : CallR X (.builtin id) r) (ho : OpN X.K r op) (hg : Gl X x) (hm : X.mg x = some (.builtin id)) (ha : Ax X cm W (e :: es) t fs) (hdb : (x == ("__debug__" : Str)) = false := by decide)
    (he : starEach (e :: es) X.env = (false, eval e X.env) :: starEach es X.env := by rfl) (hpl : (backTo pos (starEach es X.env)).any (·.1) = false := by rfl) : Ox X cm W (.Call (.Name x p) (e :: es) [] pos) (tCB r t) (fN op fs) := ⟨pe_callBfun hc hg hm ha.pe hdb he hpl, do_N ha.de ho⟩
/-- isinstance(x, T) -/
theorem dx_isi {T : Ty} {x : Str} {pT : Pos} (hi : X.mg "isinstance" = none) (hm : X.mg x = none) (h : Dx X cm W a ta fa) (hv : bootBuiltins x = some (.type T.nm) := by decide +kernel) (hgi : Gl X "isinstance" := by rfl) (hg : Gl X x := by rfl)
    (hn : x ≠ "__name__" := by decide) (hdb : (x == ("__debug__" : Str)) = false := by decide) (hs1 : starEach [a, .Name x pT] X.env = (false, eval a X.env) :: starEach [.Name x pT] X.env := by rfl)
    (hs2 : starEach [.Name x pT] X.env = (false, eval (.Name x pT) X.env) :: starEach [] X.env := by rfl) (hpl : (backTo pos (starEach [.Name x pT] X.env)).any (·.1) = false := by rfl) :
    Dx X cm W (.Call (.Name "isinstance" p) [a, .Name x pT] [] pos) (tCB (rIsi X.K) (tCons ta (tCons (tC (.ty T.nm)) tNil))) (fE (f1 (isiD · T) fa)) := by
  refine ⟨pe_callB call_isi hgi hi (by decide +kernel) (pa_cons h.pe (pa_cons (pe_bltn hg hm hv (v := .ty T.nm) rfl hn hdb) pa_nil hs2) hs1) (by decide) (by decide) hs1 hpl, de_E ?_⟩
  intro G H σ ρ fps ok r e Q q
  refine de_bind (P := []) h.de ok e (fun d ρ1 e1 v G1 H1 fps1 p g => ?_) fun k f d ρ' e1 => by rw [e1] at q; exact q
  cases ho' : isiD d T with
  | none => simp only [ho'] at e1; cases e1
  | some o =>
    simp only [ho'] at e1
    cases e1
    refine op1_isi T G1 H1 v d o p.ok.ex g ho' Q fun u G2 H2 F al w n => ?_
    obtain ⟨p2, g2⟩ := al.got (P := []) p.ok w n
    exact q u G2 H2 fps1 F (p.trans p2) g2 fun a f => fresh_back p (n a f).1
end
end LD

end
section
set_option Elab.async false
set_option linter.all false
set_option maxRecDepth 100000
set_option maxHeartbeats 4000000
namespace LD
open PySem PySem.Spec PyProof.Rows L2

/-! ### statements -/
def er {α : Type} (r : Option (R α)) (k : α → Envr → Option SR) : Option SR := match r with
  | none => none
  | some (.ok a ρ) => k a ρ
  | some (.ex k f d ρ) => some (.ex k f d ρ)
def sNop : FS := fun ρ => some (.nx ρ)
def sSeq (f g : FS) : FS := fun ρ => match f ρ with
  | some (.nx ρ1) => g ρ1
  | r => r
def sSet (i : Nat) (f : FO) : FS := fun ρ => er (f ρ) fun o ρ1 => if i < ρ1.length then some (.nx (ρ1.set i (some o))) else none
def sExpr (f : FO) : FS := fun ρ => er (f ρ) fun _ ρ1 => some (.nx ρ1)
def sRet (f : FO) : FS := fun ρ => er (f ρ) fun o ρ1 => some (.rt o ρ1)
def sRetN : FS := fun ρ => some (.rt (.fz .non) ρ)
def sIf (c : FT) (f g : FS) : FS := fun ρ => er (c ρ) fun b ρ1 => if b = true then f ρ1 else g ρ1
def sBrk : FS := fun ρ => some (.bk ρ)
def sCnt : FS := fun ρ => some (.ct ρ)
abbrev Tg := D → Envr → Option Envr
def gN (i : Nat) : Tg := fun d ρ => if i < ρ.length then some (ρ.set i (some (.fz d))) else none
abbrev Tgs := List D → Envr → Option Envr
def gsNil : Tgs := fun ds ρ => match ds with
  | [] => some ρ
  | _ => none
def gsCons (g : Tg) (h : Tgs) : Tgs := fun ds ρ => match ds with
  | [] => none
  | d :: ds => (g d ρ).bind (h ds)
def gT (h : Tgs) : Tg := fun d ρ => match d with
  | .tup ds => h ds ρ
  | _ => none
def sAsg (f : FE) (g : Tg) : FS := fun ρ => er (f ρ) fun d ρ1 => (g d ρ1).map .nx
/-- slots forgotten -/
def forg (vs : List Nat) (ρ : Envr) : Envr := vs.foldl (fun r v => r.set v none) ρ
def forL (g : Tg) (b : FS) (dead : List Nat) : List D → FS
  | [], ρ => some (.nx ρ)
  | d :: ds, ρ => match g d ρ with
    | none => none
    | some ρ1 => match b ρ1 with
      | some (.nx ρ2) => forL g b dead ds (forg dead ρ2)
      | some (.ct ρ2) => forL g b dead ds (forg dead ρ2)
      | some (.bk ρ2) => some (.nx ρ2)
      | r => r
abbrev FI := Envr → Option (R (List D))
def sFor (it : FI) (g : Tg) (b : FS) (dead : List Nat) : FS := fun ρ => er (it ρ) fun ds ρ1 => forL g b dead ds ρ1
/-- a while's turns -/
inductive Whl (c : FT) (b : FS) (dead : List Nat) : Envr → SR → Prop
  | done {ρ ρ1} : c ρ = some (.ok false ρ1) → Whl c b dead ρ (.nx ρ1)
  | nx {ρ ρ1 ρ2 r} : c ρ = some (.ok true ρ1) → b ρ1 = some (.nx ρ2) → Whl c b dead (forg dead ρ2) r → Whl c b dead ρ r
  | ct {ρ ρ1 ρ2 r} : c ρ = some (.ok true ρ1) → b ρ1 = some (.ct ρ2) → Whl c b dead (forg dead ρ2) r → Whl c b dead ρ r
  | bk {ρ ρ1 ρ2} : c ρ = some (.ok true ρ1) → b ρ1 = some (.bk ρ2) → Whl c b dead ρ (.nx ρ2)
  | rt {ρ ρ1 o ρ2} : c ρ = some (.ok true ρ1) → b ρ1 = some (.rt o ρ2) → Whl c b dead ρ (.rt o ρ2)
  | ex {ρ ρ1 k f d ρ2} : c ρ = some (.ok true ρ1) → b ρ1 = some (.ex k f d ρ2) → Whl c b dead ρ (.ex k f d ρ2)
  | exc {ρ k f d ρ2} : c ρ = some (.ex k f d ρ2) → Whl c b dead ρ (.ex k f d ρ2)

section
variable {X : Cx} {cm : Str → Addr} {W : WX} {P : List Nat} {K : PySem.W.Frag} {pos : Pos}
/-- what is wanted of a statement's end -/
def SWant (K : PySem.W.Frag) (cm : Str → Addr) (W : WX) (P : List Nat) (D : Ends) (G H : Hp) (σ : L2.St) (fps : Nat → Addr → Prop) (r : SR) : Prop := match r with
    | .nx ρ' => ∀ σ' G' H' fps', Post K P G H σ fps G' H' σ' ρ' fps' → D.nx σ' H'
    | .bk ρ' => ∀ σ' G' H' fps', Post K P G H σ fps G' H' σ' ρ' fps' → D.bk σ' H'
    | .ct ρ' => ∀ σ' G' H' fps', Post K P G H σ fps G' H' σ' ρ' fps' → D.ct σ' H'
    | .rt o ρ' => ∀ v σ' G' H' fps' F, Post K P G H σ fps G' H' σ' ρ' fps' → Got K G' H' fps' v o F → (∀ a, F a → Tot fps a ∨ H a = none) → D.rt v H'
    | .ex k f d ρ' => ∀ σ', WEx K cm W P G H σ fps k f d ρ' σ'
theorem SWant.back {D : Ends} {G H G1 H1 : Hp} {σ σ1 : L2.St} {ρ1 : Envr} {fps fps1 : Nat → Addr → Prop} {r : SR} (q : SWant K cm W P D G H σ fps r) (p : Post K P G H σ fps G1 H1 σ1 ρ1 fps1) : SWant K cm W P D G1 H1 σ1 fps1 r := by
  cases r with
  | nx ρ' => exact fun σ' G' H' fps' p' => q σ' G' H' fps' (p.trans p')
  | bk ρ' => exact fun σ' G' H' fps' p' => q σ' G' H' fps' (p.trans p')
  | ct ρ' => exact fun σ' G' H' fps' p' => q σ' G' H' fps' (p.trans p')
  | rt o ρ' => exact fun v σ' G' H' fps' F p' g s => q v σ' G' H' fps' F (p.trans p') g fun a fa => sub_back p (s a fa)
  | ex k f d ρ' => exact fun σ' => (q σ').back p
theorem ds_run {t : TS} {f : FS} (h : DS K cm W P t f) {G H : Hp} {σ : L2.St} {ρ : Envr} {fps : Nat → Addr → Prop} (ok : Ok K G H σ ρ fps) {r : SR} (e : f ρ = some r) {D : Ends} (q : SWant K cm W P D G H σ fps r) : t D σ H := by
  refine h G H σ ρ fps ok r e D ?_
  cases r <;> exact q
theorem ds_of {t : TS} {f : FS} (h : ∀ G H σ ρ fps, Ok K G H σ ρ fps → ∀ r, f ρ = some r → ∀ D : Ends, SWant K cm W P D G H σ fps r → t D σ H) : DS K cm W P t f := fun G H σ ρ fps ok r e D q => by
  refine h G H σ ρ fps ok r e D ?_
  cases r <;> exact q
/-- an expression within a statement -/
theorem se_bind {t : TE} {f : FE} (h : DE K cm W t f) {D : Ends} {G H : Hp} {σ : L2.St} {ρ : Envr} {fps : Nat → Addr → Prop} (ok : Ok K G H σ ρ fps) {k : LD.D → Envr → Option SR} {r : SR} (e : er (f ρ) k = some r) {Q : VK} (w : SWant K cm W P D G H σ fps r)
    (q : ∀ d ρ1, k d ρ1 = some r → ∀ v G1 H1 fps1, Post K P G H σ fps G1 H1 σ ρ1 fps1 → Rep K G1 v d → Q v H1) : t σ H Q := by
  cases hf : f ρ with
  | none => rw [hf] at e; cases e
  | some r1 =>
    rw [hf] at e
    cases r1 with
    | ok d ρ1 => exact h G H σ ρ fps ok _ hf Q fun v G' H' fps' p r' => q d ρ1 e v G' H' fps' p.any r'
    | ex k f d ρ1 =>
      cases e
      exact h G H σ ρ fps ok _ hf Q (WEx.expr w)
theorem so_bind {t : TE} {f : FO} (h : DO K cm W t f) {D : Ends} {G H : Hp} {σ : L2.St} {ρ : Envr} {fps : Nat → Addr → Prop} (ok : Ok K G H σ ρ fps) {k : OV → Envr → Option SR} {r : SR} (e : er (f ρ) k = some r) {Q : VK} (w : SWant K cm W P D G H σ fps r)
    (q : ∀ o ρ1, k o ρ1 = some r → ∀ v G1 H1 fps1 F, Post K P G H σ fps G1 H1 σ ρ1 fps1 → Got K G1 H1 fps1 v o F → (∀ a, F a → Tot fps a ∨ H a = none) → Q v H1) : t σ H Q := by
  cases hf : f ρ with
  | none => rw [hf] at e; cases e
  | some r1 =>
    rw [hf] at e
    cases r1 with
    | ok d ρ1 => exact h G H σ ρ fps ok _ hf Q fun v G' H' fps' F p r' s => q d ρ1 e v G' H' fps' F p.any r' s
    | ex k f d ρ1 =>
      cases e
      exact h G H σ ρ fps ok _ hf Q (WEx.expr w)
theorem st_bind {t : TT} {f : FT} (h : DT K cm W t f) {D : Ends} {G H : Hp} {σ : L2.St} {ρ : Envr} {fps : Nat → Addr → Prop} (ok : Ok K G H σ ρ fps) {k : Bool → Envr → Option SR} {r : SR} (e : er (f ρ) k = some r) {Q : Bool → Hp → Prop} (w : SWant K cm W P D G H σ fps r)
    (q : ∀ d ρ1, k d ρ1 = some r → ∀ G1 H1 fps1, Post K P G H σ fps G1 H1 σ ρ1 fps1 → Q d H1) : t σ H Q := by
  cases hf : f ρ with
  | none => rw [hf] at e; cases e
  | some r1 =>
    rw [hf] at e
    cases r1 with
    | ok d ρ1 => exact h G H σ ρ fps ok _ hf Q fun G' H' fps' p => q d ρ1 e G' H' fps' p.any
    | ex k f d ρ1 =>
      cases e
      exact h G H σ ρ fps ok _ hf Q (WEx.expr w)
theorem ds_nop : DS K cm W P tNext sNop := ds_of fun G H σ ρ fps ok r e D q => by
  cases e
  exact q σ G H fps (.refl ok)
theorem ds_brk : DS K cm W P tBreak sBrk := ds_of fun G H σ ρ fps ok r e D q => by
  cases e
  exact q σ G H fps (.refl ok)
theorem ds_cnt : DS K cm W P tCont sCnt := ds_of fun G H σ ρ fps ok r e D q => by
  cases e
  exact q σ G H fps (.refl ok)
theorem ds_seq {t u : TS} {f g : FS} (h : DS K cm W P t f) (h' : DS K cm W P u g) : DS K cm W P (tSeq t u) (sSeq f g) := ds_of fun G H σ ρ fps ok r e D q => by
  unfold sSeq at e
  cases hf : f ρ with
  | none => rw [hf] at e; cases e
  | some r1 =>
    rw [hf] at e
    cases r1 with
    | nx ρ1 => exact ds_run h ok hf fun σ1 G1 H1 fps1 p => ds_run h' p.ok e (q.back p)
    | rt o ρ1 => cases e; exact ds_run h ok hf q
    | bk ρ1 => cases e; exact ds_run h ok hf q
    | ct ρ1 => cases e; exact ds_run h ok hf q
    | ex k f d ρ1 => cases e; exact ds_run h ok hf q
/-- a slot takes a value that has just come -/
theorem Post.setSlot {G H G1 H1 : Hp} {σ : L2.St} {ρ1 : Envr} {fps fps1 : Nat → Addr → Prop} {v : V} {o : OV} {F : Addr → Prop} {i : Nat} (p : Post K P G H σ fps G1 H1 σ ρ1 fps1) (g : Got K G1 H1 fps1 v o F) (s : ∀ a, F a → Tot fps a ∨ H a = none) (hi : i < σ.length) (hP : i ∉ P) :
    Post K P G H σ fps G1 H1 (σ.set i (some v)) (ρ1.set i (some o)) (fun j a => if j = i then F a else fps1 j a) := by
  refine ⟨p.ok.set g hi, p.frm, fun a ⟨j, t⟩ => ?_, fun j hj => ?_⟩
  · by_cases q : j = i
    · simp [q] at t; exact s a t
    · simp [q] at t; exact p.sub a ⟨j, t⟩
  · rw [List.getElem?_set_ne fun q => hP (by rw [q]; exact hj)]
theorem ds_set {i : Nat} {t : TE} {f : FO} (h : DO K cm W t f) (hP : i ∉ P) : DS K cm W P (tAsg t (gName i)) (sSet i f) := ds_of fun G H σ ρ fps ok r e D q => by
  refine so_bind h ok e q fun o ρ1 e1 v G1 H1 fps1 F p g s => ?_
  split at e1
  · rename_i hi
    cases e1
    exact q _ _ _ _ (p.setSlot g s (by rw [p.ok.len]; exact hi) hP)
  · cases e1
theorem ds_expr {t : TE} {f : FO} (h : DO K cm W t f) : DS K cm W P (tDrop t) (sExpr f) := ds_of fun G H σ ρ fps ok r e D q => by
  refine so_bind h ok e q fun o ρ1 e1 v G1 H1 fps1 F p g s => ?_
  cases e1
  exact q _ _ _ _ p
theorem ds_ret {t : TE} {f : FO} (h : DO K cm W t f) : DS K cm W P (tRet t) (sRet f) := ds_of fun G H σ ρ fps ok r e D q => by
  refine so_bind h ok e q fun o ρ1 e1 v G1 H1 fps1 F p g s => ?_
  cases e1
  exact q _ _ _ _ _ _ p g s
theorem ds_retN : DS K cm W P tRetN sRetN := ds_of fun G H σ ρ fps ok r e D q => by
  cases e
  exact q .non σ G H fps (fun _ => False) (.refl ok) (.fz .non) fun _ f => f.elim
theorem ds_if {c : TT} {t u : TS} {fc : FT} {f g : FS} (hc : DT K cm W c fc) (h : DS K cm W P t f) (h' : DS K cm W P u g) : DS K cm W P (tIfS c t u) (sIf fc f g) := ds_of fun G H σ ρ fps ok r e D q => by
  refine st_bind hc ok e q fun b ρ1 e1 G1 H1 fps1 p => ?_
  cases b with
  | true => exact iteT (ds_run h p.ok e1 (q.back p))
  | false => exact iteF (ds_run h' p.ok e1 (q.back p))

/-! ### targets -/
def DG (K : PySem.W.Frag) (P : List Nat) (t : TG) (g : Tg) : Prop := ∀ G H σ ρ fps, Ok K G H σ ρ fps → ∀ v d ρ', Rep K G v d → g d ρ = some ρ' → ∀ Q : L2.St → Hp → Prop, (∀ σ' fps', Post K P G H σ fps G H σ' ρ' fps' → σ'.length = σ.length → Q σ' H) → t v σ H Q
def DGs (K : PySem.W.Frag) (P : List Nat) (t : TGs) (g : Tgs) : Prop := ∀ G H σ ρ fps, Ok K G H σ ρ fps → ∀ vs ds ρ', RepAll K G vs ds → g ds ρ = some ρ' → ∀ Q : L2.St → Hp → Prop, (∀ σ' fps', Post K P G H σ fps G H σ' ρ' fps' → σ'.length = σ.length → Q σ' H) → t vs σ H Q
structure Gx (X : Cx) (P : List Nat) (e : Expr) (t : TG) (g : Tg) : Prop where
  pe : PG X e t
  de : DG X.K P t g
structure Gsx (X : Cx) (P : List Nat) (e : List Expr) (t : TGs) (g : Tgs) : Prop where
  pe : PGs X e t
  de : DGs X.K P t g
theorem dg_N {i : Nat} (hP : i ∉ P) : DG K P (gName i) (gN i) := by
  intro G H σ ρ fps ok v d ρ' r e Q q
  unfold gN at e
  split at e
  · rename_i hi
    cases e
    exact q _ _ ((Post.refl ok).setSlot (.fz r) (fun _ f => f.elim) (by rw [ok.len]; exact hi) hP) (List.length_set ..)
  · cases e
theorem dgs_nil : DGs K P gNil gsNil := by
  intro G H σ ρ fps ok vs ds ρ' r e Q q
  cases r with
  | nil => cases e; exact ⟨rfl, q σ fps (.refl ok) rfl⟩
  | cons _ _ => cases e
theorem dgs_cons {t : TG} {u : TGs} {g : Tg} {h : Tgs} (h1 : DG K P t g) (h2 : DGs K P u h) : DGs K P (gCons t u) (gsCons g h) := by
  intro G H σ ρ fps ok vs ds ρ' r e Q q
  cases r with
  | nil => cases e
  | @cons v vs d ds r rr =>
    have e : (g d ρ).bind (h ds) = some ρ' := e
    cases hg : g d ρ with
    | none => rw [hg] at e; cases e
    | some ρ1 =>
      rw [hg] at e
      exact ⟨v, vs, rfl, h1 G H σ ρ fps ok v d ρ1 r hg _ fun σ1 fps1 p l1 => h2 G H σ1 ρ1 fps1 p.ok vs ds ρ' rr e Q fun σ2 fps2 p2 l2 => q σ2 fps2 (p.trans p2) (l2.trans l1)⟩
theorem gs_len : ∀ (n : Nat), True := fun _ => True.intro
/-- a tuple taken apart; n: how many -/
def gTn (n : Nat) (h : Tgs) : Tg := fun d ρ => match d with
  | .tup ds => if ds.length = n then h ds ρ else none
  | _ => none
theorem dg_T {n : Nat} {t : TGs} {h : Tgs} (h2 : DGs K P t h) : DG K P (gTup K n t) (gTn n h) := by
  intro G H σ ρ fps ok v d ρ' r e Q q
  cases r <;> first | (cases e; done) | skip
  rename_i a xs ds h1 h3
  have e : (if ds.length = n then h ds ρ else none) = some ρ' := e
  split at e
  · rename_i hl
    exact ⟨a, xs, rfl, sqt_ex ok.ex h1, by rw [h3.length]; exact hl, h2 G H σ ρ fps ok xs ds ρ' h3 e Q q⟩
  · cases e
theorem ds_asg {t : TE} {f : FE} {tg : TG} {g : Tg} (h : DE K cm W t f) (hg : DG K P tg g) : DS K cm W P (tAsg t tg) (sAsg f g) := ds_of fun G H σ ρ fps ok r e D q => by
  refine se_bind h ok e q fun d ρ1 e1 v G1 H1 fps1 p rv => ?_
  cases hq : g d ρ1 with
  | none => rw [hq] at e1; cases e1
  | some ρ2 =>
    rw [hq] at e1
    cases e1
    exact hg G1 H1 σ ρ1 fps1 p.ok v d ρ2 rv hq _ fun σ2 fps2 p2 _ => q _ _ _ _ (p.trans p2)
theorem gx_N {i : Nat} {x : Str} (hN : X.N.Nodup) (hP : i ∉ P) (hi : X.N[i]? = some x := by rfl) (hx : Loc X.env.scope x := by first | exact Or.inl rfl | exact Or.inr rfl) (hf : X.fn x = true ∨ X.env.scope.names.lookup x = some .local := by first | exact .inl rfl | exact .inr rfl) : Gx X P (.Name x pos) (gName i) (gN i) := ⟨pg_name hN hi hx hf, dg_N hP⟩
theorem gsx_nil : Gsx X P [] gNil gsNil := ⟨pgs_nil, dgs_nil⟩
theorem gsx_cons {e : Expr} {es : List Expr} {t : TG} {u : TGs} {g : Tg} {h : Tgs} (h1 : Gx X P e t g) (h2 : Gsx X P es u h)
    (hs : (assignEach (e :: es) X.env).map (·.2) = assign e X.env :: (assignEach es X.env).map (·.2) := by rfl) : Gsx X P (e :: es) (gCons t u) (gsCons g h) := ⟨pgs_cons h1.pe h2.pe hs, dgs_cons h1.de h2.de⟩
theorem gx_T {es : List Expr} {k : Nat} {t : TGs} {h : Tgs} {n : Nat} (hc : X.calm = true) (hh : Gsx X P es t h) (hn : (assignEach es X.env).length = n := by rfl) (hst : (assignEach es X.env).findIdx? (·.1) = none := by rfl) : Gx X P (.Tuple es k pos) (gTup X.K n t) (gTn n h) := ⟨pg_tup hc hh.pe hn hst, dg_T hh.de⟩

/-! ### the rules -/
section
variable {e c : Expr} {a b : List Stmt} {te : TE} {fo : FO} {fe : FE} {st : Stmt} {rest : List Stmt} {t u : TS} {f g : FS}
theorem sx_set {i : Nat} {x : Str} {pos' : Pos} (he : Ox X cm W e te fo) (hN : X.N.Nodup) (hP : i ∉ P) (hi : X.N[i]? = some x := by rfl) (hx : Loc X.env.scope x := by first | exact Or.inl rfl | exact Or.inr rfl) (hs : swapsWith e (some (.Name x pos')) pos.line X.env = pure false := by rfl)
    (hf : X.fn x = true ∨ X.env.scope.names.lookup x = some .local := by first | exact .inl rfl | exact .inr rfl) : Sx X cm W P (.Assign [.Name x pos'] e pos) (tAsg te (gName i)) (sSet i fo) := ⟨ps_set hN hi hx he.pe hs hf, ds_set he.de hP⟩
theorem sx_asg {tg : Expr} {tt : TG} {gg : Tg} (he : Dx X cm W e te fe) (hg : Gx X P tg tt gg) (hs : swapsWithSole [tg] e pos.line X.env = pure false := by rfl) (hw : swappedStores [tg] e X.env = pure none := by rfl)
    (h1 : (assignEach [tg] X.env).map (·.2) = [assign tg X.env] := by rfl) : Sx X cm W P (.Assign [tg] e pos) (tAsg te tt) (sAsg fe gg) := ⟨ps_asg he.pe hg.pe hs hw h1, ds_asg he.de hg.de⟩
theorem sx_expr (he : Ox X cm W e te fo) (hs : swapsWith e none pos.line X.env = pure false := by rfl) : Sx X cm W P (.Expr e pos) (tDrop te) (sExpr fo) := ⟨ps_expr he.pe hs, ds_expr he.de⟩
theorem sx_ret (he : Ox X cm W e te fo) : Sx X cm W P (.Return (some e) pos) (tRet te) (sRet fo) := ⟨ps_ret he.pe, ds_ret he.de⟩
theorem sx_retN : Sx X cm W P (.Return none pos) tRetN sRetN := ⟨ps_retN, ds_retN⟩
theorem sx_if {tc : TT} {fc : FT} (hc : Tx X cm W c tc fc) (ha : Bx X cm W P a t f) (hb : Bx X cm W P b u g) : Sx X cm W P (.If c a b pos) (tIfS tc t u) (sIf fc f g) := ⟨ps_if hc.pe ha.pe hb.pe, ds_if hc.de ha.de hb.de⟩
theorem sx_pass : Sx X cm W P (.Pass pos) tNext sNop := ⟨ps_pass, ds_nop⟩
theorem sx_brk : Sx X cm W P (.Break pos) tBreak sBrk := ⟨ps_break, ds_brk⟩
theorem sx_cnt : Sx X cm W P (.Continue pos) tCont sCnt := ⟨ps_continue, ds_cnt⟩
theorem bx_nil : Bx X cm W P [] tNext sNop := ⟨pss_nil, ds_nop⟩
theorem bx_cons (h : Sx X cm W P st t f) (h' : Bx X cm W P rest u g) : Bx X cm W P (st :: rest) (tSeq t u) (sSeq f g) := ⟨pss_cons h.pe h'.pe, ds_seq h.de h'.de⟩
theorem bx_one (h : Sx X cm W P st t f) : Bx X cm W P [st] t f := ⟨pss_one h.pe, h.de⟩
end
end
end LD

end
section
set_option Elab.async false
set_option linter.all false
set_option maxRecDepth 100000
set_option maxHeartbeats 4000000
namespace LD
open PySem PySem.Spec PyProof.Rows L2

/-! ### what is walked -/
/-- while (G, H) stands, J yields what ds tells -/
structure ItOk (K : PySem.W.Frag) (J : It) (ds : List D) (G : Hp) : Prop where
  go : ∀ i G1 H1, Ex G G1 → Ex G1 H1 → i < ds.length → J.go i H1
  stop : ∀ G1 H1, Ex G G1 → Ex G1 H1 → J.stop ds.length H1
  yld : ∀ i G1 H1 x H2, Ex G G1 → Ex G1 H1 → i < ds.length → J.yld i H1 x H2 → ∃ G2 d, Alloc G1 H1 G2 H2 ∧ ds[i]? = some d ∧ Rep K G2 x d
def DI (K : PySem.W.Frag) (cm : Str → Addr) (W : WX) (t : TI) (f : FI) : Prop := ∀ G H σ ρ fps, Ok K G H σ ρ fps → ∀ r, f ρ = some r → ∀ Q : It → Hp → Prop,
  (match r with
    | .ok ds ρ' => ∀ J G' H' fps', Post K [] G H σ fps G' H' σ ρ' fps' → ItOk K J ds G' → Q J H'
    | .ex k f d ρ' => WEx K cm W [] G H σ fps k f d ρ' σ) → t σ H Q
structure Ix (X : Cx) (cm : Str → Addr) (W : WX) (tg e : Expr) (t : TI) (f : FI) : Prop where
  pe : PI X tg e t
  de : DI X.K cm W t f
section
variable {X : Cx} {cm : Str → Addr} {W : WX} {P : List Nat} {K : PySem.W.Frag} {pos p : Pos} {G H : Hp} {σ : L2.St} {ρ : Envr} {fps : Nat → Addr → Prop} {J : It} {ds : List D}
theorem ItOk.of_at {xs : List V} {C : Hp → Prop} (w : Walk J xs.length C (YAt xs)) (hC : ∀ H1, Ex G H1 → C H1) (r : RepAll K G xs ds) : ItOk K J ds G := by
  have hl := r.length
  refine ⟨fun i G1 H1 e1 e2 h => w.goes i H1 (by rw [hl]; exact h) (hC H1 (e1.trans e2)), fun G1 H1 e1 e2 => by rw [← hl]; exact w.stops H1 (hC H1 (e1.trans e2)), fun i G1 H1 x H2 e1 e2 h y => ?_⟩
  obtain ⟨rfl, hx⟩ := w.yields i H1 x H2 (by rw [hl]; exact h) (hC H1 (e1.trans e2)) y
  refine ⟨G1, ds[i], .refl e2, by simp [h], ?_⟩
  obtain ⟨v, e, rv⟩ := r.get (i := i) (d := ds[i]) (by simp [h])
  rw [hx] at e
  cases e
  exact rv.mono e1
theorem di_list {t : TE} {f : FE} (h : DE K cm W t f) : DI K cm W (iList K t) (fun ρ => rb (f ρ) fun d ρ1 => match d with
    | .lst ds => some (.ok ds ρ1)
    | _ => none) := by
  intro G H σ ρ fps ok r e Q q
  refine de_bind (P := []) h ok e (fun d ρ1 e1 v G1 H1 fps1 p g => ?_) fun k f d ρ' e1 => by rw [e1] at q; exact q
  cases g <;> first | (cases e1; done) | skip
  rename_i a xs ds h1 h2
  cases e1
  exact ⟨a, rfl, ⟨xs, Or.inl (Or.inl (p.ok.ex _ _ h1))⟩, q _ G1 H1 fps1 p (ItOk.of_at walk_list (fun H2 e2 => Or.inl (Or.inl (e2 _ _ h1))) h2)⟩
theorem di_tup {t : TE} {f : FE} (h : DE K cm W t f) : DI K cm W (iTup K t) (fun ρ => rb (f ρ) fun d ρ1 => match d with
    | .tup ds => some (.ok ds ρ1)
    | _ => none) := by
  intro G H σ ρ fps ok r e Q q
  refine de_bind (P := []) h ok e (fun d ρ1 e1 v G1 H1 fps1 p g => ?_) fun k f d ρ' e1 => by rw [e1] at q; exact q
  cases g <;> first | (cases e1; done) | skip
  rename_i a xs ds h1 h2
  cases e1
  exact ⟨a, rfl, ⟨xs, sqt_ex p.ok.ex h1⟩, q _ G1 H1 fps1 p (ItOk.of_at walk_tup (fun H2 e2 => sqt_ex e2 h1) h2)⟩
/-- lo, lo + 1, .. n of them -/
def rng (lo : Int) (n : Nat) : List D := (List.range n).map fun (i : Nat) => D.int (lo + i)
theorem ItOk.range {lo : Int} {n : Nat} : ItOk K (Itr lo n) (rng lo n) G := by
  refine ⟨fun i G1 H1 e1 e2 h => ?_, fun G1 H1 e1 e2 => ?_, fun i G1 H1 x H2 e1 e2 h y => ?_⟩
  · show i < n
    simpa [rng] using h
  · show n ≤ (rng lo n).length
    simp [rng]
  · obtain ⟨rfl, rfl⟩ := y
    refine ⟨G1, .int (lo + i), .refl e2, ?_, .int _⟩
    have h : i < n := by simpa [rng] using h
    unfold rng
    rw [List.getElem?_map, List.getElem?_range h]
    rfl
def iR1 : List D → Option (List D)
  | [.int j] => if -(2 ^ 62) ≤ j ∧ j < 2 ^ 62 then some (rng 0 j.toNat) else none
  | _ => none
def iR2 : List D → Option (List D)
  | [.int i, .int j] => if -(2 ^ 62) ≤ i ∧ i < 2 ^ 62 ∧ -(2 ^ 62) ≤ j ∧ j < 2 ^ 62 then some (rng i (j - i).toNat) else none
  | _ => none
def iA (g : List D → Option (List D)) (f : FA) : FI := fun ρ => rb (f ρ) fun ds ρ1 => (g ds).map (.ok · ρ1)
theorem di_r1 {t : TA} {f : FA} (h : DA K cm W t f) : DI K cm W (iRng1 t) (iA iR1 f) := by
  intro G H σ ρ fps ok r e Q q
  refine da_bind (P := []) h ok e (fun d ρ1 e1 v G1 H1 fps1 p g => ?_) fun k f d ρ' e1 => by rw [e1] at q; exact q
  cases hg : iR1 d with
  | none => simp only [hg] at e1; cases e1
  | some ds =>
    simp only [hg] at e1
    cases e1
    unfold iR1 at hg
    split at hg
    · rename_i j
      split at hg
      · rename_i c
        cases hg
        cases g with
        | cons r1 rr =>
          cases rr
          cases r1
          exact ⟨j, rfl, c.1, c.2, q _ G1 H1 fps1 p .range⟩
      · cases hg
    · cases hg
theorem di_r2 {t : TA} {f : FA} (h : DA K cm W t f) : DI K cm W (iRng2 t) (iA iR2 f) := by
  intro G H σ ρ fps ok r e Q q
  refine da_bind (P := []) h ok e (fun d ρ1 e1 v G1 H1 fps1 p g => ?_) fun k f d ρ' e1 => by rw [e1] at q; exact q
  cases hg : iR2 d with
  | none => simp only [hg] at e1; cases e1
  | some ds =>
    simp only [hg] at e1
    cases e1
    unfold iR2 at hg
    split at hg
    · rename_i i j
      split at hg
      · rename_i c
        cases hg
        cases g with
        | cons r1 rr =>
          cases rr with
          | cons r2 rr =>
            cases rr
            cases r1
            cases r2
            exact ⟨i, j, rfl, c, q _ G1 H1 fps1 p .range⟩
      · cases hg
    · cases hg
/-- pairs that are made at each turn -/
theorem ItOk.of_pair {n : Nat} {C : Hp → Prop} {xs ys : Nat → Option V} (w : Walk J n C (YPair xs ys)) (hn : n = ds.length) (hC : ∀ H1, Ex G H1 → C H1) (r : ∀ i x y, i < n → xs i = some x → ys i = some y → ∃ d e, ds[i]? = some (.tup [d, e]) ∧ Rep K G x d ∧ Rep K G y e) : ItOk K J ds G := by
  subst hn
  refine ⟨fun i G1 H1 e1 e2 h => w.goes i H1 h (hC H1 (e1.trans e2)), fun G1 H1 e1 e2 => w.stops H1 (hC H1 (e1.trans e2)), fun i G1 H1 v H2 e1 e2 h y => ?_⟩
  obtain ⟨T, x, z, rfl, hT, rfl, hx, hy⟩ := w.yields i H1 v H2 h (hC H1 (e1.trans e2)) y
  obtain ⟨d, e, hd, rx, ry⟩ := r i x z h hx hy
  have ee := Ex.new (o := .tup [x, z]) (e2.none hT)
  exact ⟨upd G1 T (.tup [x, z]), .tup [d, e], .newG e2 hT, hd, .tup (.inl (.inl upd_same)) (.cons ((rx.mono e1).mono ee) (.cons ((ry.mono e1).mono ee) .nil))⟩
def enumD : Nat → List D → List D
  | _, [] => []
  | n, d :: ds => .tup [.int n, d] :: enumD (n + 1) ds
theorem enumD_length : ∀ (ds : List D) (n : Nat), (enumD n ds).length = ds.length
  | [], _ => rfl
  | d :: ds, n => by unfold enumD; rw [List.length_cons, List.length_cons, enumD_length ds]
theorem enumD_get : ∀ (ds : List D) (n i : Nat) (d : D), ds[i]? = some d → (enumD n ds)[i]? = some (.tup [.int ((n + i : Nat) : Int), d])
  | [], _, _, _, h => by simp at h
  | e :: ds, n, 0, d, h => by
    simp at h
    subst h
    rfl
  | e :: ds, n, i + 1, d, h => by
    have := enumD_get ds (n + 1) i d (by simpa using h)
    show (enumD (n + 1) ds)[i]? = _
    rw [this, show n + 1 + i = n + (i + 1) by omega]
theorem ItOk.enum {a : Addr} {xs : List V} (hx : G a = some (.lst xs)) (r : RepAll K G xs ds) : ItOk K (Ite K a) (enumD 0 ds) G :=
  ItOk.of_pair walk_enum (by rw [enumD_length]; exact r.length) (fun H1 e => Or.inl (Or.inl (e _ _ hx))) fun i x y hi h1 h2 => by
    cases h1
    have hi' : i < ds.length := by rw [← r.length]; exact hi
    obtain ⟨v, e, rv⟩ := r.get (i := i) (d := ds[i]) (by simp [hi'])
    have h2 : xs[i]? = some y := h2
    rw [h2] at e
    cases e
    refine ⟨.int i, ds[i], ?_, .int _, rv⟩
    rw [enumD_get ds 0 i ds[i] (by simp [hi']), Nat.zero_add]
def iEn : List D → Option (List D)
  | [.lst ds] => some (enumD 0 ds)
  | _ => none
theorem di_enum {t : TA} {f : FA} (h : DA K cm W t f) : DI K cm W (iEnum K t) (iA iEn f) := by
  intro G H σ ρ fps ok r e Q q
  refine da_bind (P := []) h ok e (fun d ρ1 e1 v G1 H1 fps1 p g => ?_) fun k f d ρ' e1 => by rw [e1] at q; exact q
  cases hg : iEn d with
  | none => simp only [hg] at e1; cases e1
  | some ds =>
    simp only [hg] at e1
    cases e1
    unfold iEn at hg
    split at hg
    · cases hg
      cases g with
      | cons r1 rr =>
        cases rr
        cases r1 with
        | @lst a xs ds h1 h2 => exact ⟨a, xs, rfl, Or.inl (Or.inl (p.ok.ex _ _ h1)), q _ G1 H1 fps1 p (.enum h1 h2)⟩
    · cases hg

/-! ### for -/
theorem ok_forg {vs : List Nat} (h : Ok K G H σ ρ fps) : Ok K G H σ (forg vs ρ) fps := by
  unfold forg
  induction vs generalizing ρ with
  | nil => exact h
  | cons v vs ih => exact ih (h.drop v)
theorem Post.forg {G1 H1 : Hp} {σ1 : L2.St} {fps1 : Nat → Addr → Prop} {vs : List Nat} (p : Post K P G H σ fps G1 H1 σ1 ρ fps1) : Post K P G H σ fps G1 H1 σ1 (forg vs ρ) fps1 := ⟨ok_forg p.ok, p.frm, p.sub, p.pr⟩
theorem drop_cons {α : Type} {xs : List α} {i : Nat} {x : α} (h : xs[i]? = some x) : xs.drop i = x :: xs.drop (i + 1) := by
  have hi := (List.getElem?_eq_some_iff.mp h).1
  rw [List.drop_eq_getElem_cons hi]
  have := (List.getElem?_eq_some_iff.mp h).2
  rw [this]
theorem ds_for {wi : TI} {fi : FI} {tg : TG} {g : Tg} {tb : TS} {fb : FS} {dead : List Nat} (hi : DI K cm W wi fi) (hg : DG K P tg g) (hb : DS K cm W P tb fb) : DS K cm W P (tFor wi tg tb) (sFor fi g fb dead) := ds_of fun G H σ ρ fps ok r e D q => by
  unfold sFor at e
  cases hf : fi ρ with
  | none => rw [hf] at e; cases e
  | some r1 =>
    rw [hf] at e
    cases r1 with
    | ex k f d ρ1 =>
      cases e
      exact hi G H σ ρ fps ok _ hf _ (WEx.expr q)
    | ok ds ρ1 =>
      have e : forL g fb dead ds ρ1 = some r := e
      refine hi G H σ ρ fps ok _ hf _ fun J G1 H1 fps1 p w => ?_
      have p : Post K P G H σ fps G1 H1 σ ρ1 fps1 := p.any
      refine ⟨fun i m σ2 H2 => m = ds.length - i ∧ i ≤ ds.length ∧ ∃ G2 ρ2 fps2, Post K P G1 H1 σ fps1 G2 H2 σ2 ρ2 fps2 ∧ forL g fb dead (ds.drop i) ρ2 = some r, ⟨_, rfl, Nat.zero_le _, G1, ρ1, fps1, .refl p.ok, by simpa using e⟩, ?_⟩
      rintro i m σ2 H2 ⟨rfl, hle, G2, ρ2, fps2, p2, e2⟩
      have pp := p.trans p2
      by_cases hlt : i < ds.length
      · refine .inr ⟨w.go i G2 H2 p2.frm.ex p2.ok.ex hlt, fun σ' H' => ∃ G3 ρ3 fps3, Post K P G1 H1 σ fps1 G3 H' σ' ρ3 fps3 ∧ forL g fb dead (ds.drop (i + 1)) ρ3 = some r, fun σ' H' ⟨G3, ρ3, fps3, p3, e3⟩ => ⟨ds.length - (i + 1), by omega, rfl, hlt, G3, ρ3, fps3, p3, e3⟩, fun x H' y => ?_⟩
        obtain ⟨G3, d, al, hd, rx⟩ := w.yld i G2 H2 x H' p2.frm.ex p2.ok.ex hlt y
        rw [drop_cons hd] at e2
        unfold forL at e2
        have p3 := al.post (P := P) p2.ok
        cases hq : g d ρ2 with
        | none => rw [hq] at e2; cases e2
        | some ρ3 =>
          rw [hq] at e2
          refine hg G3 H' σ2 ρ2 fps2 p3.ok x d ρ3 rx hq _ fun σ4 fps4 p4 _ => ?_
          have e2 : (match fb ρ3 with
            | some (.nx ρ2) => forL g fb dead (ds.drop (i + 1)) (LD.forg dead ρ2)
            | some (.ct ρ2) => forL g fb dead (ds.drop (i + 1)) (LD.forg dead ρ2)
            | some (.bk ρ2) => some (.nx ρ2)
            | r => r) = some r := e2
          cases hr : fb ρ3 with
          | none => rw [hr] at e2; cases e2
          | some r3 =>
            rw [hr] at e2
            have p24 := (p2.trans p3).trans p4
            cases r3 with
            | nx ρ5 => exact ds_run hb p4.ok hr fun σ5 G5 H5 fps5 p5 => ⟨G5, _, fps5, (p24.trans p5).forg, e2⟩
            | ct ρ5 => exact ds_run hb p4.ok hr fun σ5 G5 H5 fps5 p5 => ⟨G5, _, fps5, (p24.trans p5).forg, e2⟩
            | bk ρ5 =>
              cases e2
              exact ds_run hb p4.ok hr fun σ5 G5 H5 fps5 p5 => q σ5 G5 H5 fps5 (p.trans (p24.trans p5))
            | rt o ρ5 =>
              cases e2
              exact ds_run hb p4.ok hr ((SWant.back (r := .rt o ρ5) (D := D) q (p.trans p24)))
            | ex k f d ρ5 =>
              cases e2
              exact ds_run hb p4.ok hr ((SWant.back (r := .ex k f d ρ5) (D := D) q (p.trans p24)))
      · have hh : i = ds.length := by omega
        subst hh
        rw [List.drop_length] at e2
        cases e2
        exact .inl ⟨w.stop G2 H2 p2.frm.ex p2.ok.ex, q σ2 G2 H2 fps2 pp⟩
theorem sx_for {iter tgt : Expr} {body : List Stmt} {wi : TI} {fi : FI} {tg : TG} {g : Tg} {tb : TS} {fb : FS} {dead : List Nat} (hp : PassesOwn (model X.prog X.w) X.A X.env X.xe) (hc : X.calm = true) (hi : Ix X cm W tgt iter wi fi) (hg : Gx X P tgt tg g) (hb : Bx X cm W P body tb fb)
    (hs : ∀ x, foldedSetIterable iter X.env x = pure x := by intro _; rfl) : Sx X cm W P (.For tgt iter body [] pos) (tFor wi tg tb) (sFor fi g fb dead) := ⟨ps_for hp hc hi.pe hg.pe hb.pe hs, ds_for hi.de hg.de hb.de⟩

/-! ### while -/
def sWhl (c : FT) (b : FS) (dead : List Nat) (f : FS) : Prop := ∀ ρ r, f ρ = some r → Whl c b dead ρ r
/-- the height of a while's run -/
theorem whl_nat {c : FT} {b : FS} {dead : List Nat} {ρ : Envr} {r : SR} (h : Whl c b dead ρ r) : ∃ n : Nat, ∃ R : Nat → Envr → Prop, R n ρ ∧ ∀ n ρ, R n ρ → Whl c b dead ρ r ∧ (∀ ρ1 ρ2, c ρ = some (.ok true ρ1) → (b ρ1 = some (.nx ρ2) ∨ b ρ1 = some (.ct ρ2)) → ∃ m, m < n ∧ R m (forg dead ρ2)) := by
  induction h with
  | @done ρ ρ1 h1 => exact ⟨0, fun n ρ' => ρ' = ρ, rfl, fun n ρ' e => by subst e; exact ⟨.done h1, fun ρ1 ρ2 h _ => by rw [h1] at h; cases h⟩⟩
  | @nx ρ ρ1 ρ2 r h1 h2 h3 ih =>
    obtain ⟨n, R, h, k⟩ := ih
    refine ⟨n + 1, fun m ρ' => R m ρ' ∨ (m = n + 1 ∧ ρ' = ρ), .inr ⟨rfl, rfl⟩, fun m ρ' hh => ?_⟩
    rcases hh with hh | ⟨rfl, rfl⟩
    · obtain ⟨w, z⟩ := k m ρ' hh
      exact ⟨w, fun ρ3 ρ4 a b => let ⟨m', l, x⟩ := z ρ3 ρ4 a b; ⟨m', l, .inl x⟩⟩
    · refine ⟨.nx h1 h2 h3, fun ρ3 ρ4 a b => ?_⟩
      rw [h1] at a
      cases a
      rw [h2] at b
      rcases b with b | b
      · cases b; exact ⟨n, by omega, .inl h⟩
      · cases b
  | @ct ρ ρ1 ρ2 r h1 h2 h3 ih =>
    obtain ⟨n, R, h, k⟩ := ih
    refine ⟨n + 1, fun m ρ' => R m ρ' ∨ (m = n + 1 ∧ ρ' = ρ), .inr ⟨rfl, rfl⟩, fun m ρ' hh => ?_⟩
    rcases hh with hh | ⟨rfl, rfl⟩
    · obtain ⟨w, z⟩ := k m ρ' hh
      exact ⟨w, fun ρ3 ρ4 a b => let ⟨m', l, x⟩ := z ρ3 ρ4 a b; ⟨m', l, .inl x⟩⟩
    · refine ⟨.ct h1 h2 h3, fun ρ3 ρ4 a b => ?_⟩
      rw [h1] at a
      cases a
      rw [h2] at b
      rcases b with b | b
      · cases b
      · cases b; exact ⟨n, by omega, .inl h⟩
  | @bk ρ ρ1 ρ2 h1 h2 => exact ⟨0, fun n ρ' => ρ' = ρ, rfl, fun n ρ' e => by subst e; exact ⟨.bk h1 h2, fun ρ3 ρ4 a b => by rw [h1] at a; cases a; rw [h2] at b; rcases b with b | b <;> cases b⟩⟩
  | @rt ρ ρ1 o ρ2 h1 h2 => exact ⟨0, fun n ρ' => ρ' = ρ, rfl, fun n ρ' e => by subst e; exact ⟨.rt h1 h2, fun ρ3 ρ4 a b => by rw [h1] at a; cases a; rw [h2] at b; rcases b with b | b <;> cases b⟩⟩
  | @ex ρ ρ1 k f d ρ2 h1 h2 => exact ⟨0, fun n ρ' => ρ' = ρ, rfl, fun n ρ' e => by subst e; exact ⟨.ex h1 h2, fun ρ3 ρ4 a b => by rw [h1] at a; cases a; rw [h2] at b; rcases b with b | b <;> cases b⟩⟩
  | @exc ρ k f d ρ2 h1 => exact ⟨0, fun n ρ' => ρ' = ρ, rfl, fun n ρ' e => by subst e; exact ⟨.exc h1, fun ρ3 ρ4 a b => by rw [h1] at a; cases a⟩⟩
theorem ds_whl {tc : TT} {c : FT} {tb : TS} {b : FS} {dead : List Nat} {f : FS} (hc : DT K cm W tc c) (hb : DS K cm W P tb b) (hw : sWhl c b dead f) : DS K cm W P (tWhile tc tb) f := ds_of fun G H σ ρ fps ok r e D q => by
  obtain ⟨n, R, h0, hk⟩ := whl_nat (hw ρ r e)
  refine ⟨fun m σ1 H1 => ∃ G1 ρ1 fps1, Post K P G H σ fps G1 H1 σ1 ρ1 fps1 ∧ R m ρ1, ⟨n, G, ρ, fps, .refl ok, h0⟩, ?_⟩
  rintro m σ1 H1 ⟨G1, ρ1, fps1, p1, hR⟩
  obtain ⟨w, step⟩ := hk m ρ1 hR
  have q1 := SWant.back q p1
  cases hcr : c ρ1 with
  | none => cases w <;> simp_all
  | some cr =>
    cases cr with
    | ex k f d ρ2 =>
      have hr : r = .ex k f d ρ2 := by cases w <;> simp_all
      subst hr
      exact hc G1 H1 σ1 ρ1 fps1 p1.ok _ hcr _ (WEx.expr q1)
    | ok bb ρ2 =>
      refine hc G1 H1 σ1 ρ1 fps1 p1.ok _ hcr _ fun G2 H2 fps2 p2 => ?_
      have p2 : Post K P G1 H1 σ1 fps1 G2 H2 σ1 ρ2 fps2 := p2.any
      cases bb with
      | false =>
        have hr : r = .nx ρ2 := by cases w <;> simp_all
        subst hr
        exact iteF (q1 σ1 G2 H2 fps2 p2)
      | true =>
        refine iteT ?_
        have q2 := SWant.back q1 p2
        refine ⟨fun σ' H' => ∃ m', m' < m ∧ ∃ G3 ρ3 fps3, Post K P G H σ fps G3 H' σ' ρ3 fps3 ∧ R m' ρ3, fun σ' H' ⟨m', l, z⟩ => ⟨m', l, z⟩, ?_⟩
        cases hbr : b ρ2 with
        | none => cases w <;> simp_all
        | some br =>
          cases br with
          | nx ρ3 =>
            obtain ⟨m', l, x⟩ := step ρ2 ρ3 hcr (.inl hbr)
            exact ds_run hb p2.ok hbr fun σ3 G3 H3 fps3 p3 => ⟨m', l, G3, _, fps3, (p1.trans (p2.trans p3)).forg, x⟩
          | ct ρ3 =>
            obtain ⟨m', l, x⟩ := step ρ2 ρ3 hcr (.inr hbr)
            exact ds_run hb p2.ok hbr fun σ3 G3 H3 fps3 p3 => ⟨m', l, G3, _, fps3, (p1.trans (p2.trans p3)).forg, x⟩
          | bk ρ3 =>
            have hr : r = .nx ρ3 := by cases w <;> simp_all
            subst hr
            exact ds_run hb p2.ok hbr fun σ3 G3 H3 fps3 p3 => q2 σ3 G3 H3 fps3 p3
          | rt o ρ3 =>
            have hr : r = .rt o ρ3 := by cases w <;> simp_all
            subst hr
            exact ds_run hb p2.ok hbr q2
          | ex k f d ρ3 =>
            have hr : r = .ex k f d ρ3 := by cases w <;> simp_all
            subst hr
            exact ds_run hb p2.ok hbr q2
theorem sx_whl {c : Expr} {body : List Stmt} {tc : TT} {fc : FT} {tb : TS} {fb : FS} {dead : List Nat} {f : FS} (hp : PassesOwn (model X.prog X.w) X.A X.env X.xe) (hc : Tx X cm W c tc fc) (hb : Bx X cm W P body tb fb) (hw : sWhl fc fb dead f) : Sx X cm W P (.While c body [] pos) (tWhile tc tb) f := ⟨ps_while hp hc.pe hb.pe, ds_whl hc.de hb.de hw⟩
end
end LD

end
section
set_option Elab.async false
set_option linter.all false
set_option maxRecDepth 100000
set_option maxHeartbeats 4000000
namespace LD
open PySem PySem.Spec PyProof.Rows L2

/-! ### defs that may show texts of things: nothing on the stack shows one -/
/-- a def's promise, wherever no text of a thing is being made -/
structure FnG (P : Program) (w : World) (K : PySem.W.Frag) (mg : Str → Option Value) (base : Heap) (k : Nat) (f : Addr) (fd : FuncData) (ps : List Str) (sp : Sp) : Prop where
  len : ∀ vs H Q E, sp vs H Q E → vs.length = ps.length
  run : ∀ A outer s H args us vs Q E, Room k A ∧ A.guards = some [] → Env0 P w K mg base A outer s H → BindsTo s fd args (ps.zip us) → Vals vs us → sp vs H Q E →
    codeAny (model P w) A (.call (.ref f) args) (CR (L2.CX P w) outer P w H s Q E) s
section
variable {P : Program} {w : World} {K : PySem.W.Frag} {mg : Str → Option Value} {base : Heap} {j k : Nat} {f : Addr} {fd : FuncData} {ps N : List Str} {sp : Sp} {x qual : Str} {params : Arguments} {body : List Stmt} {scope : Scope} {dvs : List V} {kws : List (Str × V)}
theorem FnG.of (F : FnOk P w K mg base (L2.CX P w) k f fd ps sp) : FnG P w K mg base k f fd ps sp := ⟨F.len, fun A o s H a us vs Q E hr => F.run A o s H a us vs Q E hr.1⟩
theorem FnG.mono (F : FnG P w K mg base j f fd ps sp) (h : j ≤ k) : FnG P w K mg base k f fd ps sp := ⟨F.len, fun A o s H a us vs Q E hr => F.run A o s H a us vs Q E ⟨hr.1.mono h, hr.2⟩⟩
/-- how a body ends, told of its call -/
theorem fin_body {cdv : Value} {A : Around} {outer : List Env} {s s' : Shared} {H : Hp} {E : XK} {Q : VK} {fl : Flow} (h : SP (cxOf (L2.CX P w) P w K mg base N qual scope f cdv A outer s H E) [] { nx := fun _ H' => Q .non H', rt := Q } fl s') :
    ∃ u, (fl = .next ∧ u = Value.none ∨ fl = .ret u) ∧ CE outer P w H s Q u s' := by
  cases fl with
  | next =>
    obtain ⟨_, H', J, q⟩ := h
    exact ⟨.none, .inl ⟨rfl, rfl⟩, .non, H', J.os, J.bare, J.base, J.hok, rfl, q⟩
  | ret u =>
    obtain ⟨v, _, H', J, rv, q⟩ := h
    exact ⟨u, .inr rfl, v, H', J.os, J.bare, J.base, J.hok, rv, q⟩
  | brk => exact h.elim fun _ ⟨_, _, q⟩ => q.elim
  | cont => exact h.elim fun _ ⟨_, _, q⟩ => q.elim
theorem fnG_of (F : FunD K x qual params body scope dvs kws f fd) (S : FnScope N ps scope) (len : ∀ vs H Q E, sp vs H Q E → vs.length = ps.length)
    (hb : ∀ cdv A outer s H vs Q E, Room k (A.deeper (envOfC qual scope s.heap.objs.size f cdv)) ∧ (A.deeper (envOfC qual scope s.heap.objs.size f cdv)).guards = some [] → sp vs H Q E →
      ∃ t, PSs (cxOf (L2.CX P w) P w K mg base N qual scope f cdv A outer s H E) body t ∧ t { nx := fun _ H' => Q .non H', rt := Q } (start N vs) H) : FnG P w K mg base (k + 1) f fd ps sp := by
  obtain ⟨oc, od, dV, kV, doc, pm, an, cdv, ct, osl, rfl, lk, hcd, _, _⟩ := F.ex
  constructor
  · exact len
  intro A outer s H args us vs Q E hr e0 hbd r hsp
  have up : ∀ {b : Addr} {o : Obj}, base.get? b = some o → s.heap.get? b = some o := fun e => (e0.bs _ _ e).1
  have inK := e0.mod.kin.keeps fun _ _ e => up e
  refine codeAny_call_function hr.1.depth (inK _ _ lk) rfl S.co S.gen rfl (PySem.W.codeRec_of inK hcd) (hbd _ _ _ _ (wpAny_newFunctionEnv_cells S.kind ?_ ?_))
  · rintro ⟨n, v⟩ hy
    exact (S.par n (List.of_mem_zip hy).1).imp id fun q => ⟨q, PySem.W.cellsFrom_some _ _ _ (.inl q)⟩
  · rintro env rfl s1 x1
    obtain ⟨t, ht, hq⟩ := hb cdv A outer s H vs Q E ⟨hr.1.deeper _, hr.2⟩ hsp
    refine ⟨(e0.mod.nolimit.keeps fun _ _ e => up e).keeps x1.toInCall.keep, codeAny_func (wpAny_mono (ht.run [] s1 (start N vs) H _ (inv_start S hr.1.hd e0 (len _ _ _ _ hsp) r x1) hq) (fun fl s' hs => ?_) fun _ _ hs => hs)⟩
    obtain ⟨u, hu, ce⟩ := fin_body hs
    rcases hu with ⟨rfl, rfl⟩ | rfl
    · exact ce
    · exact ce
end
section
variable {X : Cx} {k : Nat} {f : Addr} {fd : FuncData} {ps : List Str} {sp : Sp} {E : L2.St → XK} {x : Str} {p pos : Pos} {e : Expr} {es : List Expr} {t : TA} {kws : List Keyword}
/-- room for a call -/
abbrev Rm (k : Nat) (A : Around) : Prop := Room k A ∧ A.guards = some []
theorem Rm.mono {j k : Nat} {A : Around} (r : Rm k A) (h : j ≤ k) : Rm j A := ⟨r.1.mono h, r.2⟩
theorem Rm.units {k : Nat} {A : Around} (r : Rm k A) : A.units + 64 < cLine := r.1.units
theorem run_fnG {pins : List (Addr × Obj)} {σ : L2.St} {H : Hp} {s : Shared} {Q : VK} {us bs : List Value} {vs : List V} {kw : List (Str × Value)} (F : FnG X.prog X.w X.K X.mg X.base k f fd ps sp) (hr : Rm k X.A) (hx : PassesAt (L2.CX X.prog X.w) X σ (E σ)) (I : Inv X pins σ H s)
    (hb : BindsTo s fd ⟨us, kw⟩ (ps.zip bs)) (r : Vals vs bs) (h : sp vs H Q (E σ)) : wpAny (model X.prog X.w) X.A (call (.ref f) us kw) (EP X pins σ Q) X.xe s := by
  refine wpAny_call (codeAny_mono (F.run X.A X.stack s H ⟨us, kw⟩ bs vs Q (E σ) hr I.env0 hb r h) fun r s' hq => ?_)
  match r, hq with
  | .error e, hq => exact hx pins H s e s' I hq
  | .ok (.ret u), hq => exact I.after hq
  | .ok .next, hq => exact hq.elim
  | .ok .brk, hq => exact hq.elim
  | .ok .cont, hq => exact hq.elim
theorem pe_callG (F : FnG X.prog X.w X.K X.mg X.base k f fd ps sp) (hr : Rm k X.A) (hg : Gl X x) (hm : X.mg x = some (.ref f)) (hk : PySem.W.keepIn X.K (.ref f) = true) (hb : Binds X.K fd ps []) (hx : ∀ σ, PassesAt (L2.CX X.prog X.w) X σ (E σ))
    (ha : PA X (e :: es) t) (hdb : (x == ("__debug__" : Str)) = false := by decide) (he : starEach (e :: es) X.env = (false, eval e X.env) :: starEach es X.env := by rfl) (hpl : (backTo pos (starEach es X.env)).any (·.1) = false := by rfl) :
    PE X (.Call (.Name x p) (e :: es) [] pos) (tCallSD sp [] E t) := ⟨fun pins s σ H Q I h => by
  refine wpAny_Call_Name_kw (ld_glob I hg hm (PySem.W.callWith_K (h₀ := X.base) I.ok.mod.kin hk (thn (ha.run pos pins s σ H _ I h) fun us s1 ⟨vs, H1, I1, r, q⟩ => ⟨I1.kIn, ?_⟩) he hpl) hdb)
  have hl : us.length = ps.length := by rw [← r.length, ← F.len _ _ _ _ q, List.append_nil]
  have b := hb s1 us I1.kIn (by rw [List.append_nil]; exact hl)
  have q : sp (vs ++ []) H1 Q (E σ) := q
  rw [List.append_nil] at b q
  exact run_fnG F hr (hx σ) I1 b r q⟩
def pick {α : Type} (perm : List Nat) (xs : List α) : List α := perm.filterMap (xs[·]?)
theorem pick_vals {perm : List Nat} {vs : List V} {us : List Value} (r : Vals vs us) : Vals (pick perm vs) (pick perm us) := by
  have key : ∀ {vs : List V} {us : List Value}, Vals vs us → ∀ i : Nat, (∃ v u, vs[i]? = some v ∧ us[i]? = some u ∧ RelV v u) ∨ (vs[i]? = none ∧ us[i]? = none) := by
    intro vs us r
    induction r with
    | nil => exact fun i => .inr ⟨rfl, rfl⟩
    | cons h t ih =>
      intro i
      cases i with
      | zero => exact .inl ⟨_, _, rfl, rfl, h⟩
      | succ i => simpa using ih i
  unfold pick
  induction perm with
  | nil => exact .nil
  | cons i perm ih =>
    rw [List.filterMap_cons, List.filterMap_cons]
    rcases key r i with ⟨v, u, e1, e2, rv⟩ | ⟨e1, e2⟩
    · rw [e1, e2]; exact .cons rv ih
    · rw [e1, e2]; exact ih
/-- the def binds its keywords so -/
def BindsK (fd : FuncData) (ps ks : List Str) (perm : List Nat) : Prop := ∀ (s : Shared) (us : List Value), us.length = ks.length → BindsTo s fd ⟨[], ks.zip us⟩ (ps.zip (pick perm us))
def tCallKG (sp : Sp) (n : Nat) (perm : List Nat) (E : L2.St → XK) (t : TA) : TE := fun σ H Q => t σ H fun zs H1 => zs.length = n ∧ sp (pick perm zs) H1 Q (E σ)
theorem pe_callKG {ks : List Str} {perm : List Nat} (F : FnG X.prog X.w X.K X.mg X.base k f fd ps sp) (hr : Rm k X.A) (hg : Gl X x) (hm : X.mg x = some (.ref f)) (hk : PySem.W.keepIn X.K (.ref f) = true) (hb : BindsK fd ps ks perm) (hx : ∀ σ, PassesAt (L2.CX X.prog X.w) X σ (E σ))
    (ha : PK X kws t) (hall : (backToKw pos (keywordEach kws X.env)).all (·.1.isSome) = true := by rfl) (hks : (backToKw pos (keywordEach kws X.env)).filterMap (·.1) = ks := by rfl) (hdb : (x == ("__debug__" : Str)) = false := by decide)
    (hpl : ((backTo pos (starEach [] X.env)).any (·.1) || (backToKw pos (keywordEach kws X.env)).any (·.1.isNone)) = false := by rfl) :
    PE X (.Call (.Name x p) [] kws pos) (tCallKG sp ks.length perm E t) := ⟨fun pins s σ H Q I h => by
  refine wpAny_Call_Name_kw (ld_glob I hg hm (PySem.W.callWith_KW0 (h₀ := X.base) I.ok.mod.kin hk hall (thn (ha.run pos pins s σ H _ I h) fun us s1 ⟨vs, H1, I1, r, l, q⟩ => ⟨I1.kIn, ?_⟩) hpl) hdb)
  rw [hks]
  have hl : us.length = ks.length := by rw [← r.length]; exact l
  exact run_fnG F hr (hx σ) I1 (hb s1 us hl) (pick_vals r) q⟩
end
section
variable {K : PySem.W.Frag} {x qual : Str} {params : Arguments} {body : List Stmt} {scope : Scope} {kws : List (Str × V)} {f : Addr} {fd : FuncData} {ps ks : List Str} {perm : List Nat}
theorem bindsK_of (F : FunD K x qual params body scope [] kws f fd) (h : ∀ (kV doc pm : Value) (an : Option Addr) (cdv ct : Value) (us : List Value), us.length = ks.length → bindArgs (PySem.W.fnOf x qual params body scope .none kV doc pm an cdv ct) ⟨[], ks.zip us⟩ = pure (ps.zip (pick perm us))) : BindsK fd ps ks perm := by
  obtain ⟨oc, od, dV, kV, doc, pm, an, cdv, ct, osl, rfl, lk, hcd, hD, hK⟩ := F.ex
  rcases hD with ⟨_, rfl⟩ | ⟨e, _⟩
  · exact fun s us hl => .of_eq (h kV doc pm an cdv ct us hl)
  · exact absurd rfl e
end
end LD

end
section
set_option Elab.async false
set_option linter.all false
set_option maxRecDepth 100000
set_option maxHeartbeats 4000000
namespace LD
open PySem PySem.Spec PyProof.Rows L2

/-! ### what a def makes of its arguments -/
inductive FOut where
  | ok (o : OV) | ex (k f : Str) (d : D)
inductive LOut where
  | ok (o o0 : OV) | ex (k f : Str) (d : D)
/-- from (G, H) to (G', H'), the objects of F0 lent -/
structure Lent (F0 : Addr → Prop) (G H G' H' : Hp) : Prop where
  h : ∀ a u, H a = some u → ¬ F0 a → H' a = some u
  g : ∀ a, H a ≠ none → ¬ F0 a → G' a = G a
  ex : Ex G G'
  le : Ex G' H'
/-- objects that came: of the lent ones, or new -/
def Fresh (F0 : Addr → Prop) (G' H H' : Hp) (F : Addr → Prop) : Prop := ∀ a, F a → (F0 a ∨ H a = none) ∧ H' a ≠ none ∧ G' a = none
section
variable (K : PySem.W.Frag) (cm : Str → Addr)
/-- a def to which data is handed alone; n: how many -/
def spP (n : Nat) (F : List D → Option FOut) : Sp := fun vs H Q E => ∃ G ds r, ds.length = n ∧ Ex G H ∧ RepAll K G vs ds ∧ F ds = some r ∧ match r with
  | .ok o => ∀ v G' H' Fv, Lent (fun _ => False) G H G' H' → Own K G' H' v o Fv → Fresh (fun _ => False) G' H H' Fv → Q v H'
  | .ex k f d => ∀ v dx G' H', Lent (fun _ => False) G H G' H' → H' dx = some (.xd [(f, v)]) → Rep K G' v d → E (.ref (cm k)) (some dx) H'
/-- a def to which a thing of its caller's is lent first, then data -/
def spL (n : Nat) (F : OV → List D → Option LOut) : Sp := fun vs H Q E => ∃ v0 vs' G o0 F0 ds r, vs = v0 :: vs' ∧ ds.length = n ∧ Ex G H ∧ Own K G H v0 o0 F0 ∧ (∀ a, F0 a → H a ≠ none ∧ G a = none) ∧ RepAll K G vs' ds ∧ F o0 ds = some r ∧ match r with
  | .ok o o1 => ∀ v G' H' Fv F1, Lent F0 G H G' H' → Own K G' H' v0 o1 F1 → Fresh F0 G' H H' F1 → Own K G' H' v o Fv → Fresh F0 G' H H' Fv → (∀ a, F1 a → ¬ Fv a) → Q v H'
  | .ex k f d => ∀ v dx G' H', Lent F0 G H G' H' → H' dx = some (.xd [(f, v)]) → Rep K G' v d → E (.ref (cm k)) (some dx) H'
end
def pOut (r : Option SR) : Option FOut := match r with
  | some (.nx _) => some (.ok (.fz .non))
  | some (.rt o _) => some (.ok o)
  | some (.ex k f d _) => some (.ex k f d)
  | _ => none
def l0 (o : OV) (ρ : Envr) : Option LOut := match ρ with
  | some o0 :: _ => some (.ok o o0)
  | _ => none
def lOut (r : Option SR) : Option LOut := match r with
  | some (.nx ρ) => l0 (.fz .non) ρ
  | some (.rt o ρ) => l0 o ρ
  | some (.ex k f d _) => some (.ex k f d)
  | _ => none
def env0 (m : Nat) (ds : List D) : Envr := ds.map (fun d => some (.fz d)) ++ List.replicate m none
section
variable {K : PySem.W.Frag} {cm : Str → Addr} {P : List Nat} {G H G' H' : Hp} {σ : L2.St} {ρ : Envr} {fps : Nat → Addr → Prop}
theorem ok_start {vs : List V} {ds : List D} {m : Nat} (e : Ex G H) (r : RepAll K G vs ds) : Ok K G H (vs.map some ++ List.replicate m none) (env0 m ds) (fun _ _ => False) := by
  have hl := r.length
  refine ⟨e, by simp [env0, hl], fun i o h => ?_, fun _ _ _ f => f.elim, fun _ _ f => f.elim⟩
  unfold env0 at h
  by_cases hi : i < ds.length
  · rw [List.getElem?_append_left (by simpa using hi), List.getElem?_map] at h
    cases q : ds[i]? with
    | none => rw [q] at h; cases h
    | some d =>
      rw [q] at h
      cases h
      obtain ⟨v, e1, rv⟩ := r.get q
      refine ⟨v, ?_, .fz rv⟩
      rw [List.getElem?_append_left (by simp [hl]; exact hi), List.getElem?_map, e1]
      rfl
  · rw [List.getElem?_append_right (by simp; omega), List.getElem?_replicate] at h
    split at h <;> cases h
theorem ok_startL {v0 : V} {o0 : OV} {F0 : Addr → Prop} {vs : List V} {ds : List D} {m : Nat} (e : Ex G H) (w : Own K G H v0 o0 F0) (f0 : ∀ a, F0 a → H a ≠ none ∧ G a = none) (r : RepAll K G vs ds) :
    Ok K G H ((v0 :: vs).map some ++ List.replicate m none) (some o0 :: env0 m ds) (fun i a => i = 0 ∧ F0 a) := by
  have k := ok_start (m := m) e r
  refine ⟨e, by simpa [env0] using k.len, fun i o h => ?_, fun i j a f g => f.1.trans g.1.symm, fun i a f => f0 a f.2⟩
  cases i with
  | zero =>
    cases h
    exact ⟨v0, rfl, w.wide fun a f => ⟨rfl, f⟩⟩
  | succ i =>
    obtain ⟨v, e1, w⟩ := k.own i o (by simpa using h)
    refine ⟨v, by simpa using e1, ?_⟩
    exact w.wide fun a f => f.elim
theorem Lent.of_post {F0 : Addr → Prop} {σ' : L2.St} {ρ' : Envr} {fps' : Nat → Addr → Prop} (p : Post K P G H σ fps G' H' σ' ρ' fps') (h : ∀ a, Tot fps a → F0 a) : Lent F0 G H G' H' :=
  ⟨fun a u e n => p.frm.h a u e fun t => n (h a t), fun a e n => p.frm.g a e fun t => n (h a t), p.frm.ex, p.ok.ex⟩
/-- a call to which slot i was lent -/
theorem Lent.post {i : Nat} {v0 : V} {o1 : OV} {F1 : Addr → Prop} (ok : Ok K G H σ ρ fps) (l : Lent (fps i) G H G' H') (hi : i < ρ.length) (hv : σ[i]? = some (some v0)) (w : Own K G' H' v0 o1 F1) (f : Fresh (fps i) G' H H' F1) :
    Post K P G H σ fps G' H' σ (ρ.set i (some o1)) (fun j a => if j = i then F1 a else fps j a) := by
  have keep : ∀ j a, j ≠ i → fps j a → ¬ fps i a := fun j a n f1 f2 => n (ok.dj j i a f1 f2)
  refine ⟨⟨l.le, by rw [List.length_set]; exact ok.len, fun j o e => ?_, fun j k a f1 f2 => ?_, fun j a f1 => ?_⟩, ⟨fun a u e t => l.h a u e fun f => t ⟨i, f⟩, fun a e t => l.g a e fun f => t ⟨i, f⟩, l.ex⟩, fun a ⟨j, t⟩ => ?_, fun _ _ => rfl⟩
  · by_cases q : j = i
    · subst q
      rw [List.getElem?_set_self hi] at e
      cases e
      exact ⟨v0, hv, by simpa using w⟩
    · rw [List.getElem?_set_ne (Ne.symm q)] at e
      obtain ⟨v, e1, w1⟩ := ok.own j o e
      refine ⟨v, e1, ?_⟩
      have w2 := w1.mono l.ex fun a u f hu => l.h a u hu (keep j a q f)
      exact w2.wide fun a f => by simpa [q] using f
  · by_cases q1 : j = i
    · by_cases q2 : k = i
      · rw [q1, q2]
      · simp [q1, q2] at f1 f2
        rcases (f a f1).1 with z | z
        · exact absurd z (keep k a q2 f2)
        · exact absurd z (ok.fr k a f2).1
    · by_cases q2 : k = i
      · simp [q1, q2] at f1 f2
        rcases (f a f2).1 with z | z
        · exact absurd z (keep j a q1 f1)
        · exact absurd z (ok.fr j a f1).1
      · simp [q1, q2] at f1 f2
        exact ok.dj j k a f1 f2
  · by_cases q1 : j = i
    · simp [q1] at f1
      exact (f a f1).2
    · simp [q1] at f1
      obtain ⟨n, g⟩ := ok.fr j a f1
      refine ⟨?_, by rw [l.g a n (keep j a q1 f1)]; exact g⟩
      cases q : H a with
      | none => exact absurd q n
      | some u => rw [l.h a u q (keep j a q1 f1)]; simp
  · by_cases q1 : j = i
    · simp [q1] at t
      rcases (f a t).1 with z | z
      · exact .inl ⟨i, z⟩
      · exact .inr z
    · simp [q1] at t
      exact .inl ⟨j, t⟩
theorem Lent.none {F0 : Addr → Prop} (l : Lent F0 G H G' H') (h : ∀ a, ¬ F0 a) : Alloc G H G' H' := ⟨fun a u e => l.h a u e (h a), l.ex, l.le, fun a e => l.g a e (h a)⟩
end

section
variable {P : Program} {w : World} {K : PySem.W.Frag} {mg : Str → Option Value} {base : Heap} {x qual : Str} {params : Arguments} {body : List Stmt} {scope : Scope} {dvs : List V} {kws : List (Str × V)} {f : Addr} {fd : FuncData} {N ps : List Str} {k : Nat} {cm : Str → Addr}
/-- the context of a body -/
abbrev bodyX (P : Program) (w : World) (K : PySem.W.Frag) (mg : Str → Option Value) (base : Heap) (N : List Str) (qual : Str) (scope : Scope) (f : Addr) (cdv : Value) (A : Around) (outer : List Env) (s : Shared) (H : Hp) (E : XK) : Cx := cxOf (L2.CX P w) P w K mg base N qual scope f cdv A outer s H E
abbrev wishX (E : XK) : WX := fun c d _ H => E c d H
/-- a def to which data is handed alone keeps what its body says -/
theorem fn_pure (F : FunD K x qual params body scope dvs kws f fd) (S : FnScope N ps scope) {g : FS} {Fn : List D → Option FOut} (hF : ∀ ds r, Fn ds = some r → pOut (g (env0 (N.length - ps.length) ds)) = some r)
    (hb : ∀ (cdv : Value) (A : Around) (outer : List Env) (s : Shared) (H : Hp) (E : XK), Rm k (A.deeper (envOfC qual scope s.heap.objs.size f cdv)) → Takes (bodyX P w K mg base N qual scope f cdv A outer s H E) (wishX E) → ∃ t, Bx (bodyX P w K mg base N qual scope f cdv A outer s H E) cm (wishX E) [] body t g) :
    FnG P w K mg base (k + 1) f fd ps (spP K cm ps.length Fn) := by
  refine fnG_of F S (fun vs H Q E ⟨G, ds, r, hl, _, rr, _⟩ => by rw [rr.length, hl]) fun cdv A outer s H vs Q E hr ⟨G, ds, r, hl, ex, rr, hFn, q⟩ => ?_
  obtain ⟨t, B⟩ := hb cdv A outer s H E hr (takes_of rfl rfl rfl rfl)
  refine ⟨t, B.pe, ?_⟩
  have ok := ok_start (m := N.length - vs.length) ex rr
  have e := hF ds r hFn
  rw [← hl, ← rr.length] at e
  cases hg : g (env0 (N.length - vs.length) ds) with
  | none => rw [hg] at e; cases e
  | some sr =>
    rw [hg] at e
    refine ds_run B.de ok hg ?_
    have none_tot : ∀ a, ¬ Tot (fun (_ : Nat) (_ : Addr) => False) a := fun a ⟨_, f⟩ => f
    cases sr with
    | nx ρ' =>
      cases e
      exact fun σ' G' H' fps' p => q .non G' H' (fun _ => False) (.of_post p fun a t => (none_tot a t).elim) (.fz .non) fun _ f => f.elim
    | rt o ρ' =>
      cases e
      exact fun v σ' G' H' fps' Fv p g s => q v G' H' Fv (.of_post p fun a t => (none_tot a t).elim) g.own fun a fa => ⟨.inr ((s a fa).elim (fun t => (none_tot a t).elim) id), g.fr a fa⟩
    | ex k f d ρ' =>
      cases e
      exact fun σ' v dx G' H' fps' p hx hv => q v dx G' H' (.of_post p fun a t => (none_tot a t).elim) hx hv
    | bk ρ' => cases e
    | ct ρ' => cases e
/-- a def to which slot 0 is lent -/
theorem fn_lent (F : FunD K x qual params body scope dvs kws f fd) (S : FnScope N ps scope) (n : Nat) (hn : ps.length = n + 1) {g : FS} {Fn : OV → List D → Option LOut} (hF : ∀ o0 ds r, Fn o0 ds = some r → lOut (g (some o0 :: env0 (N.length - ps.length) ds)) = some r)
    (hb : ∀ (cdv : Value) (A : Around) (outer : List Env) (s : Shared) (H : Hp) (E : XK), Rm k (A.deeper (envOfC qual scope s.heap.objs.size f cdv)) → Takes (bodyX P w K mg base N qual scope f cdv A outer s H E) (wishX E) → ∃ t, Bx (bodyX P w K mg base N qual scope f cdv A outer s H E) cm (wishX E) [0] body t g) :
    FnG P w K mg base (k + 1) f fd ps (spL K cm n Fn) := by
  refine fnG_of F S (fun vs H Q E ⟨v0, vs', G, o0, F0, ds, r, ev, hl, _, _, _, rr, _⟩ => by rw [ev, List.length_cons, rr.length, hl, hn]) fun cdv A outer s H vs Q E hr ⟨v0, vs', G, o0, F0, ds, r, ev, hl, ex, w0, f0, rr, hFn, q⟩ => ?_
  subst ev
  obtain ⟨t, B⟩ := hb cdv A outer s H E hr (takes_of rfl rfl rfl rfl)
  refine ⟨t, B.pe, ?_⟩
  have ok := ok_startL (m := N.length - (v0 :: vs').length) ex w0 f0 rr
  have e := hF o0 ds r hFn
  have hlen : ps.length = (v0 :: vs').length := by rw [List.length_cons, rr.length, hl, hn]
  rw [hlen] at e
  cases hg : g (some o0 :: env0 (N.length - (v0 :: vs').length) ds) with
  | none => rw [hg] at e; cases e
  | some sr =>
    rw [hg] at e
    refine ds_run B.de ok hg ?_
    have tot : ∀ a, Tot (fun (i : Nat) a => i = 0 ∧ F0 a) a → F0 a := fun a ⟨_, f⟩ => f.2
    have back : ∀ {σ' : L2.St} {G' H' : Hp} {ρ' : Envr} {fps' : Nat → Addr → Prop} {o : OV} {r : LOut}, Post K [0] G H (start N (v0 :: vs')) (fun i a => i = 0 ∧ F0 a) G' H' σ' ρ' fps' → l0 o ρ' = some r → ∃ o1, r = .ok o o1 ∧ Own K G' H' v0 o1 (fps' 0) ∧ Fresh F0 G' H H' (fps' 0) := by
      intro σ' G' H' ρ' fps' o r p e
      unfold l0 at e
      split at e
      · rename_i o1 ρr
        cases e
        obtain ⟨v, e1, w1⟩ := p.ok.own 0 o1 rfl
        rw [p.pr 0 (by simp)] at e1
        cases e1
        exact ⟨o1, rfl, w1, fun a fa => ⟨(p.sub a ⟨0, fa⟩).imp (tot a) id, p.ok.fr 0 a fa⟩⟩
      · cases e
    cases sr with
    | nx ρ' =>
      intro σ' G' H' fps' p
      obtain ⟨o1, rfl, w1, f1⟩ := back p e
      exact q .non G' H' (fun _ => False) (fps' 0) (.of_post p tot) w1 f1 (.fz .non) (fun _ f => f.elim) fun _ _ f => f
    | rt o ρ' =>
      intro v σ' G' H' fps' Fv p g s
      obtain ⟨o1, rfl, w1, f1⟩ := back p e
      exact q v G' H' Fv (fps' 0) (.of_post p tot) w1 f1 g.own (fun a fa => ⟨(s a fa).imp (tot a) id, g.fr a fa⟩) fun a fa fb => g.dj 0 a fa fb
    | ex k f d ρ' =>
      cases e
      exact fun σ' v dx G' H' fps' p hx hv => q v dx G' H' (.of_post p tot) hx hv
    | bk ρ' => cases e
    | ct ρ' => cases e
end

/-! ### calls -/
def fCall (F : List D → Option FOut) (f : FA) : FO := fun ρ => rb (f ρ) fun ds ρ1 => match F ds with
  | some (.ok o) => some (.ok o ρ1)
  | some (.ex k f d) => some (.ex k f d ρ1)
  | none => none
/-- slot i is lent -/
def fCallL (i : Nat) (F : OV → List D → Option LOut) (f : FA) : FO := fun ρ => match ρ[i]? with
  | some (some _) => rb (f ρ) fun ds ρ1 => match ρ1[i]? with
    | some (some o0) => match F o0 ds with
      | some (.ok o o1) => some (.ok o (ρ1.set i (some o1)))
      | some (.ex k f d) => some (.ex k f d (ρ1.set i none))
      | none => none
    | _ => none
  | _ => none
section
variable {X : Cx} {cm : Str → Addr} {W : WX} {K : PySem.W.Frag} {e : Expr} {es : List Expr} {t : TA} {fs : FA} {k n : Nat} {f : Addr} {fd : FuncData} {ps : List Str} {x : Str} {p pos : Pos}
theorem do_call {F : List D → Option FOut} (h : DA K cm W t fs) (hn : ∀ ds r, F ds = some r → ds.length = n) : DO K cm W (tCallSD (spP K cm n F) [] (fun σ => WE W σ) t) (fCall F fs) := by
  intro G H σ ρ fps ok r e Q q
  refine da_bind (P := []) h ok e (fun ds ρ1 e1 vs G1 H1 fps1 p g => ?_) fun k f d ρ' e1 => by rw [e1] at q; exact q
  cases hF : F ds with
  | none => simp only [hF] at e1; cases e1
  | some fo =>
    refine ⟨G1, ds, fo, hn ds fo hF, p.ok.ex, by simpa using g, hF, ?_⟩
    simp only [hF] at e1
    cases fo with
    | ok o =>
      cases e1
      intro v G' H' Fv l w fr
      have al := l.none fun _ f => f
      obtain ⟨p2, g2⟩ := al.got (P := []) p.ok w fun a fa => ⟨(fr a fa).1.elim (fun z => z.elim) id, (fr a fa).2⟩
      exact q v G' H' fps1 Fv (p.trans p2) g2 fun a fa => fresh_back p ((fr a fa).1.elim (fun z => z.elim) id)
    | ex k f d =>
      cases e1
      intro v dx G' H' l hx hv
      have al := l.none fun _ f => f
      exact q v dx G' H' fps1 (p.trans (al.post p.ok)) hx hv
theorem do_callL {F : OV → List D → Option LOut} {i : Nat} (h : DA K cm W t fs) (hn : ∀ o ds r, F o ds = some r → ds.length = n) : DO K cm W (tCallSD (spL K cm n F) [] (fun σ => WE W σ) (tCons (tVar i) t)) (fCallL i F fs) := by
  intro G H σ ρ fps ok r e Q q
  unfold fCallL at e
  split at e
  · rename_i oi hi
    obtain ⟨v0, hv, _⟩ := ok.own i oi hi
    refine ⟨v0, hv, ?_⟩
    refine da_bind (P := []) h ok e (fun ds ρ1 e1 vs G1 H1 fps1 p g => ?_) fun k f d ρ' e1 => by rw [e1] at q; exact q
    split at e1
    · rename_i o0 h0
      obtain ⟨v1, hv1, w1⟩ := p.ok.own i o0 h0
      rw [hv] at hv1
      cases hv1
      have hil : i < ρ1.length := (List.getElem?_eq_some_iff.mp h0).1
      cases hF : F o0 ds with
      | none => simp only [hF] at e1; cases e1
      | some lo =>
        refine ⟨v0, vs, G1, o0, fps1 i, ds, lo, by simp, hn o0 ds lo hF, p.ok.ex, w1, fun a f => p.ok.fr i a f, g, hF, ?_⟩
        simp only [hF] at e1
        cases lo with
        | ok o o1 =>
          cases e1
          intro v G' H' Fv F1 l w f1 wv fv dj
          have p2 := l.post (P := []) p.ok hil hv w f1
          refine q v G' H' _ Fv (p.trans p2) ⟨wv, fun j a fa fb => ?_, fun a fa => (fv a fa).2⟩ fun a fa => (fv a fa).1.elim (fun z => p.sub a ⟨i, z⟩) (fresh_back p)
          by_cases hj : j = i
          · simp [hj] at fa; exact dj a fa fb
          · simp [hj] at fa
            rcases (fv a fb).1 with z | z
            · exact hj (p.ok.dj j i a fa z)
            · exact (p.ok.fr j a fa).1 z
        | ex k f d =>
          cases e1
          intro v dx G' H' l hx hv2
          refine q v dx G' H' (fun j a => j ≠ i ∧ fps1 j a) (p.trans ⟨⟨l.le, by rw [List.length_set]; exact p.ok.len, fun j o ej => ?_, fun j k a fa fb => p.ok.dj j k a fa.2 fb.2, fun j a fa => ?_⟩, ⟨fun a u ea n => l.h a u ea fun z => n ⟨i, z⟩, fun a ea n => l.g a ea fun z => n ⟨i, z⟩, l.ex⟩, fun a ⟨j, z⟩ => .inl ⟨j, z.2⟩, fun _ _ => rfl⟩) hx hv2
          · by_cases hj : j = i
            · subst hj
              rw [List.getElem?_set_self hil] at ej
              cases ej
            · rw [List.getElem?_set_ne (Ne.symm hj)] at ej
              obtain ⟨y, e1, w2⟩ := p.ok.own j o ej
              exact ⟨y, e1, (w2.mono l.ex fun a u fa ha => l.h a u ha fun z => hj (p.ok.dj j i a fa z)).wide fun a fa => ⟨hj, fa⟩⟩
          · obtain ⟨n, gn⟩ := p.ok.fr j a fa.2
            have nz : ¬ fps1 i a := fun z => fa.1 (p.ok.dj j i a fa.2 z)
            refine ⟨?_, by rw [l.g a n nz]; exact gn⟩
            cases hq : H1 a with
            | none => exact absurd hq n
            | some u => rw [l.h a u hq nz]; simp
    · cases e1
  · cases e
theorem ox_call {F : List D → Option FOut} (Fk : FnG X.prog X.w X.K X.mg X.base k f fd ps (spP X.K cm n F)) (hr : Rm k X.A) (hg : Gl X x) (hm : X.mg x = some (.ref f)) (hk : PySem.W.keepIn X.K (.ref f) = true) (hb : Binds X.K fd ps [])
    (tk : Takes X W) (hn : ∀ ds r, F ds = some r → ds.length = n) (ha : Ax X cm W (e :: es) t fs) (hdb : (x == ("__debug__" : Str)) = false := by decide) (he : starEach (e :: es) X.env = (false, eval e X.env) :: starEach es X.env := by rfl) (hpl : (backTo pos (starEach es X.env)).any (·.1) = false := by rfl) :
    Ox X cm W (.Call (.Name x p) (e :: es) [] pos) (tCallSD (spP X.K cm n F) [] (fun σ => WE W σ) t) (fCall F fs) := ⟨pe_callG Fk hr hg hm hk hb (fun σ => passAt tk σ) ha.pe hdb he hpl, do_call ha.de hn⟩
theorem ox_callL {F : OV → List D → Option LOut} {i : Nat} {y : Str} {py : Pos} (Fk : FnG X.prog X.w X.K X.mg X.base k f fd ps (spL X.K cm n F)) (hr : Rm k X.A) (hg : Gl X x) (hm : X.mg x = some (.ref f)) (hk : PySem.W.keepIn X.K (.ref f) = true) (hb : Binds X.K fd ps [])
    (tk : Takes X W) (hn : ∀ o ds r, F o ds = some r → ds.length = n) (ha : Ax X cm W es t fs) (hN : X.N[i]? = some y := by rfl) (hv : Vis X.env.scope y := by first | exact Or.inl rfl | exact Or.inr (Or.inl rfl) | exact Or.inr (Or.inr rfl))
    (hdb : (x == ("__debug__" : Str)) = false := by decide) (he : starEach (.Name y py :: es) X.env = (false, eval (.Name y py) X.env) :: starEach es X.env := by rfl) (hpl : (backTo pos (starEach es X.env)).any (·.1) = false := by rfl)
    (hd : (y == ("__debug__" : Str)) = false := by decide) (hcd : (y == ("__classdict__" : Str)) = false := by decide) :
    Ox X cm W (.Call (.Name x p) (.Name y py :: es) [] pos) (tCallSD (spL X.K cm n F) [] (fun σ => WE W σ) (tCons (tVar i) t)) (fCallL i F fs) := ⟨pe_callG Fk hr hg hm hk hb (fun σ => passAt tk σ) (pa_cons (pe_var hN hv hd hcd) ha.pe he) hdb he hpl, do_callL ha.de hn⟩
end
end LD

end
section
set_option Elab.async false
set_option linter.all false
set_option maxRecDepth 100000
set_option maxHeartbeats 4000000
namespace LD
open PySem PySem.Spec PyProof.Rows L2

section
variable {K : PySem.W.Frag} {P : List Nat} {G H G' H' : Hp} {σ σ' : L2.St} {ρ ρ' : Envr} {fps fps' : Nat → Addr → Prop} {v : V} {o : OV} {F : Addr → Prop}
/-- a value at hand stays while other things are done -/
theorem Got.keep (g : Got K G H fps v o F) (p : Post K P G H σ fps G' H' σ' ρ' fps') : Got K G' H' fps' v o F := by
  have nt : ∀ a, F a → ¬ Tot fps a := fun a f ⟨i, t⟩ => g.dj i a t f
  refine ⟨g.own.mono p.frm.ex fun a u f e => p.frm.h a u e (nt a f), fun i a t f => ?_, fun a f => ?_⟩
  · rcases p.sub a ⟨i, t⟩ with z | z
    · exact nt a f z
    · exact (g.fr a f).1 z
  · obtain ⟨n, e⟩ := g.fr a f
    refine ⟨?_, by rw [p.frm.g a n (nt a f)]; exact e⟩
    cases q : H a with
    | none => exact absurd q n
    | some u => rw [p.frm.h a u q (nt a f)]; simp
/-- an object that no slot owns changes -/
theorem Ok.updH (h : Ok K G H σ ρ fps) {p : Addr} {u : HO} (hp : ¬ Tot fps p) (hg : G p = none) : Ok K G (upd H p u) σ ρ fps := by
  refine ⟨fun a o e => ?_, h.len, fun i o e => ?_, h.dj, fun i a f => ?_⟩
  · rw [upd_ne (ne_of_none e hg)]; exact h.ex a o e
  · obtain ⟨v, e1, w⟩ := h.own i o e
    exact ⟨v, e1, w.mono (Ex.refl _) fun a u f e => by rw [upd_ne fun z => hp ⟨i, by rw [← z]; exact f⟩]; exact e⟩
  · rw [upd_ne fun z => hp ⟨i, by rw [← z]; exact f⟩]; exact h.fr i a f
theorem own_snoc {p : Addr} {xs : List OV} {y : V} {oy : OV} {Fy : Addr → Prop} (w : Own K G H (.ref p) (.ls xs) F) (wy : Own K G H y oy Fy) (dj : ∀ a, F a → ¬ Fy a) : ∃ vs, H p = some (.lst vs) ∧ vs.length = xs.length ∧ Own K G (upd H p (.lst (vs ++ [y]))) (.ref p) (.ls (xs ++ [oy])) (fun a => F a ∨ Fy a) := by
  cases w with
  | @ls _ vs _ _ fps h1 h2 h3 h4 h5 h6 =>
    refine ⟨vs, h1, h3, .ls (fun i a => if i = xs.length then Fy a else fps i a ∧ i < xs.length) upd_same (.inl h2) (by simp [h3]) (fun i v o a b => ?_) (fun i a f => ?_) fun i j a f g => ?_⟩
    · by_cases hi : i = xs.length
      · subst hi
        rw [List.getElem?_append_right (by omega), h3] at a
        rw [List.getElem?_append_right (by omega)] at b
        simp at a b
        subst a
        subst b
        have e : (fun a => if xs.length = xs.length then Fy a else fps xs.length a ∧ xs.length < xs.length) = Fy := by funext a; simp
        rw [e]
        refine wy.mono (Ex.refl _) fun a u f e => ?_
        rw [upd_ne fun z => dj p h2 (by rw [← z]; exact f)]
        exact e
      · have hlt : i < xs.length := by
          have := (List.getElem?_eq_some_iff.mp b).1
          rw [List.length_append] at this
          simp at this
          omega
        rw [List.getElem?_append_left (by omega)] at a
        rw [List.getElem?_append_left hlt] at b
        have w := (h4 i v o a b).mono (Ex.refl G) (H' := upd H p (.lst (vs ++ [y]))) fun a u f e => by rw [upd_ne (h5 i a f).2]; exact e
        exact w.wide fun a f => by simp [hi, hlt]; exact f
    · by_cases hi : i = xs.length
      · simp [hi] at f
        exact ⟨.inr f, fun z => dj p h2 (by rw [← z]; exact f)⟩
      · simp [hi] at f
        exact ⟨.inl (h5 i a f.1).1, (h5 i a f.1).2⟩
    · by_cases hi : i = xs.length
      · by_cases hj : j = xs.length
        · rw [hi, hj]
        · simp [hi, hj] at f g
          exact absurd f (dj a (h5 j a g.1).1)
      · by_cases hj : j = xs.length
        · simp [hi, hj] at f g
          exact absurd g (dj a (h5 i a f.1).1)
        · simp [hi, hj] at f g
          exact h6 i j a f.1 g.1

/-! ### slots out of sight -/
theorem wipe_out : ∀ {vs : List Nat} {i : Nat}, i ∉ vs → (wipe σ vs)[i]? = σ[i]?
  | [], _, _ => rfl
  | v :: vs, i, h => by
    unfold wipe
    rw [List.getElem?_set_ne (fun z => h (by rw [z]; exact List.mem_cons_self ..)), wipe_out fun z => h (List.mem_cons_of_mem _ z)]
theorem wipe_in : ∀ {vs : List Nat} {i : Nat} {v : V}, i ∈ vs → (wipe σ vs)[i]? ≠ some (some v)
  | v :: vs, i, x, h, e => by
    unfold wipe at e
    by_cases q : i = v
    · subst q
      by_cases hl : i < (wipe σ vs).length
      · rw [List.getElem?_set_self hl] at e; cases e
      · rw [List.set_eq_of_length_le (by omega), List.getElem?_eq_none (by omega)] at e; cases e
    · rw [List.getElem?_set_ne (Ne.symm q)] at e
      exact wipe_in ((List.mem_cons.mp h).resolve_left q) e
theorem wipe_in' : ∀ {vs : List Nat} {i : Nat}, i ∈ vs → i < σ.length → (wipe σ vs)[i]? = some none
  | v :: vs, i, h, hl => by
    unfold wipe
    by_cases q : i = v
    · subst q
      rw [List.getElem?_set_self (by rw [wipe_length]; exact hl)]
    · rw [List.getElem?_set_ne (Ne.symm q)]
      exact wipe_in' ((List.mem_cons.mp h).resolve_left q) hl
theorem wipe_eq {σ2 : L2.St} {vs : List Nat} (hl : σ2.length = σ.length) (h : ∀ i, i < σ.length → i ∉ vs → σ2[i]? = σ[i]?) : wipe σ2 vs = wipe σ vs := by
  refine List.ext_getElem? fun i => ?_
  by_cases hi : i < σ.length
  · by_cases hv : i ∈ vs
    · rw [wipe_in' hv hi, wipe_in' hv (by omega)]
    · rw [wipe_out hv, wipe_out hv, h i hi hv]
  · rw [List.getElem?_eq_none (by rw [wipe_length]; omega), List.getElem?_eq_none (by rw [wipe_length]; omega)]
theorem forg_length : ∀ (vs : List Nat) (ρ : Envr), (forg vs ρ).length = ρ.length
  | [], _ => rfl
  | v :: vs, ρ => by
    show (forg vs (ρ.set v none)).length = _
    rw [forg_length vs, List.length_set]
theorem forg_get : ∀ (vs : List Nat) (ρ : Envr) (i : Nat) (o : OV), (forg vs ρ)[i]? = some (some o) → i ∉ vs ∧ ρ[i]? = some (some o)
  | [], ρ, i, o, h => ⟨by simp, h⟩
  | v :: vs, ρ, i, o, h => by
    obtain ⟨h1, h2⟩ := forg_get vs (ρ.set v none) i o h
    by_cases q : i = v
    · subst q
      by_cases hl : i < ρ.length
      · rw [List.getElem?_set_self hl] at h2; cases h2
      · rw [List.set_eq_of_length_le (by omega), List.getElem?_eq_none (by omega)] at h2; cases h2
    · rw [List.getElem?_set_ne (Ne.symm q)] at h2
      exact ⟨fun z => (List.mem_cons.mp z).elim q h1, h2⟩
theorem Ok.hide (vs : List Nat) (h : Ok K G H σ ρ fps) : Ok K G H (wipe σ vs) (forg vs ρ) (fun j a => j ∉ vs ∧ fps j a) := by
  refine ⟨h.ex, by rw [wipe_length, forg_length, h.len], fun i o e => ?_, fun i j a f g => h.dj i j a f.2 g.2, fun i a f => h.fr i a f.2⟩
  obtain ⟨hv, e⟩ := forg_get vs ρ i o e
  obtain ⟨v, e1, w⟩ := h.own i o e
  exact ⟨v, by rw [wipe_out hv]; exact e1, w.wide fun a f => ⟨hv, f⟩⟩
/-- slots again in sight -/
def rest (ρ1 : Envr) : List Nat → Envr → Envr
  | [], ρ2 => ρ2
  | v :: vs, ρ2 => (rest ρ1 vs ρ2).set v (match ρ1[v]? with
    | some x => x
    | none => none)
theorem rest_length (ρ1 : Envr) : ∀ (vs : List Nat) (ρ2 : Envr), (rest ρ1 vs ρ2).length = ρ2.length
  | [], _ => rfl
  | v :: vs, ρ2 => by unfold rest; rw [List.length_set, rest_length ρ1 vs]
theorem rest_get (ρ1 : Envr) : ∀ (vs : List Nat) (ρ2 : Envr) (i : Nat) (o : OV), (rest ρ1 vs ρ2)[i]? = some (some o) → (i ∈ vs ∧ ρ1[i]? = some (some o)) ∨ (i ∉ vs ∧ ρ2[i]? = some (some o))
  | [], ρ2, i, o, h => .inr ⟨by simp, h⟩
  | v :: vs, ρ2, i, o, h => by
    unfold rest at h
    by_cases q : i = v
    · subst q
      by_cases hl : i < (rest ρ1 vs ρ2).length
      · rw [List.getElem?_set_self hl] at h
        refine .inl ⟨List.mem_cons_self .., ?_⟩
        cases e : ρ1[i]? with
        | none => rw [e] at h; cases h
        | some x => rw [e] at h; exact h
      · rw [List.set_eq_of_length_le (by omega), List.getElem?_eq_none (by omega)] at h; cases h
    · rw [List.getElem?_set_ne (Ne.symm q)] at h
      rcases rest_get ρ1 vs ρ2 i o h with ⟨a, b⟩ | ⟨a, b⟩
      · exact .inl ⟨List.mem_cons_of_mem _ a, b⟩
      · exact .inr ⟨fun z => (List.mem_cons.mp z).elim q a, b⟩
theorem Ok.unhide {vs : List Nat} {ρ2 : Envr} {fps2 : Nat → Addr → Prop} (h : Ok K G H σ ρ fps) (p : Post K [] G H (wipe σ vs) (fun j a => j ∉ vs ∧ fps j a) G' H' (wipe σ vs) ρ2 fps2) :
    Post K P G H σ fps G' H' σ (rest ρ vs ρ2) (fun j a => (j ∈ vs ∧ fps j a) ∨ (j ∉ vs ∧ fps2 j a)) := by
  have nt : ∀ j a, j ∈ vs → fps j a → ¬ Tot (fun j a => j ∉ vs ∧ fps j a) a := fun j a hj f ⟨k, nk, g⟩ => nk (by rw [← h.dj j k a f g]; exact hj)
  refine ⟨⟨p.ok.ex, by rw [rest_length, ← p.ok.len, wipe_length], fun i o e => ?_, fun i j a f g => ?_, fun i a f => ?_⟩, ⟨fun a u e n => p.frm.h a u e fun ⟨j, t⟩ => n ⟨j, t.2⟩, fun a e n => p.frm.g a e fun ⟨j, t⟩ => n ⟨j, t.2⟩, p.frm.ex⟩, fun a ⟨j, t⟩ => ?_, fun _ _ => rfl⟩
  · rcases rest_get ρ vs ρ2 i o e with ⟨hv, e⟩ | ⟨hv, e⟩
    · obtain ⟨v, e1, w⟩ := h.own i o e
      exact ⟨v, e1, (w.mono p.frm.ex fun a u f ha => p.frm.h a u ha (nt i a hv f)).wide fun a f => .inl ⟨hv, f⟩⟩
    · obtain ⟨v, e1, w⟩ := p.ok.own i o e
      rw [wipe_out hv] at e1
      exact ⟨v, e1, w.wide fun a f => .inr ⟨hv, f⟩⟩
  · rcases f with ⟨hi, f⟩ | ⟨hi, f⟩ <;> rcases g with ⟨hj, g⟩ | ⟨hj, g⟩
    · exact h.dj i j a f g
    · rcases p.sub a ⟨j, g⟩ with z | z
      · exact absurd z (nt i a hi f)
      · exact absurd z (h.fr i a f).1
    · rcases p.sub a ⟨i, f⟩ with z | z
      · exact absurd z (nt j a hj g)
      · exact absurd z (h.fr j a g).1
    · exact p.ok.dj i j a f g
  · rcases f with ⟨hi, f⟩ | ⟨hi, f⟩
    · obtain ⟨n, e⟩ := h.fr i a f
      refine ⟨?_, by rw [p.frm.g a n (nt i a hi f)]; exact e⟩
      cases q : H a with
      | none => exact absurd q n
      | some u => rw [p.frm.h a u q (nt i a hi f)]; simp
    · exact p.ok.fr i a f
  · rcases t with ⟨_, t⟩ | ⟨_, t⟩
    · exact .inl ⟨j, t⟩
    · rcases p.sub a ⟨j, t⟩ with z | z
      · obtain ⟨k, _, z⟩ := z
        exact .inl ⟨k, z⟩
      · exact .inr z
end

/-! ### comprehensions -/
def lcL (g : Tg) (ft : FT) (fo : FO) (vs : List Nat) : List D → List OV → Envr → Option (List OV × Envr)
  | [], acc, ρ => some (acc, ρ)
  | d :: ds, acc, ρ => match g d ρ with
    | none => none
    | some ρ1 => match ft ρ1 with
      | some (.ok true ρ2) => match fo ρ2 with
        | some (.ok o ρ3) => if acc.length < 100000 then lcL g ft fo vs ds (acc ++ [o]) (forg vs ρ3) else none
        | _ => none
      | some (.ok false ρ2) => lcL g ft fo vs ds acc (forg vs ρ2)
      | _ => none
/-- the other slots of n -/
def others (n : Nat) (vs : List Nat) : List Nat := (List.range n).filter fun i => !vs.contains i
def fLc (n : Nat) (it : FI) (g : Tg) (ft : FT) (fo : FO) (vs : List Nat) : FO := fun ρ => rb (it ρ) fun ds ρ1 => if ρ1.length = n then match lcL g ft fo vs ds [] (forg vs ρ1) with
    | some (acc, ρ2) => some (.ok (.ls acc) (rest ρ1 vs ρ2))
    | none => none
  else none
abbrev W0 : WX := fun _ _ _ _ => False
section
variable {X : Cx} {cm : Str → Addr} {W : WX} {K : PySem.W.Frag} {pos : Pos}
theorem do_lc {n : Nat} {vs : List Nat} {wi : TI} {fi : FI} {tg : TG} {g : Tg} {tt : TT} {ft : FT} {te : TE} {fo : FO} (hi : DI K cm W wi fi) (hg : DG K (others n vs) tg g) (ht : DT K cm W0 tt ft) (he : DO K cm W0 te fo) : DO K cm W (tLc wi tg tt te vs) (fLc n fi g ft fo vs) := by
  intro G H σ ρ fps ok r e Q q
  unfold fLc at e
  cases hf : fi ρ with
  | none => rw [hf] at e; cases e
  | some r1 =>
    rw [hf] at e
    cases r1 with
    | ex k f d ρ1 =>
      cases e
      exact hi G H σ ρ fps ok _ hf _ q
    | ok ds ρ1 =>
      have e : (if ρ1.length = n then match lcL g ft fo vs ds [] (forg vs ρ1) with
        | some (acc, ρ2) => some (.ok (.ls acc) (rest ρ1 vs ρ2))
        | none => none
        else none) = some r := e
      split at e
      · rename_i hn
        cases hl : lcL g ft fo vs ds [] (forg vs ρ1) with
        | none => rw [hl] at e; cases e
        | some z =>
          obtain ⟨acc, ρ2⟩ := z
          rw [hl] at e
          cases e
          refine hi G H σ ρ fps ok _ hf _ fun J G1 H1 fps1 p w D hD => ?_
          have okh := p.ok.hide vs
          have pD := okh.newH (P := []) (o := .lst []) hD
          have g0 : Got K G1 (upd H1 D (.lst [])) (fun j a => j ∉ vs ∧ fps1 j a) (.ref D) (.ls []) (fun a => a = D) :=
            ⟨.ls (fun _ _ => False) upd_same rfl rfl (fun i v o a b => by simp at b) (fun _ _ f => f.elim) (fun _ _ _ f _ => f.elim), fun i a f z => (p.ok.fr i a f.2).1 (by rw [z]; exact hD), fun a z => by rw [z]; exact ⟨by rw [upd_same]; simp, p.ok.ex.none hD⟩⟩
          refine ⟨fun i m H2 => m = ds.length - i ∧ i ≤ ds.length ∧ ∃ G2 ρ3 fps2 acc2 F, Post K [] G1 H1 (wipe σ vs) (fun j a => j ∉ vs ∧ fps1 j a) G2 H2 (wipe σ vs) ρ3 fps2 ∧ Got K G2 H2 fps2 (.ref D) (.ls acc2) F ∧ (∀ a, F a → Tot (fun j a => j ∉ vs ∧ fps1 j a) a ∨ H1 a = none) ∧ lcL g ft fo vs (ds.drop i) acc2 ρ3 = some (acc, ρ2),
            ⟨_, rfl, Nat.zero_le _, G1, _, _, [], _, pD, g0, fun a z => .inr (by rw [z]; exact hD), by simpa using hl⟩, ?_⟩
          rintro i m H2 ⟨rfl, hle, G2, ρ3, fps2, acc2, F, p2, g2, s2, e2⟩
          have exG : Ex G1 G2 := p2.frm.ex
          by_cases hlt : i < ds.length
          · refine .inr ⟨w.go i G2 H2 exG p2.ok.ex hlt, fun H' => ∃ G3 ρ4 fps3 acc3 F3, Post K [] G1 H1 (wipe σ vs) (fun j a => j ∉ vs ∧ fps1 j a) G3 H' (wipe σ vs) ρ4 fps3 ∧ Got K G3 H' fps3 (.ref D) (.ls acc3) F3 ∧ (∀ a, F3 a → Tot (fun j a => j ∉ vs ∧ fps1 j a) a ∨ H1 a = none) ∧ lcL g ft fo vs (ds.drop (i + 1)) acc3 ρ4 = some (acc, ρ2),
              fun H' z => ⟨ds.length - (i + 1), by omega, rfl, hlt, z⟩, fun x H' y => ?_⟩
            obtain ⟨G3, d, al, hd, rx⟩ := w.yld i G2 H2 x H' exG p2.ok.ex hlt y
            rw [drop_cons hd] at e2
            unfold lcL at e2
            have p3 := al.post (P := []) p2.ok
            cases hq : g d ρ3 with
            | none => rw [hq] at e2; cases e2
            | some ρ4 =>
              rw [hq] at e2
              refine hg G3 H' (wipe σ vs) ρ3 fps2 (al.post (P := others n vs) p2.ok).ok x d ρ4 rx hq _ fun σ4 fps4 p4 hlen => ?_
              have hw : wipe σ4 vs = wipe σ vs := by
                have e1 : wipe σ4 vs = wipe (wipe σ vs) vs := wipe_eq hlen fun j hj hv => p4.pr j (by
                  unfold others
                  rw [List.mem_filter]
                  refine ⟨List.mem_range.mpr ?_, by simpa using hv⟩
                  rw [wipe_length] at hj
                  have := p.ok.len
                  omega)
                rw [e1]
                exact wipe_eq (wipe_length σ vs) fun j hj hv => wipe_out hv
              refine ⟨hw, ?_⟩
              have e2 : (match ft ρ4 with
                | some (.ok true ρ2) => match fo ρ2 with
                  | some (.ok o ρ3) => if acc2.length < 100000 then lcL g ft fo vs (ds.drop (i + 1)) (acc2 ++ [o]) (forg vs ρ3) else none
                  | _ => none
                | some (.ok false ρ2) => lcL g ft fo vs (ds.drop (i + 1)) acc2 (forg vs ρ2)
                | _ => none) = some (acc, ρ2) := e2
              have P4 : Post K [] G2 H2 (wipe σ vs) fps2 G3 H' σ4 ρ4 fps4 := Post.trans p3 ⟨p4.ok, p4.frm, p4.sub, fun _ h => nomatch h⟩
              -- behind the turn: the block's own slots forgotten
              have back : ∀ {G5 H5 ρ5 fps5}, Post K [] G3 H' σ4 fps4 G5 H5 σ4 ρ5 fps5 → Post K [] G2 H2 (wipe σ vs) fps2 G5 H5 (wipe σ vs) (forg vs ρ5) (fun j a => j ∉ vs ∧ fps5 j a) := fun {G5 H5 ρ5 fps5} p5 => by
                have pp := P4.trans p5
                have o5 := p5.ok.hide vs
                rw [hw] at o5
                exact ⟨o5, pp.frm, fun a ⟨j, t⟩ => pp.sub a ⟨j, t.2⟩, fun _ h => nomatch h⟩
              cases hft : ft ρ4 with
              | none => rw [hft] at e2; cases e2
              | some rt =>
                rw [hft] at e2
                cases rt with
                | ex k f d ρ5 => cases e2
                | ok b ρ5 =>
                  refine ht G3 H' σ4 ρ4 fps4 p4.ok _ hft _ fun G5 H5 fps5 p5 => ?_
                  cases b with
                  | false =>
                    have bk := back p5
                    exact iteF ⟨G5, _, _, acc2, F, p2.trans bk, g2.keep bk, s2, e2⟩
                  | true =>
                    refine iteT ?_
                    have e2 : (match fo ρ5 with
                      | some (.ok o ρ3) => if acc2.length < 100000 then lcL g ft fo vs (ds.drop (i + 1)) (acc2 ++ [o]) (forg vs ρ3) else none
                      | _ => none) = some (acc, ρ2) := e2
                    cases hfo : fo ρ5 with
                    | none => rw [hfo] at e2; cases e2
                    | some ro =>
                      rw [hfo] at e2
                      cases ro with
                      | ex k f d ρ6 => cases e2
                      | ok oy ρ6 =>
                        have e2 : (if acc2.length < 100000 then lcL g ft fo vs (ds.drop (i + 1)) (acc2 ++ [oy]) (forg vs ρ6) else none) = some (acc, ρ2) := e2
                        split at e2
                        · rename_i hacc
                          refine he G5 H5 σ4 ρ5 fps5 p5.ok _ hfo _ fun y' G6 H6 fps6 Fy p6 gy sy => ?_
                          have p56 := p5.trans p6
                          have bk := back p56
                          have gD := g2.keep (P4.trans p56)
                          have dj : ∀ a, F a → ¬ Fy a := fun a fa fb => by
                            have n4 : ¬ Tot fps5 a := fun ⟨j, t⟩ => ((g2.keep (P4.trans p5)).dj j a t fa)
                            rcases sy a fb with z | z
                            · exact n4 z
                            · exact ((g2.keep (P4.trans p5)).fr a fa).1 z
                          obtain ⟨vl, hv1, hv2, w2⟩ := own_snoc gD.own gy.own dj
                          have gDn : G6 D = none ∧ ¬ Tot fps6 D := by
                            cases gD.own with
                            | ls fps h1 h2 h3 h4 h5 h6 => exact ⟨(gD.fr D h2).2, fun ⟨j, t⟩ => gD.dj j D t h2⟩
                          refine ⟨vl, hv1, by rw [hv2]; exact Nat.lt_of_lt_of_le hacc (by decide), ?_⟩
                          have ok7 := bk.ok.updH (p := D) (u := .lst (vl ++ [y'])) (fun ⟨j, t⟩ => gDn.2 ⟨j, t.2⟩) gDn.1
                          have pk := p2.trans bk
                          refine ⟨G6, _, _, acc2 ++ [oy], fun a => F a ∨ Fy a, ⟨ok7, ⟨fun a u ea n => ?_, pk.frm.g, pk.frm.ex⟩, pk.sub, fun _ h => nomatch h⟩, ⟨w2, fun j a t f => ?_, fun a f => ?_⟩, fun a f => ?_, e2⟩
                          · rw [upd_ne fun z => by rw [z, hD] at ea; cases ea]
                            exact pk.frm.h a u ea n
                          · rcases f with f | f
                            · exact gD.dj j a t.2 f
                            · exact gy.dj j a t.2 f
                          · have z : H6 a ≠ none ∧ G6 a = none := f.elim (gD.fr a) (gy.fr a)
                            refine ⟨?_, z.2⟩
                            by_cases q : a = D
                            · rw [q, upd_same]; simp
                            · rw [upd_ne q]; exact z.1
                          · rcases f with f | f
                            · exact s2 a f
                            · exact sub_back (p2.trans (P4.trans p5)) (sy a f)
                        · cases e2
          · have hh : i = ds.length := by omega
            subst hh
            rw [List.drop_length] at e2
            cases e2
            refine .inl ⟨w.stop G2 H2 exG p2.ok.ex, ?_⟩
            have pu := p.ok.unhide (P := []) p2
            refine q (.ref D) G2 H2 _ F (p.trans pu) ⟨g2.own, fun j a t f => ?_, g2.fr⟩ fun a f => ?_
            · rcases t with ⟨hj, t⟩ | ⟨hj, t⟩
              · rcases s2 a f with ⟨k, nk, z⟩ | z
                · exact nk (by rw [← p.ok.dj j k a t z]; exact hj)
                · exact (p.ok.fr j a t).1 z
              · exact g2.dj j a t f
            · rcases s2 a f with ⟨k, _, z⟩ | z
              · exact p.sub a ⟨k, z⟩
              · exact fresh_back p z
      · cases e
theorem ox_lc {n : Nat} {elt tg iter : Expr} {ifs : List Expr} {scope : Scope} {own : List (Str × Nat)} {wi : TI} {fi : FI} {g : TG} {gg : Tg} {tt : TT} {ft : FT} {te : TE} {fo : FO} (hc : X.calm = true) (hN : X.N.Nodup) (hi : Ix X cm W tg iter wi fi) (ok : BlkOk X.N X.env.scope scope own)
    (hg : ∀ (s : Shared) (H : Hp) (C : Addr) (cl : List (Str × Addr)) (fp : List Addr), Gx (X.blk s H scope (compEnvC scope cl C X.env) fp) (others n (own.map (·.2))) tg g gg)
    (ht : ∀ (s : Shared) (H : Hp) (C : Addr) (cl : List (Str × Addr)) (fp : List Addr), PTs (X.blk s H scope (compEnvC scope cl C X.env) fp) ifs tt) (ht2 : DT X.K cm W0 tt ft)
    (he : ∀ (s : Shared) (H : Hp) (C : Addr) (cl : List (Str × Addr)) (fp : List Addr), Ox (X.blk s H scope (compEnvC scope cl C X.env) fp) cm W0 elt te fo) (hs : ∀ x, foldedSetIterable iter X.env x = pure x := by intro _; rfl) :
    Ox X cm W (.ListComp elt [⟨tg, iter, ifs, 0⟩] scope pos) (tLc wi g tt te (own.map (·.2))) (fLc n fi gg ft fo (own.map (·.2))) := by
  have s0 : Shared := X.s_0
  exact ⟨pe_lc hc hN hi.pe ok (fun s H C cl fp => (hg s H C cl fp).pe) ht (fun s H C cl fp => (he s H C cl fp).pe) hs, do_lc hi.de (hg X.s_0 X.H_0 0 [] []).de ht2 (he X.s_0 X.H_0 0 [] []).de⟩
theorem sx_setLc {P : List Nat} {n i : Nat} {y : Str} {py spos : Pos} {elt tg iter : Expr} {ifs : List Expr} {scope : Scope} {own : List (Str × Nat)} {wi : TI} {fi : FI} {g : TG} {gg : Tg} {tt : TT} {ft : FT} {te : TE} {fo : FO} (hc : X.calm = true) (hN : X.N.Nodup) (hP : i ∉ P) (hy : X.N[i]? = some y) (hyl : X.env.scope.names.lookup y = some .local)
    (hsw : swapsWith (.ListComp elt [⟨tg, iter, ifs, 0⟩] scope pos) (some (.Name y py)) spos.line X.env = pure true) (hi : Ix X cm W tg iter wi fi) (ok : BlkOk X.N X.env.scope scope own)
    (hg : ∀ (s : Shared) (H : Hp) (C : Addr) (cl : List (Str × Addr)) (fp : List Addr), Gx (X.blk s H scope (compEnvC scope cl C X.env) fp) (others n (own.map (·.2))) tg g gg)
    (ht : ∀ (s : Shared) (H : Hp) (C : Addr) (cl : List (Str × Addr)) (fp : List Addr), PTs (X.blk s H scope (compEnvC scope cl C X.env) fp) ifs tt) (ht2 : DT X.K cm W0 tt ft)
    (he : ∀ (s : Shared) (H : Hp) (C : Addr) (cl : List (Str × Addr)) (fp : List Addr), Ox (X.blk s H scope (compEnvC scope cl C X.env) fp) cm W0 elt te fo) (hs : ∀ x, foldedSetIterable iter X.env x = pure x := by intro _; rfl) :
    Sx X cm W P (.Assign [.Name y py] (.ListComp elt [⟨tg, iter, ifs, 0⟩] scope pos) spos) (tAsg (tLc wi g tt te (own.map (·.2))) (gName i)) (sSet i (fLc n fi gg ft fo (own.map (·.2)))) :=
  ⟨ps_setLc hc hN hy hyl hsw hi.pe ok (fun s H C cl fp => (hg s H C cl fp).pe) ht (fun s H C cl fp => (he s H C cl fp).pe) hs, ds_set (do_lc hi.de (hg X.s_0 X.H_0 0 [] []).de ht2 (he X.s_0 X.H_0 0 [] []).de) hP⟩
def fYes : FT := fun ρ => some (.ok true ρ)
theorem dt_yes : DT K cm W tYes fYes := by
  intro G H σ ρ fps ok r e Q q
  cases e
  exact q G H fps (.refl ok)
end
end LD

end
section
set_option Elab.async false
set_option linter.all false
set_option maxRecDepth 100000
set_option maxHeartbeats 4000000
namespace LD
open PySem PySem.Spec PyProof.Rows L2

/-! ### quiet views: a slot's own things are read where they stand -/
abbrev FQ := Envr → Option OV
def DQ (K : PySem.W.Frag) (t : TE) (f : FQ) : Prop := ∀ G H σ ρ fps, Ok K G H σ ρ fps → ∀ o, f ρ = some o → ∀ Q : VK, (∀ v F, Own K G H v o F → Q v H) → t σ H Q
structure Qx (X : Cx) (e : Expr) (t : TE) (f : FQ) : Prop where
  pe : PE X e t
  de : DQ X.K t f
def qV (i : Nat) : FQ := fun ρ => match ρ[i]? with
  | some x => x
  | none => none
def qC (d : D) : FQ := fun _ => some (.fz d)
def qI (p : Int → Int → Int) (f g : FQ) : FQ := fun ρ => match f ρ, g ρ with
  | some (.fz (.int i)), some (.fz (.int j)) => some (.fz (.int (p i j)))
  | _, _ => none
def atO : OV → Int → Option OV
  | .ls xs, i => atI xs i
  | .fz (.tup xs), i => (atI xs i).map .fz
  | .fz (.lst xs), i => (atI xs i).map .fz
  | _, _ => none
def qAt (f g : FQ) : FQ := fun ρ => match f ρ, g ρ with
  | some o, some (.fz (.int i)) => atO o i
  | _, _ => none
def lenO : OV → Option OV
  | .ls xs => some (.fz (.int xs.length))
  | .fz d => lenD d
  | _ => none
def qLen (f : FQ) : FQ := fun ρ => match f ρ with
  | some o => lenO o
  | none => none
def fQ (f : FQ) : FE := fun ρ => match f ρ with
  | some (.fz d) => some (.ok d ρ)
  | _ => none
def keyD (kvs : List (Key × D)) (k : Key) : Option D := (kvs.find? fun kv => decide (kv.1 = k)).map (·.2)
def qKey (f : FQ) (s : Str) : FQ := fun ρ => match f ρ with
  | some (.dk kvs) => (keyD kvs (.inr s)).map .fz
  | some (.fz (.dk kvs)) => (keyD kvs (.inr s)).map .fz
  | _ => none
section
variable {X : Cx} {cm : Str → Addr} {W : WX} {P : List Nat} {K : PySem.W.Frag} {G H : Hp} {pos p : Pos} {a b e : Expr} {ta tb : TE} {f g : FQ}
theorem dq_V (i : Nat) : DQ K (tVar i) (qV i) := by
  intro G H σ ρ fps ok o e Q q
  unfold qV at e
  cases h : ρ[i]? with
  | none => rw [h] at e; cases e
  | some x =>
    rw [h] at e
    subst e
    obtain ⟨v, hv, w⟩ := ok.own i o h
    exact ⟨v, hv, q v _ w⟩
theorem dq_C {v : V} {d : D} (r : ∀ G, Rep K G v d) : DQ K (tC v) (qC d) := by
  intro G H σ ρ fps ok o e Q q
  cases e
  exact q v (fun _ => False) (.fz (r G))
theorem own_int {v : V} {i : Int} {F : Addr → Prop} (w : Own K G H v (.fz (.int i)) F) : v = .int i := by
  cases w with
  | fz r => cases r; rfl
theorem dq_I {r : Int → Int → Int} (h : DQ K ta f) (h' : DQ K tb g) : DQ K (tOp (rI0 fun i j => .int (r i j)) ta tb) (qI r f g) := by
  intro G H σ ρ fps ok o e Q q
  unfold qI at e
  split at e
  · rename_i i j h1 h2
    cases e
    refine h G H σ ρ fps ok _ h1 _ fun v F w => h' G H σ ρ fps ok _ h2 _ fun u F' w' => ?_
    exact ⟨i, j, own_int w, own_int w', q _ (fun _ => False) (.fz (.int _))⟩
  · cases e
theorem atI_get2 {α β : Type} {xs : List α} {ys : List β} (hl : xs.length = ys.length) {i : Int} {y : β} (h : atI ys i = some y) : ∃ (j : Nat) (x : α), xs[j]? = some x ∧ ys[j]? = some y ∧ atI xs i = some x := by
  unfold atI at h ⊢
  rw [hl]
  cases e : ixN ys.length i with
  | none => rw [e] at h; cases h
  | some j =>
    rw [e] at h
    have h : ys[j]? = some y := h
    have hj := (List.getElem?_eq_some_iff.mp h).1
    refine ⟨j, xs[j]'(by omega), by simp [hl, hj], h, ?_⟩
    show xs[j]? = _
    simp [hl, hj]
theorem rix_own {v : V} {o o' : OV} {F : Addr → Prop} {i : Int} (ex : Ex G H) (w : Own K G H v o F) (h : atO o i = some o') {Q : VK} (q : ∀ v F, Own K G H v o' F → Q v H) : rIx K v (.int i) H Q := by
  cases w with
  | @ls p vs xs _ fps h1 h2 h3 h4 h5 h6 =>
    have h : atI xs i = some o' := h
    obtain ⟨j, x, e1, e2, e3⟩ := atI_get2 h3 h
    exact .inl ⟨p, vs, i, x, rfl, rfl, Or.inl (Or.inl h1), e3, q x _ (h4 j x o' e1 e2)⟩
  | fz r =>
    cases r <;> first | (cases h; done) | skip
    · rename_i aa xs ds h1 h2
      have h : (atI ds i).map OV.fz = some o' := h
      cases e : atI ds i with
      | none => rw [e] at h; cases h
      | some d =>
        rw [e] at h
        cases h
        obtain ⟨x, ex', rx⟩ := atI_rep h2 e
        exact .inr (.inl ⟨aa, xs, i, x, rfl, rfl, sqt_ex ex h1, ex', q x (fun _ => False) (.fz rx)⟩)
    · rename_i aa xs ds h1 h2
      have h : (atI ds i).map OV.fz = some o' := h
      cases e : atI ds i with
      | none => rw [e] at h; cases h
      | some d =>
        rw [e] at h
        cases h
        obtain ⟨x, ex', rx⟩ := atI_rep h2 e
        exact .inl ⟨aa, xs, i, x, rfl, rfl, Or.inl (Or.inl (ex _ _ h1)), ex', q x (fun _ => False) (.fz rx)⟩
  | dk => cases h
theorem dq_at (h : DQ K ta f) (h' : DQ K tb g) : DQ K (tOp (rIx K) ta tb) (qAt f g) := by
  intro G H σ ρ fps ok o e Q q
  unfold qAt at e
  split at e
  · rename_i o1 i h1 h2
    refine h G H σ ρ fps ok _ h1 _ fun v F w => h' G H σ ρ fps ok _ h2 _ fun u F' w' => ?_
    rw [own_int w']
    exact rix_own ok.ex w e q
  · cases e
theorem lenV_own {v : V} {o : OV} {F : Addr → Prop} {n : OV} (ex : Ex G H) (w : Own K G H v o F) (h : lenO o = some n) : ∃ m : Nat, n = .fz (.int m) ∧ LenV K v H m := by
  cases w with
  | @ls p vs xs _ fps h1 h2 h3 h4 h5 h6 =>
    cases h
    exact ⟨xs.length, rfl, .inl ⟨vs, Or.inl (Or.inl h1), h3.symm⟩⟩
  | dk => cases h
  | @fz _ d _ r =>
    replace h : lenD d = some n := h
    cases r <;> first | (cases h; done) | skip
    · simp only [lenD] at h
      split at h
      · rename_i c
        cases h
        exact ⟨_, rfl, c, rfl⟩
      · cases h
    · rename_i aa xs ds h1 h2
      cases h
      exact ⟨ds.length, rfl, .inr ⟨xs, sqt_ex ex h1, h2.length.symm⟩⟩
    · rename_i aa xs ds h1 h2
      cases h
      exact ⟨ds.length, rfl, .inl ⟨xs, Or.inl (Or.inl (ex _ _ h1)), h2.length.symm⟩⟩
    · rename_i aa ns h1
      cases h
      exact ⟨ns.length, rfl, .inl ⟨_, sql_ex ex h1, (List.length_map ..).symm⟩⟩
theorem dq_len (h : DQ K ta f) : DQ K (tCB (fun xs H Q => ∃ x n, xs = [x] ∧ LenV K x H n ∧ Q (.int n) H) (tCons ta tNil)) (qLen f) := by
  intro G H σ ρ fps ok o e Q q
  unfold qLen at e
  cases h1 : f ρ with
  | none => rw [h1] at e; cases e
  | some o1 =>
    rw [h1] at e
    refine h G H σ ρ fps ok _ h1 _ fun v F w => ?_
    obtain ⟨m, rfl, lv⟩ := lenV_own ok.ex w e
    exact ⟨v, m, rfl, lv, q _ (fun _ => False) (.fz (.int _))⟩
theorem de_Q (h : DQ K ta f) : DE K cm W ta (fQ f) := by
  intro G H σ ρ fps ok r e Q q
  unfold fQ at e
  split at e
  · rename_i d h1
    cases e
    refine h G H σ ρ fps ok _ h1 _ fun v F w => ?_
    cases w with
    | fz r => exact q v G H fps (.refl ok) r
  · cases e
theorem dx_Q (h : Qx X e ta f) : Dx X cm W e ta (fQ f) := ⟨h.pe, de_Q h.de⟩
theorem qx_V (i : Nat) {x : Str} (hN : X.N[i]? = some x := by rfl) (hv : Vis X.env.scope x := by first | exact Or.inl rfl | exact Or.inr (Or.inl rfl) | exact Or.inr (Or.inr rfl)) (hd : (x == ("__debug__" : Str)) = false := by decide)
    (hcd : (x == ("__classdict__" : Str)) = false := by decide) : Qx X (.Name x pos) (tVar i) (qV i) := ⟨pe_var hN hv hd hcd, dq_V i⟩
theorem qx_int {i : Int} {j} : Qx X (.Constant (.int i) j pos) (tC (.int i)) (qC (.int i)) := ⟨pe_int, dq_C fun _ => .int i⟩
theorem qx_add (h : Qx X a ta f) (h' : Qx X b tb g) : Qx X (.BinOp a .Add b pos) (tOp (rI0 fun i j => .int (i + j)) ta tb) (qI (fun i j => i + j) f g) := ⟨pe_op op_add h.pe h'.pe, dq_I h.de h'.de⟩
theorem qx_sub (h : Qx X a ta f) (h' : Qx X b tb g) : Qx X (.BinOp a .Sub b pos) (tOp (rI0 fun i j => .int (i - j)) ta tb) (qI (fun i j => i - j) f g) := ⟨pe_op op_sub h.pe h'.pe, dq_I h.de h'.de⟩
/-- - i -/
def qNeg (f : FQ) : FQ := fun ρ => match f ρ with
  | some (.fz (.int i)) => some (.fz (.int (-i)))
  | _ => none
theorem qx_neg (h : Qx X a ta f) : Qx X (.UnaryOp .USub a pos) (tUn (rU fun i => .int (-i)) ta) (qNeg f) := ⟨pe_un un_neg h.pe, by
  intro G H σ ρ fps ok o e Q q
  unfold qNeg at e
  split at e
  · rename_i i h1
    cases e
    refine h.de G H σ ρ fps ok _ h1 _ fun v F w => ?_
    exact ⟨i, own_int w, q _ (fun _ => False) (.fz (.int _))⟩
  · cases e⟩
theorem qx_ix (h : Qx X a ta f) (h' : Qx X b tb g) (hs : PlainIx b := by exact fun _ _ => rfl) : Qx X (.Subscript a b pos) (tOp (rIx X.K) ta tb) (qAt f g) := ⟨pe_ix ix_seq h.pe h'.pe hs, dq_at h.de h'.de⟩
theorem qx_len {x : Str} (hm : X.mg "len" = none) (h : Qx X a ta f) (hg : Gl X "len" := by rfl) (he : starEach [a] X.env = (false, eval a X.env) :: starEach [] X.env := by rfl) (hpl : (backTo pos (starEach [] X.env)).any (·.1) = false := by rfl) :
    Qx X (.Call (.Name "len" p) [a] [] pos) (tCB (fun xs H Q => ∃ x n, xs = [x] ∧ LenV X.K x H n ∧ Q (.int n) H) (tCons ta tNil)) (qLen f) := ⟨pe_callB call_len hg hm boot_len (pa_cons h.pe pa_nil he) (by decide) (by decide) he hpl, dq_len h.de⟩
end
end LD

end
section
set_option Elab.async false
set_option linter.all false
set_option maxRecDepth 100000
set_option maxHeartbeats 4000000
namespace LD
open PySem PySem.Spec PyProof.Rows L2

section
variable {K : PySem.W.Frag} {P : List Nat} {G H G1 H1 H2 : Hp} {σ : L2.St} {ρ ρ1 : Envr} {fps fps1 : Nat → Addr → Prop} {v0 y : V} {o o' oy : OV} {F Fy : Addr → Prop} {i : Nat}
/-- the object of slot i turns, the value y goes into it -/
theorem Post.mutSlot (p : Post K P G H σ fps G1 H1 σ ρ1 fps1) (g : Got K G1 H1 fps1 y oy Fy) (s : ∀ a, Fy a → Tot fps a ∨ H a = none) (hi : i < ρ1.length) (hv : σ[i]? = some (some v0))
    (hout : ∀ a, ¬ fps1 i a → H2 a = H1 a) (hin : ∀ a, fps1 i a → H2 a ≠ none) (w : Own K G1 H2 v0 o' (fun a => fps1 i a ∨ Fy a)) :
    Post K P G H σ fps G1 H2 σ (ρ1.set i (some o')) (fun j a => if j = i then fps1 i a ∨ Fy a else fps1 j a) := by
  have out : ∀ a, ¬ Tot fps1 a → H2 a = H1 a := fun a n => hout a fun f => n ⟨i, f⟩
  have ni : ∀ j a, j ≠ i → fps1 j a → ¬ fps1 i a := fun j a n f f' => n (p.ok.dj j i a f f')
  refine ⟨⟨fun a u e => ?_, by rw [List.length_set]; exact p.ok.len, fun j u e => ?_, fun j k a f f' => ?_, fun j a f => ?_⟩, ⟨fun a u e n => ?_, p.frm.g, p.frm.ex⟩, fun a ⟨j, t⟩ => ?_, p.pr⟩
  · rw [hout a fun f => by rw [(p.ok.fr i a f).2] at e; cases e]
    exact p.ok.ex a u e
  · by_cases q : j = i
    · subst q
      rw [List.getElem?_set_self hi] at e
      cases e
      exact ⟨v0, hv, by simpa using w⟩
    · rw [List.getElem?_set_ne (Ne.symm q)] at e
      obtain ⟨v, e1, w1⟩ := p.ok.own j u e
      exact ⟨v, e1, (w1.mono (Ex.refl _) fun a u f e => by rw [hout a (ni j a q f)]; exact e).wide fun a f => by simpa [q] using f⟩
  · by_cases q1 : j = i
    · by_cases q2 : k = i
      · rw [q1, q2]
      · simp [q1, q2] at f f'
        rcases f with f | f
        · exact absurd f (ni k a q2 f')
        · exact absurd f (g.dj k a f')
    · by_cases q2 : k = i
      · simp [q1, q2] at f f'
        rcases f' with z | z
        · exact absurd z (ni j a q1 f)
        · exact absurd z (g.dj j a f)
      · simp [q1, q2] at f f'
        exact p.ok.dj j k a f f'
  · by_cases q1 : j = i
    · simp [q1] at f
      rcases f with f | f
      · exact ⟨hin a f, (p.ok.fr i a f).2⟩
      · exact ⟨by rw [hout a (g.dj i a · f)]; exact (g.fr a f).1, (g.fr a f).2⟩
    · simp [q1] at f
      exact ⟨by rw [hout a (ni j a q1 f)]; exact (p.ok.fr j a f).1, (p.ok.fr j a f).2⟩
  · have nt : ¬ Tot fps1 a := fun t => (p.sub a t).elim n fun z => by rw [z] at e; cases e
    rw [out a nt]
    exact p.frm.h a u e n
  · by_cases q1 : j = i
    · simp [q1] at t
      rcases t with t | t
      · exact p.sub a ⟨i, t⟩
      · exact s a t
    · simp [q1] at t
      exact p.sub a ⟨j, t⟩
theorem own_ls_inv {xs : List OV} (w : Own K G H y (.ls xs) F) : ∃ (p : Addr) (vs : List V) (fps : Nat → Addr → Prop), y = .ref p ∧ H p = some (.lst vs) ∧ F p ∧ vs.length = xs.length ∧
      (∀ (i : Nat) (v : V) (o : OV), vs[i]? = some v → xs[i]? = some o → Own K G H v o (fps i)) ∧ (∀ i a, fps i a → F a ∧ a ≠ p) ∧ (∀ i j a, fps i a → fps j a → i = j) := by
  cases w with
  | ls fps h1 h2 h3 h4 h5 h6 => exact ⟨_, _, fps, rfl, h1, h2, h3, h4, h5, h6⟩
theorem set_get {α : Type} {xs : List α} {k i : Nat} {y x : α} (h : (xs.set k y)[i]? = some x) : (i = k ∧ k < xs.length ∧ x = y) ∨ (i ≠ k ∧ xs[i]? = some x) := by
  by_cases q : i = k
  · subst q
    by_cases hl : i < xs.length
    · rw [List.getElem?_set_self hl] at h
      cases h
      exact .inl ⟨rfl, hl, rfl⟩
    · rw [List.set_eq_of_length_le (by omega), List.getElem?_eq_none (by omega)] at h
      cases h
  · rw [List.getElem?_set_ne (Ne.symm q)] at h
    exact .inr ⟨q, h⟩
/-- an item of an own list is exchanged -/
theorem own_set {p : Addr} {vs : List V} {xs : List OV} (w : Own K G H (.ref p) (.ls xs) F) (hp : H p = some (.lst vs)) (wy : Own K G H y oy Fy) (dj : ∀ a, F a → ¬ Fy a) (k : Nat) : Own K G (upd H p (.lst (vs.set k y))) (.ref p) (.ls (xs.set k oy)) (fun a => F a ∨ Fy a) := by
  obtain ⟨p', vs', fps, e1, h1, h2, h3, h4, h5, h6⟩ := own_ls_inv w
  cases e1
  rw [hp] at h1
  cases h1
  refine .ls (fun i a => if i = k then Fy a else fps i a) upd_same (.inl h2) (by simp [h3]) (fun i v o a b => ?_) (fun i a f => ?_) fun i j a f g => ?_
  · rcases set_get a with ⟨q, hl, rfl⟩ | ⟨q, a⟩
    · rcases set_get b with ⟨_, _, rfl⟩ | ⟨q', _⟩
      · have z := wy.mono (Ex.refl G) (H' := upd H p (.lst (vs.set k v))) fun a u f e => by rw [upd_ne fun z => dj p h2 (by rw [← z]; exact f)]; exact e
        exact z.wide fun a f => by simp [q]; exact f
      · exact absurd q q'
    · rcases set_get b with ⟨q', _⟩ | ⟨_, b⟩
      · exact absurd q' q
      · have z := (h4 i v o a b).mono (Ex.refl G) (H' := upd H p (.lst (vs.set k y))) fun a u f e => by rw [upd_ne (h5 i a f).2]; exact e
        exact z.wide fun a f => by simp [q]; exact f
  · by_cases q : i = k
    · simp [q] at f
      exact ⟨.inr f, fun z => dj p h2 (by rw [← z]; exact f)⟩
    · simp [q] at f
      exact ⟨.inl (h5 i a f).1, (h5 i a f).2⟩
  · by_cases q1 : i = k
    · by_cases q2 : j = k
      · rw [q1, q2]
      · simp [q1, q2] at f g
        exact absurd f (dj a (h5 j a g).1)
    · by_cases q2 : j = k
      · simp [q1, q2] at f g
        exact absurd g (dj a (h5 i a f).1)
      · simp [q1, q2] at f g
        exact h6 i j a f g
/-- an item of an own list turns within -/
theorem own_in {p : Addr} {vs : List V} {xs : List OV} {k : Nat} {v : V} {ok o1 : OV} (w : Own K G H (.ref p) (.ls xs) F) (hp : H p = some (.lst vs)) (hk : vs[k]? = some v) (hx : xs[k]? = some ok)
    {H2 : Hp} {q : Addr} (hq : ∀ a, a ≠ q → H2 a = H a) (Fy : Addr → Prop) (sub : ∀ (fps : Addr → Prop), Own K G H v ok fps → (∀ a, fps a → F a) → fps q ∧ ∃ F2, Own K G H2 v o1 F2 ∧ ∀ a, F2 a → fps a ∨ Fy a) (dj : ∀ a, F a → ¬ Fy a) :
    Own K G H2 (.ref p) (.ls (xs.set k o1)) (fun a => F a ∨ Fy a) := by
  obtain ⟨p', vs', fps, e1, h1, h2, h3, h4, h5, h6⟩ := own_ls_inv w
  cases e1
  rw [hp] at h1
  cases h1
  obtain ⟨hqf, F2, w2, hF2⟩ := sub (fps k) (h4 k v ok hk hx) fun a f => (h5 k a f).1
  have hpq : p ≠ q := fun z => (h5 k q hqf).2 z.symm
  have hkl : k < xs.length := (List.getElem?_eq_some_iff.mp hx).1
  refine .ls (fun i a => if i = k then F2 a else fps i a) (by rw [hq p hpq]; exact hp) (.inl h2) (by simp [h3]) (fun i u o a b => ?_) (fun i a f => ?_) fun i j a f g => ?_
  · rcases set_get b with ⟨e, _, rfl⟩ | ⟨e, b⟩
    · subst e
      rw [hk] at a
      cases a
      exact w2.wide fun a f => by simp; exact f
    · exact ((h4 i u o a b).mono (Ex.refl G) fun a u f e' => by rw [hq a fun z => e (h6 i k q (by rw [← z]; exact f) hqf)]; exact e').wide fun a f => by simp [e]; exact f
  · by_cases e : i = k
    · simp [e] at f
      rcases hF2 a f with z | z
      · exact ⟨.inl (h5 k a z).1, (h5 k a z).2⟩
      · exact ⟨.inr z, fun q => dj p h2 (by rw [← q]; exact z)⟩
    · simp [e] at f
      exact ⟨.inl (h5 i a f).1, (h5 i a f).2⟩
  · by_cases q1 : i = k
    · by_cases q2 : j = k
      · rw [q1, q2]
      · simp [q1, q2] at f g
        rcases hF2 a f with z | z
        · exact absurd (h6 k j a z g).symm q2
        · exact absurd z (dj a (h5 j a g).1)
    · by_cases q2 : j = k
      · simp [q1, q2] at f g
        rcases hF2 a g with z | z
        · exact absurd (h6 i k a f z) q1
        · exact absurd z (dj a (h5 i a f).1)
      · simp [q1, q2] at f g
        exact h6 i j a f g
end

/-! ### statements that turn a slot's own thing -/
def fApp (i : Nat) (f : FO) : FO := fun ρ => match ρ[i]? with
  | some (some (.ls _)) => rb (f ρ) fun o ρ1 => match ρ1[i]? with
    | some (some (.ls xs)) => if xs.length < 100000 then some (.ok (.fz .non) (ρ1.set i (some (.ls (xs ++ [o]))))) else none
    | _ => none
  | _ => none
def fPop (i : Nat) : FO := fun ρ => match ρ[i]? with
  | some (some (.ls xs)) => (xs[xs.length - 1]?).map fun o => .ok o (ρ.set i (some (.ls xs.dropLast)))
  | _ => none
/-- x[..] = e -/
def sPut (i : Nat) (g : FQ) (f : FO) : FS := fun ρ => er (f ρ) fun o ρ1 => match ρ1[i]?, g ρ1 with
  | some (some (.ls xs)), some (.fz (.int k)) => (ixN xs.length k).map fun j => .nx (ρ1.set i (some (.ls (xs.set j o))))
  | _, _ => none
/-- x[..][..] = e -/
def sPut2 (i : Nat) (g h : FQ) (f : FO) : FS := fun ρ => er (f ρ) fun o ρ1 => match ρ1[i]?, g ρ1, h ρ1 with
  | some (some (.ls xs)), some (.fz (.int k)), some (.fz (.int l)) => (ixN xs.length k).bind fun j => match xs[j]? with
    | some (.ls ys) => (ixN ys.length l).map fun m => .nx (ρ1.set i (some (.ls (xs.set j (.ls (ys.set m o))))))
    | _ => none
  | _, _, _ => none
section
variable {X : Cx} {cm : Str → Addr} {W : WX} {P : List Nat} {K : PySem.W.Frag} {pos : Pos} {te : TE} {fo : FO} {i : Nat}
theorem do_app (h : DO K cm W te fo) : DO K cm W (tBM K "list" rAppend (tVar i) (tCons te tNil)) (fApp i fo) := by
  intro G H σ ρ fps ok r e Q q
  unfold fApp at e
  split at e
  · rename_i xs0 hi0
    obtain ⟨v0, hv, w0⟩ := ok.own i _ hi0
    obtain ⟨p0, vs0, _, rfl, hp0, _⟩ := own_ls_inv w0
    refine ⟨.ref p0, hv, .inl ⟨rfl, _, Or.inl (Or.inl hp0)⟩, ?_⟩
    refine do_bind (P := []) h ok e (fun o ρ1 e1 y G1 H1 fps1 F p g s => ?_) fun k f d ρ' e1 => by rw [e1] at q; exact q
    split at e1
    · rename_i xs hi
      split at e1
      · rename_i hl
        cases e1
        obtain ⟨v1, hv1, w1⟩ := p.ok.own i _ hi
        rw [hv] at hv1
        cases hv1
        obtain ⟨vs, hp, hlen, w2⟩ := own_snoc w1 g.own fun a f f' => g.dj i a f f'
        obtain ⟨_, _, _, e5, _, hF, _⟩ := own_ls_inv w1
        cases e5
        refine ⟨p0, vs, y, rfl, rfl, hp, by rw [hlen]; exact Nat.lt_of_lt_of_le hl (by decide), ?_⟩
        have pm := p.mutSlot g s (List.getElem?_eq_some_iff.mp hi).1 hv (H2 := upd H1 p0 (.lst (vs ++ [y]))) (fun a n => upd_ne fun z => n (by rw [z]; exact hF)) (fun a f => by
          by_cases z : a = p0
          · rw [z, upd_same]; simp
          · rw [upd_ne z]; exact (p.ok.fr i a f).1) w2
        exact q .non G1 _ _ (fun _ => False) pm (.fz .non) fun _ f => f.elim
      · cases e1
    · cases e1
  · cases e
theorem ixN_lt {n j : Nat} {k : Int} (h : ixN n k = some j) : j < n := by
  unfold ixN at h
  split at h
  · split at h
    · cases h; omega
    · cases h
  · split at h
    · cases h; omega
    · cases h
theorem do_pop : DO K cm W (tBM0 K "list" rPop (tVar i)) (fPop i) := by
  intro G H σ ρ fps ok r e Q q
  unfold fPop at e
  split at e
  · rename_i xs hi
    obtain ⟨v0, hv, w0⟩ := ok.own i _ hi
    obtain ⟨p0, vs, fs, rfl, hp, hF, hl, h4, h5, h6⟩ := own_ls_inv w0
    cases hx : xs[xs.length - 1]? with
    | none => rw [hx] at e; cases e
    | some o =>
      rw [hx] at e
      cases e
      have hlt : xs.length - 1 < xs.length := (List.getElem?_eq_some_iff.mp hx).1
      obtain ⟨y, hy⟩ : ∃ y, vs[vs.length - 1]? = some y := ⟨vs[vs.length - 1]'(by omega), by simp⟩
      have wy := h4 (xs.length - 1) y o (by rw [← hl]; exact hy) hx
      refine ⟨.ref p0, hv, .inl ⟨rfl, _, Or.inl (Or.inl hp)⟩, p0, vs, y, rfl, rfl, hp, hy, ?_⟩
      have hil := (List.getElem?_eq_some_iff.mp hi).1
      -- the list without its last item
      have w2 : Own K G (upd H p0 (.lst vs.dropLast)) (.ref p0) (.ls xs.dropLast) (fun a => fps i a ∧ ¬ fs (xs.length - 1) a) := by
        refine .ls (fun j a => fs j a ∧ j ≠ xs.length - 1) upd_same ⟨hF, fun z => (h5 _ _ z).2 rfl⟩ (by simp [hl]) (fun j v u a b => ?_) (fun j a f => ⟨⟨(h5 j a f.1).1, fun z => f.2 (h6 j _ a f.1 z)⟩, (h5 j a f.1).2⟩) fun j k a f g => h6 j k a f.1 g.1
        have hj : j < xs.dropLast.length := (List.getElem?_eq_some_iff.mp b).1
        rw [List.length_dropLast] at hj
        rw [List.getElem?_dropLast, if_pos (by omega)] at a b
        have z := (h4 j v u a b).mono (Ex.refl G) (H' := upd H p0 (.lst vs.dropLast)) fun a u f e => by rw [upd_ne (h5 j a f).2]; exact e
        exact z.wide fun a f => ⟨f, by omega⟩
      have wy2 : Own K G (upd H p0 (.lst vs.dropLast)) y o (fs (xs.length - 1)) := wy.mono (Ex.refl G) fun a u f e => by rw [upd_ne (h5 _ a f).2]; exact e
      have pm := (Post.refl (P := []) ok).mutSlot (y := .non) (oy := .fz .non) (Fy := fun _ => False) (.fz .non) (fun _ f => f.elim) hil hv (H2 := upd H p0 (.lst vs.dropLast)) (o' := .ls xs.dropLast) (fun a n => upd_ne fun z => n (by rw [z]; exact hF)) (fun a f => by
          by_cases z : a = p0
          · rw [z, upd_same]; simp
          · rw [upd_ne z]; exact (ok.fr i a f).1) (w2.wide fun a f => .inl f.1)
      -- the item's objects leave the slot
      refine q y G _ (fun j a => if j = i then fps i a ∧ ¬ fs (xs.length - 1) a else fps j a) (fs (xs.length - 1)) ⟨⟨pm.ok.ex, pm.ok.len, fun j u e => ?_, fun j k a f g => pm.ok.dj j k a ?_ ?_, fun j a f => pm.ok.fr j a ?_⟩, pm.frm, fun a ⟨j, t⟩ => pm.sub a ⟨j, ?_⟩, pm.pr⟩ ⟨wy2, fun j a f z => ?_, fun a f => ?_⟩ fun a f => .inl ⟨i, (h5 _ a f).1⟩
      · by_cases qj : j = i
        · subst qj
          rw [List.getElem?_set_self hil] at e
          cases e
          exact ⟨.ref p0, hv, by simpa using w2⟩
        · obtain ⟨u', e1, w1⟩ := pm.ok.own j u e
          exact ⟨u', e1, w1.wide fun a f => by simpa [qj] using f⟩
      · by_cases qj : j = i
        · simp [qj] at f ⊢; exact f.1
        · simp [qj] at f ⊢; exact f
      · by_cases qj : k = i
        · simp [qj] at g ⊢; exact g.1
        · simp [qj] at g ⊢; exact g
      · by_cases qj : j = i
        · simp [qj] at f ⊢; exact f.1
        · simp [qj] at f ⊢; exact f
      · by_cases qj : j = i
        · simp [qj] at t ⊢; exact t.1
        · simp [qj] at t ⊢; exact t
      · by_cases qj : j = i
        · simp [qj] at f; exact f.2 z
        · simp [qj] at f; exact qj (ok.dj j i a f (h5 _ a z).1)
      · refine ⟨?_, (ok.fr i a (h5 _ a f).1).2⟩
        rw [upd_ne (h5 _ a f).2]
        exact (ok.fr i a (h5 _ a f).1).1
  · cases e
theorem ds_put {ti : TE} {g : FQ} (hP : True) (h : DO K cm W te fo) (hg : DQ K ti g) : DS K cm W P (tAsg te (gSub (tVar i) ti rSetL)) (sPut i g fo) := ds_of fun G H σ ρ fps ok r e D q => by
  refine so_bind h ok e q fun o ρ1 e1 y G1 H1 fps1 F p gy s => ?_
  split at e1
  · rename_i xs k hi hk
    obtain ⟨v0, hv, w0⟩ := p.ok.own i _ hi
    obtain ⟨p0, vs, fs, rfl, hp, hF, hl, _⟩ := own_ls_inv w0
    cases hj : ixN xs.length k with
    | none => rw [hj] at e1; cases e1
    | some j =>
      rw [hj] at e1
      cases e1
      refine ⟨.ref p0, hv, hg G1 H1 σ ρ1 fps1 p.ok _ hk _ fun u F' w' => ?_⟩
      rw [own_int w']
      refine ⟨p0, vs, k, j, rfl, rfl, hp, by rw [hl]; exact hj, ?_⟩
      have w2 := own_set w0 hp gy.own (fun a f f' => gy.dj i a f f') j
      exact q σ G1 _ _ (p.mutSlot gy s (List.getElem?_eq_some_iff.mp hi).1 hv (H2 := upd H1 p0 (.lst (vs.set j y))) (fun a n => upd_ne fun z => n (by rw [z]; exact hF)) (fun a f => by
          by_cases z : a = p0
          · rw [z, upd_same]; simp
          · rw [upd_ne z]; exact (p.ok.fr i a f).1) w2)
  · cases e1
theorem ds_put2 {ti tj : TE} {g h : FQ} (he : DO K cm W te fo) (hg : DQ K ti g) (hh : DQ K tj h) : DS K cm W P (tAsg te (gSub (tOp (rIx K) (tVar i) ti) tj rSetL)) (sPut2 i g h fo) := ds_of fun G H σ ρ fps ok r e D q => by
  refine so_bind he ok e q fun o ρ1 e1 y G1 H1 fps1 F p gy s => ?_
  split at e1
  · rename_i xs k l hi hk hlq
    obtain ⟨v0, hv, w0⟩ := p.ok.own i _ hi
    obtain ⟨p0, vs, fs, rfl, hp, hF, hl, h4, h5, h6⟩ := own_ls_inv w0
    cases hj : ixN xs.length k with
    | none => rw [hj] at e1; cases e1
    | some j =>
      rw [hj] at e1
      have e1 : (match xs[j]? with
        | some (.ls ys) => (ixN ys.length l).map fun m => SR.nx (ρ1.set i (some (.ls (xs.set j (.ls (ys.set m o))))))
        | _ => none) = some r := e1
      split at e1
      · rename_i ys hx
        cases hm : ixN ys.length l with
        | none => rw [hm] at e1; cases e1
        | some m =>
          rw [hm] at e1
          cases e1
          have hjl := ixN_lt hj
          obtain ⟨u, hu⟩ : ∃ u, vs[j]? = some u := ⟨vs[j]'(by omega), by simp [hl, hjl]⟩
          have wu := h4 j u _ hu hx
          obtain ⟨p1, us, fs1, rfl, hp1, hF1, hl1, _⟩ := own_ls_inv wu
          refine ⟨.ref p0, hv, hg G1 H1 σ ρ1 fps1 p.ok _ hk _ fun z F' w' => ?_⟩
          rw [own_int w']
          refine .inl ⟨p0, vs, k, .ref p1, rfl, rfl, Or.inl (Or.inl hp), by unfold atI; rw [hl, hj]; exact hu, ?_⟩
          refine hh G1 H1 σ ρ1 fps1 p.ok _ hlq _ fun z F' w' => ?_
          rw [own_int w']
          refine ⟨p1, us, l, m, rfl, rfl, hp1, by rw [hl1]; exact hm, ?_⟩
          have dj0 : ∀ a, fps1 i a → ¬ F a := fun a f f' => gy.dj i a f f'
          have w2 := own_in w0 hp hu hx (H2 := upd H1 p1 (.lst (us.set m y))) (q := p1) (o1 := .ls (ys.set m o)) (fun a n => upd_ne n) F (fun fq wq hfq => by
            obtain ⟨p2, us2, _, e2, hp2, hF2, _⟩ := own_ls_inv wq
            cases e2
            exact ⟨hF2, _, own_set wq hp1 gy.own (fun a f => dj0 a (hfq a f)) m, fun a f => f⟩) dj0
          exact q σ G1 _ _ (p.mutSlot gy s (List.getElem?_eq_some_iff.mp hi).1 hv (H2 := upd H1 p1 (.lst (us.set m y))) (fun a n => upd_ne fun z => n (by rw [z]; exact (h5 j p1 hF1).1)) (fun a f => by
              by_cases z : a = p1
              · rw [z, upd_same]; simp
              · rw [upd_ne z]; exact (p.ok.fr i a f).1) w2)
      · cases e1
  · cases e1
end
end LD

end
section
set_option Elab.async false
set_option linter.all false
set_option maxRecDepth 100000
set_option maxHeartbeats 4000000
namespace LD
open PySem PySem.Spec PyProof.Rows L2

/-! ### more statements -/
/-- x, y = e1, e2 -/
def sPar (i j : Nat) (f g : FO) : FS := fun ρ => er (f ρ) fun o ρ1 => er (g ρ1) fun o' ρ2 => if i < ρ2.length ∧ j < ρ2.length then some (.nx ((ρ2.set i (some o)).set j (some o'))) else none
/-- x op= e, of ints -/
def sAug (i : Nat) (p : Int → Int → Int) (f : FE) : FS := fun ρ => match ρ[i]? with
  | some (some (.fz (.int m))) => er (f ρ) fun d ρ1 => match d with
    | .int n => if i < ρ1.length then some (.nx (ρ1.set i (some (.fz (.int (p m n)))))) else none
    | _ => none
  | _ => none
section
variable {X : Cx} {cm : Str → Addr} {W : WX} {P : List Nat} {K : PySem.W.Frag} {pos : Pos} {ta tb te : TE} {f g : FO} {fe : FE} {i j : Nat}
theorem par_end {G H G1 H1 G2 H2 : Hp} {σ : L2.St} {ρ1 ρ2 : Envr} {fps fps1 fps2 : Nat → Addr → Prop} {v w : V} {o o' : OV} {F F' : Addr → Prop} (p : Post K P G H σ fps G1 H1 σ ρ1 fps1) (gv : Got K G1 H1 fps1 v o F) (s : ∀ a, F a → Tot fps a ∨ H a = none)
    (p2 : Post K P G1 H1 σ fps1 G2 H2 σ ρ2 fps2) (gw : Got K G2 H2 fps2 w o' F') (s2 : ∀ a, F' a → Tot fps1 a ∨ H1 a = none) (hi : i < ρ2.length) (hj : j < ρ2.length) (hij : i ≠ j) (hPi : i ∉ P) (hPj : j ∉ P) :
    ∃ fps', Post K P G H σ fps G2 H2 ((σ.set i (some v)).set j (some w)) ((ρ2.set i (some o)).set j (some o')) fps' := by
  have pp := p.trans p2
  have nF : ∀ a, F a → ¬ F' a := fun a h h' => by
    rcases s2 a h' with ⟨k, t⟩ | t
    · exact gv.dj k a t h
    · exact (gv.fr a h).1 t
  have hl : ρ2.length = σ.length := pp.ok.len.symm
  have p3 := pp.setSlot (gv.keep p2) s (by omega) hPi
  have gw' : Got K G2 H2 (fun k a => if k = i then F a else fps2 k a) w o' F' := ⟨gw.own, fun k a t h => by
    by_cases q : k = i
    · simp [q] at t; exact nF a t h
    · simp [q] at t; exact gw.dj k a t h, gw.fr⟩
  refine ⟨_, ⟨p3.ok.set gw' (by rw [List.length_set]; omega), p3.frm, fun a ⟨k, t⟩ => ?_, fun k hk => ?_⟩⟩
  · by_cases q : k = j
    · simp [q] at t
      exact sub_back p (s2 a t)
    · simp [q] at t
      exact p3.sub a ⟨k, t⟩
  · rw [List.getElem?_set_ne (fun q => hPj (by rw [q]; exact hk)), p3.pr k hk]
theorem ds_par (h : DO K cm W ta f) (h' : DO K cm W tb g) (hij : i ≠ j) (hPi : i ∉ P) (hPj : j ∉ P) : DS K cm W P (tPar i j (tCons ta (tCons tb tNil))) (sPar i j f g) := ds_of fun G H σ ρ fps ok r e D q => by
  refine so_bind h ok e q fun o ρ1 e1 v G1 H1 fps1 F p gv s => ?_
  refine so_bind h' p.ok e1 (q.back p) fun o' ρ2 e2 w G2 H2 fps2 F' p2 gw s2 => ?_
  split at e2
  · rename_i c
    cases e2
    obtain ⟨fps', pe⟩ := par_end p gv s p2 gw s2 c.1 c.2 hij hPi hPj
    exact ⟨v, w, rfl, q _ _ _ _ pe⟩
  · cases e2
/-- the same where the model lays the pair -/
theorem ds_parT (h : DO K cm W ta f) (h' : DO K cm W tb g) (hij : i ≠ j) (hPi : i ∉ P) (hPj : j ∉ P) : DS K cm W P (tAsg (tTup (tCons ta (tCons tb tNil))) (gTup K 2 (gCons (gName i) (gCons (gName j) gNil)))) (sPar i j f g) := ds_of fun G H σ ρ fps ok r e D q => by
  refine so_bind h ok e q fun o ρ1 e1 v G1 H1 fps1 F p gv s => ?_
  refine so_bind h' p.ok e1 (q.back p) fun o' ρ2 e2 w G2 H2 fps2 F' p2 gw s2 => ?_
  split at e2
  · rename_i c
    cases e2
    refine ⟨by show 2 ≤ sizeLine; decide, fun T hT => ?_⟩
    have pT := p2.ok.newH (P := P) (o := .tup [v, w]) hT
    have gw' := gw.keep pT
    have gv' := (gv.keep p2).keep pT
    have p2T := p2.trans pT
    obtain ⟨fps', pe⟩ := par_end p gv s p2T gw' s2 c.1 c.2 hij hPi hPj
    refine ⟨T, [v, w], rfl, .inl (.inl upd_same), rfl, v, [w], rfl, w, [], rfl, rfl, ?_⟩
    exact q _ _ _ _ pe
  · cases e2
theorem ds_aug {p : Int → Int → Int} (h : DE K cm W te fe) (hP : i ∉ P) : DS K cm W P (tAug i te (ipI p)) (sAug i p fe) := ds_of fun G H σ ρ fps ok r e D q => by
  unfold sAug at e
  split at e
  · rename_i m hi
    obtain ⟨v0, hv, w0⟩ := ok.own i _ hi
    refine ⟨v0, hv, ?_⟩
    refine se_bind h ok e q fun d ρ1 e1 v G1 H1 fps1 pp rv => ?_
    cases rv <;> first | (cases e1; done) | skip
    rename_i n
    have e1 : (if i < ρ1.length then some (SR.nx (ρ1.set i (some (.fz (.int (p m n)))))) else none) = some r := e1
    split at e1
    · rename_i hl
      cases e1
      exact ⟨m, n, own_int w0, rfl, q _ _ _ _ (pp.setSlot (.fz (.int _)) (fun _ f => f.elim) (by rw [pp.ok.len]; exact hl) hP)⟩
    · cases e1
  · cases e
theorem sx_par {x y : Str} {a b : Expr} {px py pt : Pos} {kt k2 pt2} (hc : X.calm = true) (hN : X.N.Nodup) (h : Ox X cm W a ta f) (h' : Ox X cm W b tb g) (hij : i ≠ j) (hPi : i ∉ P) (hPj : j ∉ P) (hi : X.N[i]? = some x) (hj : X.N[j]? = some y)
    (hx : X.env.scope.names.lookup x = some .local) (hy : X.env.scope.names.lookup y = some .local) 
    (hw : swappedStores [.Tuple [.Name x px, .Name y py] kt pt] (.Tuple [a, b] k2 pt2) X.env = pure (some [x, y]))
    (h1 : starEach [a, b] X.env = (false, eval a X.env) :: starEach [b] X.env := by rfl) (h2 : starEach [b] X.env = (false, eval b X.env) :: starEach [] X.env := by rfl)
    (hs : swapsWithSole [.Tuple [.Name x px, .Name y py] kt pt] (.Tuple [a, b] k2 pt2) pos.line X.env = pure false := by rfl) :
    Sx X cm W P (.Assign [.Tuple [.Name x px, .Name y py] kt pt] (.Tuple [a, b] k2 pt2) pos) (tPar i j (tCons ta (tCons tb tNil))) (sPar i j f g) := ⟨ps_par hc hN hi hj hij hx hy (pa_cons h.pe (pa_cons h'.pe pa_nil h2) h1) hw hs, ds_par h.de h'.de hij hPi hPj⟩
theorem sx_parT {x y : Str} {a b : Expr} {px py pt : Pos} {kt k2 pt2} (hc : X.calm = true) (hN : X.N.Nodup) (h : Ox X cm W a ta f) (h' : Ox X cm W b tb g) (hij : i ≠ j) (hPi : i ∉ P) (hPj : j ∉ P)
    (ht : PG X (.Tuple [.Name x px, .Name y py] kt pt) (gTup X.K 2 (gCons (gName i) (gCons (gName j) gNil))))
    (h1 : starEach [a, b] X.env = (false, eval a X.env) :: starEach [b] X.env := by rfl) (h2 : starEach [b] X.env = (false, eval b X.env) :: starEach [] X.env := by rfl)
    (hs : swapsWithSole [.Tuple [.Name x px, .Name y py] kt pt] (.Tuple [a, b] k2 pt2) pos.line X.env = pure false := by rfl) (hw : swappedStores [.Tuple [.Name x px, .Name y py] kt pt] (.Tuple [a, b] k2 pt2) X.env = pure none := by rfl)
    (hm : (assignEach [.Tuple [.Name x px, .Name y py] kt pt] X.env).map (·.2) = [assign (.Tuple [.Name x px, .Name y py] kt pt) X.env] := by rfl) :
    Sx X cm W P (.Assign [.Tuple [.Name x px, .Name y py] kt pt] (.Tuple [a, b] k2 pt2) pos) (tAsg (tTup (tCons ta (tCons tb tNil))) (gTup X.K 2 (gCons (gName i) (gCons (gName j) gNil)))) (sPar i j f g) :=
  ⟨ps_asg (pe_tup (pa_cons h.pe (pa_cons h'.pe pa_nil h2) h1)) ht hs hw hm, ds_parT h.de h'.de hij hPi hPj⟩
theorem sx_augadd {x : Str} {e : Expr} {pos' : Pos} (hN : X.N.Nodup) (he : Dx X cm W e te fe) (hP : i ∉ P) (hi : X.N[i]? = some x := by rfl) (hx : Loc X.env.scope x := by first | exact Or.inl rfl | exact Or.inr rfl)
    (hf : X.fn x = true ∨ X.env.scope.names.lookup x = some .local := by first | exact .inl rfl | exact .inr rfl) : Sx X cm W P (.AugAssign (.Name x pos') .Add e pos) (tAug i te (ipI fun i j => i + j)) (sAug i (fun i j => i + j) fe) := ⟨ps_aug hN hi hx he.pe ip_add hf, ds_aug he.de hP⟩
theorem sx_augsub {x : Str} {e : Expr} {pos' : Pos} (hN : X.N.Nodup) (he : Dx X cm W e te fe) (hP : i ∉ P) (hi : X.N[i]? = some x := by rfl) (hx : Loc X.env.scope x := by first | exact Or.inl rfl | exact Or.inr rfl)
    (hf : X.fn x = true ∨ X.env.scope.names.lookup x = some .local := by first | exact .inl rfl | exact .inr rfl) : Sx X cm W P (.AugAssign (.Name x pos') .Sub e pos) (tAug i te (ipI fun i j => i - j)) (sAug i (fun i j => i - j) fe) := ⟨ps_aug hN hi hx he.pe ip_sub hf, ds_aug he.de hP⟩

/-! own things turned -/
section
variable {e o ei ej : Expr} {fo : FO} {gq hq : FQ} {x : Str} {ti tj : TE} {py : Pos}
theorem ox_app {apos cpos : Pos} (h : Ox X cm W e te fo) (hN : X.N[i]? = some x := by rfl) (hv : Vis X.env.scope x := by first | exact Or.inl rfl | exact Or.inr (Or.inl rfl) | exact Or.inr (Or.inr rfl)) (hd : (x == ("__debug__" : Str)) = false := by decide)
    (hcd : (x == ("__classdict__" : Str)) = false := by decide) (he : starEach [e] X.env = (false, eval e X.env) :: starEach [] X.env := by rfl)
    (hfew : ((backTo cpos (starEach [e] X.env)).all (fun x => !x.1) && (backToKw cpos (keywordEach [] X.env)).all (fun x => x.1.isSome) && decide ([e].length + ([] : List Keyword).length + (if ([] : List Keyword).isEmpty then 0 else 1) < 30)) = true := by rfl)
    (hbase : attributeBase (.Name x py) "append" X.env (eval (.Name x py) X.env) = eval (.Name x py) X.env := by rfl)
    (hline : (apos.endLine == cpos.line) = true := by rfl) (hplain : (backTo cpos (starEach [] X.env)).any (·.1) = false := by rfl) :
    Ox X cm W (.Call (.Attribute (.Name x py) "append" apos) [e] [] cpos) (tBM X.K "list" rAppend (tVar i) (tCons te tNil)) (fApp i fo) := ⟨pe_bm PySem.F.plainAttrs_list PySem.F.slot_list_append PySem.F.type_list_append mt_append (pe_var hN hv hd hcd) (pa_cons h.pe pa_nil he) hbase hfew hline he hplain, do_app h.de⟩
theorem sx_put {ppos : Pos} (h : Ox X cm W e te fo) (hi : Qx X ei ti gq) (hN : X.N[i]? = some x := by rfl) (hv : Vis X.env.scope x := by first | exact Or.inl rfl | exact Or.inr (Or.inl rfl) | exact Or.inr (Or.inr rfl)) (hd : (x == ("__debug__" : Str)) = false := by decide)
    (hcd : (x == ("__classdict__" : Str)) = false := by decide) (hg : PG X (.Subscript (.Name x py) ei ppos) (gSub (tVar i) ti rSetL))
    (hs : swapsWithSole [.Subscript (.Name x py) ei ppos] e pos.line X.env = pure false := by rfl) (hw : swappedStores [.Subscript (.Name x py) ei ppos] e X.env = pure none := by rfl)
    (hm : (assignEach [.Subscript (.Name x py) ei ppos] X.env).map (·.2) = [assign (.Subscript (.Name x py) ei ppos) X.env] := by rfl) :
    Sx X cm W P (.Assign [.Subscript (.Name x py) ei ppos] e pos) (tAsg te (gSub (tVar i) ti rSetL)) (sPut i gq fo) := ⟨ps_asg h.pe hg hs hw hm, ds_put True.intro h.de hi.de⟩
theorem sx_put2 {ppos p2 : Pos} (h : Ox X cm W e te fo) (hi : Qx X ei ti gq) (hj : Qx X ej tj hq) (hg : PG X (.Subscript (.Subscript (.Name x py) ei p2) ej ppos) (gSub (tOp (rIx X.K) (tVar i) ti) tj rSetL))
    (hs : swapsWithSole [.Subscript (.Subscript (.Name x py) ei p2) ej ppos] e pos.line X.env = pure false := by rfl) (hw : swappedStores [.Subscript (.Subscript (.Name x py) ei p2) ej ppos] e X.env = pure none := by rfl)
    (hm : (assignEach [.Subscript (.Subscript (.Name x py) ei p2) ej ppos] X.env).map (·.2) = [assign (.Subscript (.Subscript (.Name x py) ei p2) ej ppos) X.env] := by rfl) :
    Sx X cm W P (.Assign [.Subscript (.Subscript (.Name x py) ei p2) ej ppos] e pos) (tAsg te (gSub (tOp (rIx X.K) (tVar i) ti) tj rSetL)) (sPut2 i gq hq fo) := ⟨ps_asg h.pe hg hs hw hm, ds_put2 h.de hi.de hj.de⟩
end
end
end LD

end
section
set_option Elab.async false
set_option linter.all false
set_option maxRecDepth 100000
set_option maxHeartbeats 4000000
namespace LD
open PySem PySem.Spec PyProof.Rows L2

/-! ### enumerate(tuple) -/
set_option maxHeartbeats 2000000 in
theorem meets_enumB {v : Value} {o : Obj} {C : Heap → Prop} (B : Begins v o C) :
    Meets (Builtin.«enumerate.__new__» ⟨[.type "enumerate", v], []⟩) (fun _ R s => C s.heap ∧
      R (.ok (.ret (.ref (s.heap.push o).objs.size))) { s with heap := (s.heap.push o).push { cls := .type "enumerate", data := .fields #[.none, .bool false, .ref s.heap.objs.size, rawInt 0, .none, .none] } }) :=
  .of_wp fun prog w A R s hh => by
    obtain ⟨hp, gg, dd, tk, os⟩ := s
    obtain ⟨c1, c2⟩ := hh
    have sub1 := sub_enumerate
    have it1 : ∀ {A' : Around} {E : Value → Shared → Prop} {Q : Value → Shared → Prop}, Q (.ref hp.objs.size) ⟨hp.push o, gg, dd, tk, os⟩ → wpAny (model prog w) A' (pyIter v) Q E ⟨hp, gg, dd, tk, os⟩ := fun q => B.iter prog w _ _ ⟨hp, gg, dd, tk, os⟩ _ c1 q
    wp_walk using it1
    refine wpAny_stack_any fun st => wpAny_pure ?_
    split
    · rename_i c _ _ _ _ _
      cases (c == Value.type "enumerate")
      · wp_walk using it1
        exact ⟨_, rfl, c2⟩
      · wp_walk using it1
        exact ⟨_, rfl, c2⟩
    · wp_walk using it1
      exact ⟨_, rfl, c2⟩
section
variable {prog : Program} {w : World} {A : Around} {E : Value → Shared → Prop} {s : Shared}
theorem enum1_begins {v : Value} {o : Obj} {C : Heap → Prop} {Q : Value → Shared → Prop} (B : Begins v o C) (c1 : C s.heap)
    (k : ∀ h', IsEnum h' (s.heap.objs.size + 1) s.heap.objs.size 0 .none → h'.get? s.heap.objs.size = some o → h'.objs.size = s.heap.objs.size + 2 → (∀ b o, s.heap.get? b = some o → h'.get? b = some o) → Q (.ref (s.heap.objs.size + 1)) { s with heap := h' }) :
    wpAny (model prog w) A (call (.type "enumerate") [v]) Q E s := by
  refine callType_new F.called_enumerate (by decide) (F.typeCall_enumerate_1 _) (F.newCall_enumerate_1 _) (fun obj => F.args_object_init_2 obj _) F.entry_enumerate_new (meets_enumB B) ⟨c1, ?_⟩
  have hz : (s.heap.push o).objs.size = s.heap.objs.size + 1 := Heap.size_push ..
  show _ ∧ _
  rw [hz]
  have he : IsEnum ((s.heap.push o).push { cls := .type "enumerate", data := .fields #[.none, .bool false, .ref s.heap.objs.size, rawInt 0, .none, .none] }) (s.heap.objs.size + 1) s.heap.objs.size 0 .none := by
    have z := Heap.get?_push_size (s.heap.push o) (o := { cls := .type "enumerate", data := .fields #[.none, .bool false, .ref s.heap.objs.size, rawInt 0, .none, .none] }) rfl
    rw [hz] at z
    exact z
  exact ⟨⟨_, he, rfl⟩, k _ he (Heap.get?_push_of_some _ (Heap.get?_push_size _ B.free)) (by rw [Heap.size_push, hz]) fun b o x => Heap.get?_push_of_some _ (Heap.get?_push_of_some _ x)⟩
end
section
variable {prog : Program} {w : World} {A : Around} {E : Value → Shared → Prop} {s : Shared}
theorem next_enum_endT {e it t : Addr} {i : Nat} {items : Array Value} {old : Value} {Q : Option Value → Shared → Prop} (hh : A.handled = none) (he : IsEnum s.heap e it i old) (hit : s.heap.IsTupleIter it t i) (ht : s.heap.IsTuple t items) (hx : items[i]? = none)
    (q : ∀ h', Heap.ExtBut it s.heap h' → Q none { s with heap := h' }) : wpAny (model prog w) A (pyNext (.ref e)) Q E s := by
  have ty : s.TypeIs (.ref e) "enumerate" := ⟨_, he, rfl⟩
  unfold pyNext
  refine wpAny_bind (wpAny_attempt (wpAny_callSpecial?_slot (name := Str.ofString "__next__") ty F.slot_enumerate_next (wpAny_call_entry F.slot_enumerate_next ty F.entry_enumerate_next ?_ (F.args_enumerate_next_1 _))))
  show wpAny _ _ (field (.ref e) 2 >>= _) _ _ _
  refine wpAny_bind (wpAny_field he rfl (x := .ref it) rfl ?_)
  refine wpAny_bind (wpAny_nextOf_tuple_end hh hit ht hx fun h' x k1 k2 => ?_)
  obtain ⟨o, ho, hc⟩ := k2
  exact wpAny_bind (wpAny_isInstance (T := "StopIteration") (b := true) ⟨o, ho, hc⟩ isSubtype_stop (wpAny_pure (q _ k1)))
end
/-- the tuple at a, its items numbered -/
def IteT (K : PySem.W.Frag) (a : Addr) : It :=
  ⟨fun i H => ∃ (xs : List V) (x : V), SqT K H a xs ∧ xs[i]? = some x, fun i H v H' => ∃ T x, v = .ref T ∧ H T = none ∧ H' = upd H T (.tup [.int (i : Nat), x]) ∧ ∀ xs, SqT K H a xs → xs[i]? = some x, fun i H => ∃ xs : List V, SqT K H a xs ∧ xs.length ≤ i⟩
theorem turn_enumT {P : Program} {w : World} {K : PySem.W.Frag} {elts : List Expr} {kk : Nat} {tpos : Pos} (a e it : Addr) :
    Turn P w K (.Tuple elts kk tpos) (IteT K a) [e, it] e (fun i h => (∃ old, IsEnum h e it ((i : Nat) : Int) old) ∧ h.IsTupleIter it a i ∧ e ≠ it ∧ a ≠ it) where
  mem := by simp
  obj := fun i h st b hb => by
    obtain ⟨⟨old, he⟩, ⟨o, ho, hc, hd⟩, _⟩ := st
    rcases (show b = e ∨ b = it by simpa using hb) with z | z
    · rw [z]; exact ⟨_, he, fun v q => nomatch q⟩
    · rw [z]; exact ⟨o, ho, fun v q => by rw [hd] at q; cases q⟩
  keep := fun i h h' st k => ⟨let ⟨old, he⟩ := st.1; ⟨old, k e (by simp) _ he⟩, st.2.1.at fun o q => k it (by simp) o q, st.2.2⟩
  item := by
    intro X e1 e2 e3 hc i pins s σ H E I hf st hg
    subst e1 e2 e3
    obtain ⟨⟨old, he⟩, hit, hne, hai⟩ := st
    obtain ⟨xs, x, hq, hx⟩ := hg
    obtain ⟨its, rv, p, hz⟩ := I.tuple hq
    obtain ⟨u, hu, ru⟩ := rv.get hx
    have hel : e < s.heap.objs.size := Heap.lt_size he
    have hil : it < s.heap.objs.size := by obtain ⟨_, q, _⟩ := hit; exact Heap.lt_size q
    have htup : s.heap.IsTuple a its.toArray := p
    have hlt : i < its.toArray.size := by
      rw [List.size_toArray]
      exact (List.getElem?_eq_some_iff.mp hu).1
    have hea : e ≠ a := fun z => by
      obtain ⟨ob, h1, h2, _⟩ := htup
      rw [← z, he] at h1
      cases h1
      have z2 : ("enumerate" : String) = "tuple" := by
        have z3 : Value.type "enumerate" = Value.type "tuple" := h2
        injection z3
      exact absurd z2 (by decide)
    refine wpAny_pyNext_enum_itemD (Draws.tuple (A := X.A.in1) (I.ok.hd hc) it a hai its.toArray) he ⟨hit, htup⟩ hlt hne (by simp; exact ⟨hne, hea⟩) fun y h' tk hy ho hst hT hsz hk => ?_
    have hyu : y = u := by
      have z : its.toArray[i]? = some u := by simpa using hu
      rw [z] at hy
      exact (Option.some.inj hy).symm
    subst hyu
    refine ⟨_, rfl, wpAny_letOwnedTupleGo_enum (s := { s with heap := h', toks := tk + 1 }) ho fun h'' he' sb => ?_⟩
    have hT2 : h''.get? s.heap.objs.size = some { cls := .type "tuple", data := .seq #[.int i tk, y] } := (sb.2 _ (Nat.ne_of_gt hel)).trans hT
    have new : ObjOk X.prog X.w (upd H s.heap.objs.size (.tup [.int (i : Nat), x])) h'' s.heap.objs.size (.tup [.int (i : Nat), x]) := ⟨by show 2 ≤ sizeLine; decide, [.int i tk, y], .cons ⟨_, rfl⟩ (.cons ru .nil), ⟨_, hT2, rfl, _, rfl⟩⟩
    have I1 : Inv X pins σ (upd H s.heap.objs.size (.tup [.int (i : Nat), x])) { s with heap := h'', toks := tk + 1 } :=
      I.turnedNew (ch := [e, it]) (fun b ob hb q => (sb.2 b (fun z => hb (by simp [z]))).trans (hk b ob (fun z => hb (by simp [z])) (fun z => hb (by simp [z])) q)) hf (Nat.le_refl _) new
    refine ⟨.ref s.heap.objs.size, _, I1, rfl, ⟨_, x, rfl, I.hok.fresh (Nat.le_refl _), rfl, fun ys hy => by rw [I.tuple_inj hy hq]; exact hx⟩, ⟨⟨y, ?_⟩, hst.1.at fun o q => (sb.2 it (Ne.symm hne)).trans q, hne, hai⟩, fun b hb => ?_⟩
    · rw [show ((i + 1 : Nat) : Int) = (i : Int) + 1 by omega]
      exact he'
    · have hb' : b < s.heap.objs.size := by
        rcases (show b = e ∨ b = it by simpa using hb) with z | z
        · rw [z]; exact hel
        · rw [z]; exact hil
      rw [upd_ne (Nat.ne_of_lt hb')]
      exact (hf b hb).1
  done := by
    intro X e1 e2 e3 hc i pins s σ H E I hf st hg
    subst e1 e2 e3
    obtain ⟨⟨old, he⟩, hit, hne, hai⟩ := st
    obtain ⟨xs, hq, hx⟩ := hg
    obtain ⟨its, rv, p, hz⟩ := I.tuple hq
    have htup : s.heap.IsTuple a its.toArray := p
    obtain ⟨f0, f1, f2, f3, f4, f5⟩ := hf it (by simp)
    have hl := rv.length
    have T : s.TypeIs (.ref e) "enumerate" := ⟨_, he, rfl⟩
    refine next_enum_endT (I.ok.hd hc) he hit htup (by simp; omega) fun h' eb => ⟨rfl, I.turned (t' := s.toks) (fun b o hb q => eb b o hb q) f0 f1 f3 f4 f5⟩
  self := fun A i s Q E st h => let ⟨⟨_, he⟩, _⟩ := st; wpAny_pyIter_enum he h
def iEnumT (K : PySem.W.Frag) (ta : TA) : TI := fun σ H R => ta σ H fun vs H1 => ∃ a xs, vs = [.ref a] ∧ ((SqL K H1 a xs ∧ R (Ite K a) H1) ∨ (SqT K H1 a xs ∧ R (IteT K a) H1))
section
variable {X : Cx} {cm : Str → Addr} {W : WX} {K : PySem.W.Frag}
theorem pi_enumU {e : Expr} {ta : TA} {p pos tpos : Pos} {elts : List Expr} {kk : Nat} (hg : Gl X "enumerate") (hm : X.mg "enumerate" = none) (ha : PA X [e] ta) (hs : starEach [e] X.env = [(false, eval e X.env)] := by rfl) :
    PI X (.Tuple elts kk tpos) (.Call (.Name "enumerate" p) [e] [] pos) (iEnumT X.K ta) := by
  refine ⟨fun pins s σ H R I h => ?_⟩
  refine Call_ (ld_blt I hg hm boot_enumerate (PyProof.Rows.callWith_type1 (thn (ha.run pos pins s σ H _ I h) fun us s1 ⟨vs, H1, I1, r1, q1⟩ => ?_) hs rfl))
  obtain ⟨a, xs, ex, q1⟩ := q1
  subst ex
  cases r1 with
  | cons r rr =>
    cases rr
    cases r
    rcases q1 with ⟨hq, q⟩ | ⟨hq, q⟩
    · obtain ⟨its, rv, pl, hz⟩ := I1.list hq
      refine call_enumerate_list pl.isList fun h' he hit hsz hk => wpAny_pyIter_enum he ?_
      have I2 : Inv X pins σ H1 { s1 with heap := h' } := I1.kept (t' := s1.toks) hk
      refine ⟨s1.heap.objs.size + 1, [s1.heap.objs.size + 1, s1.heap.objs.size], _, _, H1, rfl, I2, turn_enum a (s1.heap.objs.size + 1) s1.heap.objs.size, ⟨⟨.none, he⟩, hit, Nat.succ_ne_self _⟩, fun b hb => ?_, q⟩
      have hle : s1.heap.objs.size ≤ b := by
        rcases (show b = s1.heap.objs.size + 1 ∨ b = s1.heap.objs.size by simpa using hb) with z | z
        · rw [z]; exact Nat.le_add_right _ _
        · rw [z]; exact Nat.le_refl _
      exact I1.fpOk hle (I1.hok.fresh hle)
    · obtain ⟨its, rv, pl, hz⟩ := I1.tuple hq
      have htup : s1.heap.IsTuple a its.toArray := pl
      refine enum1_begins (begins_tuple a its.toArray) htup fun h' he hit hsz hk => wpAny_pyIter_enum he ?_
      have I2 : Inv X pins σ H1 { s1 with heap := h' } := I1.kept (t' := s1.toks) hk
      have hne : a ≠ s1.heap.objs.size := fun z => by
        obtain ⟨ob, h1, _⟩ := htup
        exact absurd (Heap.lt_size h1) (by rw [z]; exact Nat.lt_irrefl _)
      refine ⟨s1.heap.objs.size + 1, [s1.heap.objs.size + 1, s1.heap.objs.size], _, _, H1, rfl, I2, turn_enumT a (s1.heap.objs.size + 1) s1.heap.objs.size, ⟨⟨.none, he⟩, ⟨_, hit, rfl, rfl⟩, Nat.succ_ne_self _, hne⟩, fun b hb => ?_, q⟩
      have hle : s1.heap.objs.size ≤ b := by
        rcases (show b = s1.heap.objs.size + 1 ∨ b = s1.heap.objs.size by simpa using hb) with z | z
        · rw [z]; exact Nat.le_add_right _ _
        · rw [z]; exact Nat.le_refl _
      exact I1.fpOk hle (I1.hok.fresh hle)
theorem walk_enumT {a : Addr} {xs : List V} : Walk (IteT K a) xs.length (fun H => SqT K H a xs) (YPair (fun i => some (.int (i : Nat))) (fun i => xs[i]?)) := by
  refine ⟨fun i _ hi q => ⟨xs, xs[i], q, by simp [hi]⟩, fun _ q => ⟨xs, q, Nat.le_refl _⟩, fun i H v H' _ q y => ?_⟩
  obtain ⟨T, x, h1, h2, h3, h4⟩ := y
  exact ⟨T, .int (i : Nat), x, h1, h2, h3, rfl, h4 xs q⟩
theorem ItOk.enumT {G : Hp} {ds : List D} {a : Addr} {xs : List V} (hx : SqT K G a xs) (r : RepAll K G xs ds) : ItOk K (IteT K a) (enumD 0 ds) G :=
  ItOk.of_pair walk_enumT (by rw [enumD_length]; exact r.length) (fun H1 e => sqt_ex e hx) fun i x y hi h1 h2 => by
    cases h1
    have hi' : i < ds.length := by rw [← r.length]; exact hi
    obtain ⟨v, e, rv⟩ := r.get (i := i) (d := ds[i]) (by simp [hi'])
    have h2 : xs[i]? = some y := h2
    rw [h2] at e
    cases e
    refine ⟨.int i, ds[i], ?_, .int _, rv⟩
    rw [enumD_get ds 0 i ds[i] (by simp [hi']), Nat.zero_add]
def iEn2 : List D → Option (List D)
  | [.lst ds] => some (enumD 0 ds)
  | [.tup ds] => some (enumD 0 ds)
  | _ => none
theorem di_enumU {t : TA} {f : FA} (h : DA K cm W t f) : DI K cm W (iEnumT K t) (iA iEn2 f) := by
  intro G H σ ρ fps ok r e Q q
  refine da_bind (P := []) h ok e (fun d ρ1 e1 v G1 H1 fps1 p g => ?_) fun k f d ρ' e1 => by rw [e1] at q; exact q
  cases hg : iEn2 d with
  | none => simp only [hg] at e1; cases e1
  | some ds =>
    simp only [hg] at e1
    cases e1
    unfold iEn2 at hg
    split at hg
    · cases hg
      cases g with
      | cons r1 rr =>
        cases rr
        cases r1 with
        | @lst a xs ds h1 h2 => exact ⟨a, xs, rfl, .inl ⟨Or.inl (Or.inl (p.ok.ex _ _ h1)), q _ G1 H1 fps1 p (.enum h1 h2)⟩⟩
    · cases hg
      cases g with
      | cons r1 rr =>
        cases rr
        cases r1 with
        | @tup a xs ds h1 h2 => exact ⟨a, xs, rfl, .inr ⟨sqt_ex p.ok.ex h1, q _ G1 H1 fps1 p (.enumT h1 h2)⟩⟩
    · cases hg
theorem ix_enum {e : Expr} {te : TE} {fe : FE} {p pos tpos : Pos} {elts : List Expr} {kk : Nat} (hm : X.mg "enumerate" = none) (he : Dx X cm W e te fe) (hg : Gl X "enumerate" := by rfl) (hs : starEach [e] X.env = (false, eval e X.env) :: starEach [] X.env := by rfl) :
    Ix X cm W (.Tuple elts kk tpos) (.Call (.Name "enumerate" p) [e] [] pos) (iEnumT X.K (tCons te tNil)) (iA iEn2 (fCons fe fNil)) := ⟨pi_enumU hg hm (pa_cons he.pe pa_nil hs) hs, di_enumU (da_cons he.de da_nil)⟩
end
/-- a list or a tuple walked -/
def fSeq (f : FE) : FI := fun ρ => rb (f ρ) fun d ρ1 => match d with
  | .lst ds => some (.ok ds ρ1)
  | .tup ds => some (.ok ds ρ1)
  | _ => none
def iSeq (K : PySem.W.Frag) (tl : TE) : TI := fun σ H R => tl σ H fun x H1 => ∃ a, x = .ref a ∧ ((∃ xs, SqL K H1 a xs ∧ R (Itl K a) H1) ∨ (∃ xs, SqT K H1 a xs ∧ R (Itt K a) H1))
section
variable {X : Cx} {cm : Str → Addr} {W : WX} {K : PySem.W.Frag} {tg l : Expr} {tl : TE} {f : FE}
theorem pi_seq (hl : PE X l tl) : PI X tg l (iSeq X.K tl) := by
  refine ⟨fun pins s σ H R I h => ?_⟩
  refine thn (hl.run pins s σ H _ I h) fun v s1 ⟨x, H1, I1, r1, q1⟩ => ?_
  obtain ⟨a, e, q1⟩ := q1
  subst e
  cases r1
  have fresh : ∀ b ∈ [s1.heap.objs.size], FpOk X pins H1 b := fun b hb => by
    rw [show b = s1.heap.objs.size by simpa using hb]
    exact I1.fpOk (Nat.le_refl _) (I1.hok.fresh (Nat.le_refl _))
  rcases q1 with ⟨xs, hq, q⟩ | ⟨xs, hq, q⟩
  · obtain ⟨its, rv, p, hz⟩ := I1.list hq
    exact wpAny_pyIter_list p.isList ⟨s1.heap.objs.size, [s1.heap.objs.size], _, _, H1, rfl, I1.kept (t' := s1.toks) fun b o e => Heap.get?_push_of_some _ e, turn_list a _, ⟨_, Heap.get?_push_size _ rfl, rfl, rfl⟩, fresh, q⟩
  · obtain ⟨its, rv, p, hz⟩ := I1.tuple hq
    exact wpAny_pyIter_tuple (show s1.heap.IsTuple a its.toArray from p) ⟨s1.heap.objs.size, [s1.heap.objs.size], _, _, H1, rfl, I1.kept (t' := s1.toks) fun b o e => Heap.get?_push_of_some _ e, turn_tuple a _, ⟨_, Heap.get?_push_size _ rfl, rfl, rfl⟩, fresh, q⟩
theorem di_seq (h : DE K cm W tl f) : DI K cm W (iSeq K tl) (fSeq f) := by
  intro G H σ ρ fps ok r e Q q
  refine de_bind (P := []) h ok e (fun d ρ1 e1 v G1 H1 fps1 p g => ?_) fun k f d ρ' e1 => by rw [e1] at q; exact q
  cases g <;> first | (cases e1; done) | skip
  · rename_i a xs ds h1 h2
    cases e1
    exact ⟨a, rfl, .inr ⟨xs, sqt_ex p.ok.ex h1, q _ G1 H1 fps1 p (ItOk.of_at walk_tup (fun H2 e2 => sqt_ex e2 h1) h2)⟩⟩
  · rename_i a xs ds h1 h2
    cases e1
    exact ⟨a, rfl, .inl ⟨xs, Or.inl (Or.inl (p.ok.ex _ _ h1)), q _ G1 H1 fps1 p (ItOk.of_at walk_list (fun H2 e2 => Or.inl (Or.inl (e2 _ _ h1))) h2)⟩⟩
theorem ix_seq' (h : Dx X cm W l tl f) : Ix X cm W tg l (iSeq X.K tl) (fSeq f) := ⟨pi_seq h.pe, di_seq h.de⟩
theorem ix_r1 {a : Expr} {ta : TE} {fa : FE} {p pos : Pos} (hm : X.mg "range" = none) (h : Dx X cm W a ta fa) (hg : Gl X "range" := by rfl) (hs : starEach [a] X.env = (false, eval a X.env) :: starEach [] X.env := by rfl) : Ix X cm W tg (.Call (.Name "range" p) [a] [] pos) (iRng1 (tCons ta tNil)) (iA iR1 (fCons fa fNil)) :=
  ⟨pi_range1 hg hm (pa_cons h.pe pa_nil hs) hs, di_r1 (da_cons h.de da_nil)⟩
theorem ix_r2 {a b : Expr} {ta tb : TE} {fa fb : FE} {p pos : Pos} (hm : X.mg "range" = none) (h : Dx X cm W a ta fa) (h' : Dx X cm W b tb fb) (hg : Gl X "range" := by rfl) (hs : starEach [a, b] X.env = (false, eval a X.env) :: starEach [b] X.env := by rfl) (hs2 : starEach [b] X.env = (false, eval b X.env) :: starEach [] X.env := by rfl) :
    Ix X cm W tg (.Call (.Name "range" p) [a, b] [] pos) (iRng2 (tCons ta (tCons tb tNil))) (iA iR2 (fCons fa (fCons fb fNil))) :=
  ⟨pi_range2 hg hm (pa_cons h.pe (pa_cons h'.pe pa_nil hs2) hs) (by rw [hs, hs2]; rfl) hs2, di_r2 (da_cons h.de (da_cons h'.de da_nil))⟩
end
end LD

end
section
set_option Elab.async false
set_option linter.all false
set_option maxRecDepth 100000
set_option maxHeartbeats 4000000
namespace LD
open PySem PySem.Spec PyProof.Rows L2

section
variable {X : Cx} {cm : Str → Addr} {W : WX} {K : PySem.W.Frag} {a e : Expr} {ta te : TE} {fa : FE} {pos p : Pos}
/-! ### more expressions -/
def negD : D → Option OV
  | .int i => some (.fz (.int (-i)))
  | _ => none
theorem op1_neg : Op1 K (rU fun i => .int (-i)) negD := by
  intro G H x d o ex r h Q k
  cases d <;> first | (cases h; done) | skip
  cases r
  cases h
  exact ⟨_, rfl, op_fz ex (.int _) k⟩
theorem dx_neg (h : Dx X cm W a ta fa) : Dx X cm W (.UnaryOp .USub a pos) (tUn (rU fun i => .int (-i)) ta) (fE (f1 negD fa)) := ⟨pe_un un_neg h.pe, de_E (do_1 h.de op1_neg)⟩
/-- a name of the module's -/
theorem dx_glob {x : Str} {v : V} {u : Value} (d : D) (hm : X.mg x = some u) (hv : RelV v u) (r : ∀ G, Rep X.K G v d) (hg : Gl X x := by rfl) (hd : (x == ("__debug__" : Str)) = false := by decide) : Dx X cm W (.Name x pos) (tC v) (fC d) := ⟨pe_glob hg hm hv hd, de_C r⟩
/-- a clause's tests -/
structure Tsx (X : Cx) (cm : Str → Addr) (W : WX) (es : List Expr) (t : TT) (f : FT) : Prop where
  pe : PTs X es t
  de : DT X.K cm W t f
theorem tsx_nil : Tsx X cm W [] tYes fYes := ⟨pts_nil, dt_yes⟩
theorem tsx_one {t : TT} {f : FT} (h : Tx X cm W a t f) : Tsx X cm W [a] t f := ⟨pts_one h.pe, h.de⟩
/-- one reading for all of a block's contexts -/
abbrev Bl := Shared × Hp × Addr × List (Str × Addr) × List Addr
def blX (X : Cx) (scope : Scope) (i : Bl) : Cx := X.blk i.1 i.2.1 scope (compEnvC scope i.2.2.2.1 i.2.2.1 X.env) i.2.2.2.2
theorem all_O {Y : Bl → Cx} {K : PySem.W.Frag} {e : Expr} {f : FO} {W : WX} (hK : ∀ i, (Y i).K = K) (h : ∀ i, ∃ t, Ox (Y i) cm W e t f) : ∃ t, (∀ i, PE (Y i) e t) ∧ DO K cm W t f := by
  refine ⟨fun σ H Q => ∀ i, Classical.choose (h i) σ H Q, fun i => ⟨fun pins s σ H Q I w => (Classical.choose_spec (h i)).pe.run pins s σ H Q I (w i)⟩, fun G H σ ρ fps ok r e Q q i => ?_⟩
  have d := (Classical.choose_spec (h i)).de
  rw [hK i] at d
  exact d G H σ ρ fps ok r e Q q
theorem all_G {Y : Bl → Cx} {K : PySem.W.Frag} {e : Expr} {g : Tg} {P : List Nat} (hK : ∀ i, (Y i).K = K) (h : ∀ i, ∃ t, Gx (Y i) P e t g) : ∃ t, (∀ i, PG (Y i) e t) ∧ DG K P t g := by
  refine ⟨fun v σ H Q => ∀ i, Classical.choose (h i) v σ H Q, fun i => ⟨fun pins s σ H v y Q I r w => (Classical.choose_spec (h i)).pe.run pins s σ H v y Q I r (w i)⟩, fun G H σ ρ fps ok v d ρ' r e Q q i => ?_⟩
  have z := (Classical.choose_spec (h i)).de
  rw [hK i] at z
  exact z G H σ ρ fps ok v d ρ' r e Q q
theorem all_T {Y : Bl → Cx} {K : PySem.W.Frag} {es : List Expr} {f : FT} {W : WX} (hK : ∀ i, (Y i).K = K) (h : ∀ i, ∃ t, Tsx (Y i) cm W es t f) : ∃ t, (∀ i, PTs (Y i) es t) ∧ DT K cm W t f := by
  refine ⟨fun σ H Q => ∀ i, Classical.choose (h i) σ H Q, fun i => ⟨fun pins s σ H Q I w => (Classical.choose_spec (h i)).pe.run pins s σ H Q I (w i)⟩, fun G H σ ρ fps ok r e Q q i => ?_⟩
  have d := (Classical.choose_spec (h i)).de
  rw [hK i] at d
  exact d G H σ ρ fps ok r e Q q
/-- an expression's function, its reading left out -/
def Oe (X : Cx) (cm : Str → Addr) (W : WX) (e : Expr) (f : FO) : Prop := ∃ t, Ox X cm W e t f
theorem oe {e : Expr} {te : TE} {f : FO} (h : Ox X cm W e te f) : Oe X cm W e f := ⟨_, h⟩
theorem oxe {e : Expr} {f : FO} (h : Oe X cm W e f) : Ox X cm W e (Classical.choose h) f := Classical.choose_spec h
def Se (X : Cx) (cm : Str → Addr) (W : WX) (P : List Nat) (e : Stmt) (f : FS) : Prop := ∃ t, Sx X cm W P e t f
theorem sxe {P : List Nat} {e : Stmt} {f : FS} (h : Se X cm W P e f) : Sx X cm W P e (Classical.choose h) f := Classical.choose_spec h
theorem se {P : List Nat} {e : Stmt} {t : TS} {f : FS} (h : Sx X cm W P e t f) : Se X cm W P e f := ⟨_, h⟩
def Ge (X : Cx) (P : List Nat) (e : Expr) (f : Tg) : Prop := ∃ t, Gx X P e t f
theorem ge {P : List Nat} {e : Expr} {te : TG} {f : Tg} (h : Gx X P e te f) : Ge X P e f := ⟨_, h⟩
def Tse (X : Cx) (cm : Str → Addr) (W : WX) (e : List Expr) (f : FT) : Prop := ∃ t, Tsx X cm W e t f
theorem tse {e : List Expr} {te : TT} {f : FT} (h : Tsx X cm W e te f) : Tse X cm W e f := ⟨_, h⟩
theorem oe_comp {n : Nat} {elt tg iter : Expr} {ifs : List Expr} {scope : Scope} {wi : TI} {fi : FI} {gg : Tg} {ft : FT} {fo : FO} {vs : List Nat} (own : List (Str × Nat)) (hc : X.calm = true) (hN : X.N.Nodup) (ok : BlkOk X.N X.env.scope scope own) (hv : own.map (·.2) = vs) (hi : Ix X cm W tg iter wi fi)
    (hg : ∀ (s : Shared) (H : Hp) (C : Addr) (cl : List (Str × Addr)) (fp : List Addr), Ge (X.blk s H scope (compEnvC scope cl C X.env) fp) (others n vs) tg gg)
    (ht : ∀ (s : Shared) (H : Hp) (C : Addr) (cl : List (Str × Addr)) (fp : List Addr), Tse (X.blk s H scope (compEnvC scope cl C X.env) fp) cm W0 ifs ft)
    (he : ∀ (s : Shared) (H : Hp) (C : Addr) (cl : List (Str × Addr)) (fp : List Addr), Oe (X.blk s H scope (compEnvC scope cl C X.env) fp) cm W0 elt fo) (hs : ∀ x, foldedSetIterable iter X.env x = pure x := by intro _; rfl) :
    Oe X cm W (.ListComp elt [⟨tg, iter, ifs, 0⟩] scope pos) (fLc n fi gg ft fo vs) := by
  subst hv
  obtain ⟨tg, pg, dg⟩ := all_G (K := X.K) (Y := blX X scope) (fun _ => rfl) fun i => hg i.1 i.2.1 i.2.2.1 i.2.2.2.1 i.2.2.2.2
  obtain ⟨tt, pt, dt⟩ := all_T (K := X.K) (Y := blX X scope) (fun _ => rfl) fun i => ht i.1 i.2.1 i.2.2.1 i.2.2.2.1 i.2.2.2.2
  obtain ⟨te, pe, de⟩ := all_O (K := X.K) (Y := blX X scope) (fun _ => rfl) fun i => he i.1 i.2.1 i.2.2.1 i.2.2.2.1 i.2.2.2.2
  exact ⟨tLc wi tg tt te (own.map (·.2)), pe_lc hc hN hi.pe ok (fun s H C cl fp => pg (s, H, C, cl, fp)) (fun s H C cl fp => pt (s, H, C, cl, fp)) (fun s H C cl fp => pe (s, H, C, cl, fp)) hs, do_lc hi.de dg dt de⟩
theorem se_comp' {P : List Nat} {n i : Nat} {y : Str} {py spos : Pos} {elt tg iter : Expr} {ifs : List Expr} {scope : Scope} {wi : TI} {fi : FI} {gg : Tg} {ft : FT} {fo : FO} {vs : List Nat} (own : List (Str × Nat)) (hc : X.calm = true) (hN : X.N.Nodup) (ok : BlkOk X.N X.env.scope scope own) (hv : own.map (·.2) = vs) (hP : i ∉ P) (hi : Ix X cm W tg iter wi fi)
    (hg : ∀ (s : Shared) (H : Hp) (C : Addr) (cl : List (Str × Addr)) (fp : List Addr), Ge (X.blk s H scope (compEnvC scope cl C X.env) fp) (others n vs) tg gg)
    (ht : ∀ (s : Shared) (H : Hp) (C : Addr) (cl : List (Str × Addr)) (fp : List Addr), Tse (X.blk s H scope (compEnvC scope cl C X.env) fp) cm W0 ifs ft)
    (he : ∀ (s : Shared) (H : Hp) (C : Addr) (cl : List (Str × Addr)) (fp : List Addr), Oe (X.blk s H scope (compEnvC scope cl C X.env) fp) cm W0 elt fo) (hy : X.N[i]? = some y := by rfl) (hyl : X.env.scope.names.lookup y = some .local := by rfl)
    (hsw : swapsWith (.ListComp elt [⟨tg, iter, ifs, 0⟩] scope pos) (some (.Name y py)) spos.line X.env = pure true := by exact sw_true rfl rfl rfl (by decide +kernel)) (hs : ∀ x, foldedSetIterable iter X.env x = pure x := by intro _; rfl) :
    ∃ t, Sx X cm W P (.Assign [.Name y py] (.ListComp elt [⟨tg, iter, ifs, 0⟩] scope pos) spos) (tAsg t (gName i)) (sSet i (fLc n fi gg ft fo vs)) := by
  subst hv
  obtain ⟨tg, pg, dg⟩ := all_G (K := X.K) (Y := blX X scope) (fun _ => rfl) fun i => hg i.1 i.2.1 i.2.2.1 i.2.2.2.1 i.2.2.2.2
  obtain ⟨tt, pt, dt⟩ := all_T (K := X.K) (Y := blX X scope) (fun _ => rfl) fun i => ht i.1 i.2.1 i.2.2.1 i.2.2.2.1 i.2.2.2.2
  obtain ⟨te, pe, de⟩ := all_O (K := X.K) (Y := blX X scope) (fun _ => rfl) fun i => he i.1 i.2.1 i.2.2.1 i.2.2.2.1 i.2.2.2.2
  exact ⟨tLc wi tg tt te (own.map (·.2)), ps_setLc hc hN hy hyl hsw hi.pe ok (fun s H C cl fp => pg (s, H, C, cl, fp)) (fun s H C cl fp => pt (s, H, C, cl, fp)) (fun s H C cl fp => pe (s, H, C, cl, fp)) hs, ds_set (do_lc hi.de dg dt de) hP⟩
theorem se_comp {P : List Nat} {n i : Nat} {y : Str} {py spos : Pos} {elt tg iter : Expr} {ifs : List Expr} {scope : Scope} {wi : TI} {fi : FI} {gg : Tg} {ft : FT} {fo : FO} {vs : List Nat} (own : List (Str × Nat)) (hc : X.calm = true) (hN : X.N.Nodup) (ok : BlkOk X.N X.env.scope scope own) (hv : own.map (·.2) = vs) (hP : i ∉ P) (hi : Ix X cm W tg iter wi fi)
    (hg : ∀ (s : Shared) (H : Hp) (C : Addr) (cl : List (Str × Addr)) (fp : List Addr), Ge (X.blk s H scope (compEnvC scope cl C X.env) fp) (others n vs) tg gg)
    (ht : ∀ (s : Shared) (H : Hp) (C : Addr) (cl : List (Str × Addr)) (fp : List Addr), Tse (X.blk s H scope (compEnvC scope cl C X.env) fp) cm W0 ifs ft)
    (he : ∀ (s : Shared) (H : Hp) (C : Addr) (cl : List (Str × Addr)) (fp : List Addr), Oe (X.blk s H scope (compEnvC scope cl C X.env) fp) cm W0 elt fo) (hy : X.N[i]? = some y := by rfl) (hyl : X.env.scope.names.lookup y = some .local := by rfl)
    (hsw : swapsWith (.ListComp elt [⟨tg, iter, ifs, 0⟩] scope pos) (some (.Name y py)) spos.line X.env = pure true := by exact sw_true rfl rfl rfl (by decide +kernel)) (hs : ∀ x, foldedSetIterable iter X.env x = pure x := by intro _; rfl) :
    Se X cm W P (.Assign [.Name y py] (.ListComp elt [⟨tg, iter, ifs, 0⟩] scope pos) spos) (sSet i (fLc n fi gg ft fo vs)) := by
  obtain ⟨t, h⟩ := se_comp' own hc hN ok hv hP hi hg ht he hy hyl hsw hs
  exact ⟨_, h⟩
/-- len(set(ints)) -/
def intsOf : D → Option (List Int)
  | .lst ds => intsD ds
  | .tup ds => intsD ds
  | _ => none
theorem hu65 {k : Nat} {A : Around} (hr : Room k A) : A.units + 65 < cLine := by have := hr.un; omega
/-- a comprehension's list that nobody turns: frozen as it is stored -/
theorem ds_freeze {P : List Nat} {t : TE} {f : FO} {i : Nat} (h : DS K cm W P (tAsg t (gName i)) (sSet i f)) : DS K cm W P (tAsg t (gName i)) (sSet i (fO (fE f))) := ds_of fun G H σ ρ fps ok r e D q => by
  unfold sSet fO fE at e
  cases hf : f ρ with
  | none => simp only [hf, rb, er] at e; cases e
  | some r1 =>
    cases r1 with
    | ex k g d ρ1 =>
      simp only [hf, rb, er] at e
      cases e
      exact ds_run h ok (r := .ex k g d ρ1) (by unfold sSet; rw [hf]; rfl) q
    | ok o ρ1 =>
      simp only [hf, rb, er] at e
      split at e
      · rename_i hi
        cases e
        refine ds_run h ok (r := .nx (ρ1.set i (some o))) (by unfold sSet; rw [hf]; simp only [er, if_pos hi]) ?_
        intro σ' G' H' fps' p
        have hget : (ρ1.set i (some o))[i]? = some (some o) := List.getElem?_set_self hi
        obtain ⟨v, hv, _⟩ := p.ok.own i o hget
        obtain ⟨G2, fps2, p2, _⟩ := p.ok.thaw (P := P) hget hv
        have p3 : Post K P G H σ fps G2 H' σ' ((ρ1.set i (some o)).set i (some (.fz (erase o)))) fps2 := p.trans p2
        rw [List.set_set] at p3
        exact q σ' G2 H' fps2 p3
      · cases e
theorem sx_freeze {P : List Nat} {st : Stmt} {t : TE} {f : FO} {i : Nat} (h : Sx X cm W P st (tAsg t (gName i)) (sSet i f)) : Sx X cm W P st (tAsg t (gName i)) (sSet i (fO (fE f))) := ⟨h.pe, ds_freeze h.de⟩
theorem se_freeze {P : List Nat} {n i : Nat} {y : Str} {py spos : Pos} {elt tg iter : Expr} {ifs : List Expr} {scope : Scope} {wi : TI} {fi : FI} {gg : Tg} {ft : FT} {fo : FO} {vs : List Nat} (own : List (Str × Nat)) (hc : X.calm = true) (hN : X.N.Nodup) (ok : BlkOk X.N X.env.scope scope own) (hv : own.map (·.2) = vs) (hP : i ∉ P) (hi : Ix X cm W tg iter wi fi)
    (hg : ∀ (s : Shared) (H : Hp) (C : Addr) (cl : List (Str × Addr)) (fp : List Addr), Ge (X.blk s H scope (compEnvC scope cl C X.env) fp) (others n vs) tg gg)
    (ht : ∀ (s : Shared) (H : Hp) (C : Addr) (cl : List (Str × Addr)) (fp : List Addr), Tse (X.blk s H scope (compEnvC scope cl C X.env) fp) cm W0 ifs ft)
    (he : ∀ (s : Shared) (H : Hp) (C : Addr) (cl : List (Str × Addr)) (fp : List Addr), Oe (X.blk s H scope (compEnvC scope cl C X.env) fp) cm W0 elt fo) (hy : X.N[i]? = some y := by rfl) (hyl : X.env.scope.names.lookup y = some .local := by rfl)
    (hsw : swapsWith (.ListComp elt [⟨tg, iter, ifs, 0⟩] scope pos) (some (.Name y py)) spos.line X.env = pure true := by exact sw_true rfl rfl rfl (by decide +kernel)) (hs : ∀ x, foldedSetIterable iter X.env x = pure x := by intro _; rfl) :
    Se X cm W P (.Assign [.Name y py] (.ListComp elt [⟨tg, iter, ifs, 0⟩] scope pos) spos) (sSet i (fO (fE (fLc n fi gg ft fo vs)))) := by
  obtain ⟨t, h⟩ := se_comp' own hc hN ok hv hP hi hg ht he hy hyl hsw hs
  exact ⟨_, h.pe, ds_freeze h.de⟩
open Classical in
/-- a while as a function -/
noncomputable def whlF (c : FT) (b : FS) (dead : List Nat) : FS := fun ρ => if h : ∃ r, Whl c b dead ρ r then some (Classical.choose h) else none
theorem whlF_ok {c : FT} {b : FS} {dead : List Nat} : sWhl c b dead (whlF c b dead) := fun ρ r e => by
  unfold whlF at e
  split at e
  · rename_i h
    cases e
    exact Classical.choose_spec h
  · cases e
theorem whl_det {c : FT} {b : FS} {dead : List Nat} {ρ : Envr} {r r' : SR} (h : Whl c b dead ρ r) (h' : Whl c b dead ρ r') : r = r' := by
  induction h with
  | done h1 => cases h' <;> simp_all
  | nx h1 h2 _ ih => cases h' <;> simp_all
  | ct h1 h2 _ ih => cases h' <;> simp_all
  | bk h1 h2 => cases h' <;> simp_all
  | rt h1 h2 => cases h' <;> simp_all
  | ex h1 h2 => cases h' <;> simp_all
  | exc h1 => cases h' <;> simp_all
theorem whlF_eq {c : FT} {b : FS} {dead : List Nat} {ρ : Envr} {r : SR} (h : Whl c b dead ρ r) : whlF c b dead ρ = some r := by
  have hx : ∃ r, Whl c b dead ρ r := ⟨r, h⟩
  unfold whlF
  rw [dif_pos hx]
  exact congrArg some (whl_det (Classical.choose_spec hx) h)
theorem pgPair {i j : Nat} {x y : Str} {px py pt : Pos} {kt} (hN : X.N.Nodup) (hi : X.N[i]? = some x := by rfl) (hj : X.N[j]? = some y := by rfl) (hc : X.calm = true := by rfl) (hx : Loc X.env.scope x := by first | exact Or.inl rfl | exact Or.inr rfl) (hy : Loc X.env.scope y := by first | exact Or.inl rfl | exact Or.inr rfl)
    (fx : X.fn x = true ∨ X.env.scope.names.lookup x = some .local := by first | exact .inl rfl | exact .inr rfl) (fy : X.fn y = true ∨ X.env.scope.names.lookup y = some .local := by first | exact .inl rfl | exact .inr rfl)
    (h1 : (assignEach [.Name x px, .Name y py] X.env).map (·.2) = assign (.Name x px) X.env :: (assignEach [.Name y py] X.env).map (·.2) := by rfl) (h2 : (assignEach [.Name y py] X.env).map (·.2) = assign (.Name y py) X.env :: (assignEach [] X.env).map (·.2) := by rfl)
    (hn : (assignEach [.Name x px, .Name y py] X.env).length = 2 := by rfl) (hst : (assignEach [.Name x px, .Name y py] X.env).findIdx? (·.1) = none := by rfl) : PG X (.Tuple [.Name x px, .Name y py] kt pt) (gTup X.K 2 (gCons (gName i) (gCons (gName j) gNil))) :=
  pg_tup hc (pgs_cons (pg_name hN hi hx fx) (pgs_cons (pg_name hN hj hy fy) pgs_nil h2) h1) hn hst
end
end LD

end
section
set_option Elab.async false
set_option linter.all false
set_option maxRecDepth 100000
set_option maxHeartbeats 4000000
namespace LD
open PySem PySem.Spec PyProof.Rows L2

/-! ### dicts -/
def putD (kvs : List (Key × D)) (k : Key) (v : D) : List (Key × D) :=
  if (kvs.any fun kv => decide (kv.1 = k)) = true then kvs.map (fun kv => if kv.1 = k then (kv.1, v) else kv) else kvs ++ [(k, v)]
def keyOfD : D → Option Key
  | .int i => some (.inl i)
  | .str s => some (.inr s)
  | _ => none
section
variable {K : PySem.W.Frag} {G H : Hp}
theorem key_rep {d : D} {v : V} {k : Key} (r : Rep K G v d) (h : keyOfD d = some k) : v = kV k := by
  cases r <;> first | (cases h; done) | skip
  · cases h; rfl
  · cases h; rfl
theorem rkv_any {kvs : List (Key × V)} {ds : List (Key × D)} (r : RepKV K G kvs ds) (k : Key) : (kvs.any fun kv => decide (kv.1 = k)) = (ds.any fun kv => decide (kv.1 = k)) := by
  match r with
  | .nil => rfl
  | .cons h t => rw [List.any_cons, List.any_cons, rkv_any t k]
theorem rkv_map {kvs : List (Key × V)} {ds : List (Key × D)} (r : RepKV K G kvs ds) {k : Key} {v : V} {d : D} (rv : Rep K G v d) : RepKV K G (kvs.map fun kv => if kv.1 = k then (kv.1, v) else kv) (ds.map fun kv => if kv.1 = k then (kv.1, d) else kv) := by
  match r with
  | .nil => exact .nil
  | @RepKV.cons _ _ q u vs e es h t =>
    rw [List.map_cons, List.map_cons]
    by_cases c : q = k
    · rw [if_pos c, if_pos c]; exact .cons rv (rkv_map t rv)
    · rw [if_neg c, if_neg c]; exact .cons h (rkv_map t rv)
theorem rkv_snoc {kvs : List (Key × V)} {ds : List (Key × D)} (r : RepKV K G kvs ds) {k : Key} {v : V} {d : D} (rv : Rep K G v d) : RepKV K G (kvs ++ [(k, v)]) (ds ++ [(k, d)]) := by
  match r with
  | .nil => exact .cons rv .nil
  | .cons h t => exact .cons h (rkv_snoc t rv)
theorem rkv_put {kvs : List (Key × V)} {ds : List (Key × D)} (r : RepKV K G kvs ds) {k : Key} {v : V} {d : D} (rv : Rep K G v d) : RepKV K G (putK kvs k v) (putD ds k d) := by
  unfold putK putD
  rw [rkv_any r k]
  split
  · exact rkv_map r rv
  · exact rkv_snoc r rv
theorem rkv_val {kvs : List (Key × V)} {ds : List (Key × D)} (r : RepKV K G kvs ds) (k : Key) : (∃ v d, valV kvs k = some v ∧ keyD ds k = some d ∧ Rep K G v d) ∨ (valV kvs k = none ∧ keyD ds k = none) := by
  match r with
  | .nil => exact .inr ⟨rfl, rfl⟩
  | @RepKV.cons _ _ q u vs e es h t =>
    by_cases c : q = k
    · exact .inl ⟨u, e, by simp [valV, c], by simp [keyD, c], h⟩
    · have z := rkv_val t k
      simpa [valV, keyD, c] using z
theorem rkv_len {kvs : List (Key × V)} {ds : List (Key × D)} (r : RepKV K G kvs ds) : kvs.length = ds.length := by
  match r with
  | .nil => rfl
  | .cons h t => rw [List.length_cons, List.length_cons, rkv_len t]
end
/-- a dict that is read where it stands -/
theorem own_dict {K : PySem.W.Frag} {G H : Hp} {v : V} {o : OV} {F : Addr → Prop} (ex : Ex G H) (w : Own K G H v o F) {kvs : List (Key × D)} (h : o = .dk kvs ∨ o = .fz (.dk kvs)) : ∃ p vs, v = .ref p ∧ H p = some (.dK vs) ∧ RepKV K G vs kvs := by
  rcases h with rfl | rfl
  · cases w with
    | dk h1 h2 h3 => exact ⟨_, _, rfl, h1, h3⟩
  · cases w with
    | fz r => cases r with
      | dk h1 h2 => exact ⟨_, _, rfl, ex _ _ h1, h2⟩
section
variable {X : Cx} {cm : Str → Addr} {W : WX} {K : PySem.W.Frag} {P : List Nat} {pos p pos' : Pos} {a b e : Expr} {ta tb te : TE} {f : FQ}
theorem dq_key {s : Str} (h : DQ K ta f) : DQ K (tDGet ta (tC (.str s))) (qKey f s) := by
  intro G H σ ρ fps ok o e Q q
  unfold qKey at e
  have key : ∀ kvs o1, f ρ = some o1 → (o1 = .dk kvs ∨ o1 = .fz (.dk kvs)) → (keyD kvs (.inr s)).map OV.fz = some o → tDGet ta (tC (.str s)) σ H Q := fun kvs o1 h1 h2 h3 => by
    refine h G H σ ρ fps ok _ h1 _ fun v F w => ?_
    obtain ⟨p, vs, rfl, hp, r⟩ := own_dict ok.ex w h2
    rcases rkv_val r (.inr s) with ⟨u, d, e1, e2, ru⟩ | ⟨_, e2⟩
    · rw [e2] at h3
      cases h3
      exact ⟨p, u, rfl, .inl ⟨vs, .inr s, .inl hp, rfl, e1.symm⟩, q u (fun _ => False) (.fz ru)⟩
    · rw [e2] at h3; cases h3
  split at e
  · rename_i kvs h1; exact key kvs _ h1 (.inl rfl) e
  · rename_i kvs h1; exact key kvs _ h1 (.inr rfl) e
  · cases e
theorem qx_key {s : Str} {j} (hu : X.A.units + 1 < cLine) (h : Qx X a ta f) (hs : NoSl (.Constant (.str s) j p) := by exact fun _ _ => rfl) : Qx X (.Subscript a (.Constant (.str s) j p) pos) (tDGet ta (tC (.str s))) (qKey f s) := ⟨pe_dget hu h.pe pe_str hs, dq_key h.de⟩
/-- d[s] = e -/
def sPutK (i : Nat) (s : Str) (f : FE) : FS := fun ρ => er (f ρ) fun d ρ1 => match ρ1[i]? with
  | some (some (.dk kvs)) => if kvs.length < 100000 then some (.nx (ρ1.set i (some (.dk (putD kvs (.inr s) d))))) else none
  | _ => none
theorem ds_putK {i : Nat} {s : Str} {fe : FE} (h : DE K cm W te fe) : DS K cm W P (sDPut (tVar i) (tC (.str s)) te) (sPutK i s fe) := ds_of fun G H σ ρ fps ok r e D q => by
  refine se_bind h ok e q fun d ρ1 e1 y G1 H1 fps1 pp ry => ?_
  split at e1
  · rename_i kvs hi
    split at e1
    · rename_i hl
      cases e1
      obtain ⟨v0, hv, w0⟩ := pp.ok.own i _ hi
      cases w0 with
      | @dk p0 vs _ _ h1 h2 h3 =>
        refine ⟨.ref p0, hv, p0, _, rfl, .inl ⟨vs, .inr s, h1, rfl, by rw [rkv_len h3]; exact Nat.lt_of_lt_of_le hl (by decide), rfl⟩, ?_⟩
        refine q _ _ _ _ (pp.mutSlot (oy := .fz d) (Fy := fun _ => False) (.fz ry) (fun _ f => f.elim) (List.getElem?_eq_some_iff.mp hi).1 hv (H2 := upd H1 p0 (.dK (putK vs (.inr s) y))) (fun a n => upd_ne fun z => n (by rw [z]; exact h2)) (fun a f => by
          by_cases z : a = p0
          · rw [z, upd_same]; simp
          · rw [upd_ne z]; exact (pp.ok.fr i a f).1) (.dk upd_same (.inl h2) (rkv_put h3 ry)))
    · cases e1
  · cases e1
theorem sx_putK {i : Nat} {s x : Str} {fe : FE} {j} {px : Pos} (hu : X.A.units + 1 < cLine) (h : Dx X cm W e te fe) (hs : swapsWith e (some (.Subscript (.Name x px) (.Constant (.str s) j p) pos')) pos.line X.env = pure false := by rfl) (hN : X.N[i]? = some x := by rfl) (hv : Vis X.env.scope x := by first | exact Or.inl rfl | exact Or.inr (Or.inl rfl) | exact Or.inr (Or.inr rfl))
    (hd : (x == ("__debug__" : Str)) = false := by decide) (hcd : (x == ("__classdict__" : Str)) = false := by decide) : Sx X cm W P (.Assign [.Subscript (.Name x px) (.Constant (.str s) j p) pos'] e pos) (sDPut (tVar i) (tC (.str s)) te) (sPutK i s fe) :=
  ⟨ps_dput hu (pe_var hN hv hd hcd) pe_str h.pe hs, ds_putK h.de⟩
/-! x in d -/
def inXD (d e : D) : Option OV := match e with
  | .dk kvs => (keyOfD d).map fun k => .fz (.bl (keyD kvs k).isSome)
  | _ => inD d e
def notInXD (d e : D) : Option OV := match e with
  | .dk kvs => (keyOfD d).map fun k => .fz (.bl (!(keyD kvs k).isSome))
  | _ => notInD d e
def rInX (K : PySem.W.Frag) (n : Bool) : R2 := fun x y H Q => rInU K n x y H Q ∨ ∃ a o, y = .ref a ∧ DGet H a x o ∧ Q (.bl (if n = true then !o.isSome else o.isSome)) H
theorem cmp_inX (hu : X.A.units + 65 < cLine) : CmpR X .In (rInX X.K false) inXD := by
  refine ⟨fun pins s σ H x y v u Q I rx ry h => ?_, fun G H x y d e o ex r1 r2 h Q k => ?_⟩
  · rcases h with h | ⟨a, o, rfl, g, q⟩
    · exact op_inU hu pins s σ H x y v u Q I rx ry h
    · obtain rfl : u = Value.ref a := ry
      exact d_in (by omega) I g rx fun s3 I3 => ⟨.bl o.isSome, H, I3, rfl, q⟩
  · by_cases c : ∃ kvs, e = .dk kvs
    · obtain ⟨kvs, rfl⟩ := c
      replace h : (keyOfD d).map (fun k => OV.fz (.bl (keyD kvs k).isSome)) = some o := h
      cases hk : keyOfD d with
      | none => rw [hk] at h; cases h
      | some kk =>
        rw [hk] at h
        cases h
        cases r2 with
        | @dk p vs _ h1 h2 =>
          refine .inr ⟨p, valV vs kk, rfl, .inl ⟨vs, kk, .inl (ex _ _ h1), key_rep r1 hk, rfl⟩, ?_⟩
          have z : (valV vs kk).isSome = (keyD kvs kk).isSome := by
            rcases rkv_val h2 kk with ⟨_, _, e1, e2, _⟩ | ⟨e1, e2⟩ <;> rw [e1, e2] <;> rfl
          show Q (.bl (valV vs kk).isSome) H
          rw [z]
          exact op_fz ex (.bl _) k
    · have z : inD d e = some o := by
        rw [← h]
        cases e <;> first | rfl | exact absurd ⟨_, rfl⟩ c
      exact .inl (op2_in G H x y d e o ex r1 r2 z Q k)
theorem cmp_notInX (hu : X.A.units + 65 < cLine) : CmpR X .NotIn (rInX X.K true) notInXD := by
  refine ⟨fun pins s σ H x y v u Q I rx ry h => ?_, fun G H x y d e o ex r1 r2 h Q k => ?_⟩
  · rcases h with h | ⟨a, o, rfl, g, q⟩
    · exact op_notInU hu pins s σ H x y v u Q I rx ry h
    · obtain rfl : u = Value.ref a := ry
      exact d_notIn (by omega) I g rx fun s3 I3 => ⟨.bl (!o.isSome), H, I3, rfl, q⟩
  · by_cases c : ∃ kvs, e = .dk kvs
    · obtain ⟨kvs, rfl⟩ := c
      replace h : (keyOfD d).map (fun k => OV.fz (.bl (!(keyD kvs k).isSome))) = some o := h
      cases hk : keyOfD d with
      | none => rw [hk] at h; cases h
      | some kk =>
        rw [hk] at h
        cases h
        cases r2 with
        | @dk p vs _ h1 h2 =>
          refine .inr ⟨p, valV vs kk, rfl, .inl ⟨vs, kk, .inl (ex _ _ h1), key_rep r1 hk, rfl⟩, ?_⟩
          have z : (valV vs kk).isSome = (keyD kvs kk).isSome := by
            rcases rkv_val h2 kk with ⟨_, _, e1, e2, _⟩ | ⟨e1, e2⟩ <;> rw [e1, e2] <;> rfl
          show Q (.bl (!(valV vs kk).isSome)) H
          rw [z]
          exact op_fz ex (.bl _) k
    · have z : notInD d e = some o := by
        rw [← h]
        cases e <;> first | rfl | exact absurd ⟨_, rfl⟩ c
      exact .inl (op2_notIn G H x y d e o ex r1 r2 z Q k)
/-! {k: e, ..} -/
def mergeD (kvs more : List (Key × D)) : List (Key × D) := more.foldl (fun acc kv => putD acc kv.1 kv.2) kvs
theorem rkv_merge {G : Hp} {more : List (Key × V)} {ms : List (Key × D)} (r : RepKV K G more ms) : ∀ {kvs : List (Key × V)} {ds : List (Key × D)}, RepKV K G kvs ds → RepKV K G (mergeK kvs more) (mergeD ds ms) := by
  match r with
  | .nil => exact @fun _ _ h => h
  | .cons h t => exact @fun kvs ds q => rkv_merge t (rkv_put q h)
def fDk (ks : List Str) (f : FA) : FO := fun ρ => rb (f ρ) fun ds ρ1 => if ds.length = ks.length ∧ ks.length ≤ 15 then some (.ok (.dk (mergeD [] ((ks.map Sum.inr).zip ds))) ρ1) else none
/-- values under written keys -/
def DP2 (K : PySem.W.Frag) (cm : Str → Addr) (W : WX) (trs : List (TE × TE)) (ks : List Str) (f : FA) : Prop := ∀ G H σ ρ fps, Ok K G H σ ρ fps → ∀ r, f ρ = some r → ∀ Q : List (V × V) → Hp → Prop, (match r with
  | .ok ds ρ' => ∀ vs G' H' fps', Post K [] G H σ fps G' H' σ ρ' fps' → RepAll K G' vs ds → vs.length = ks.length → Q ((ks.map V.str).zip vs) H'
  | .ex k g d ρ' => WEx K cm W [] G H σ fps k g d ρ' σ) → tPairs trs σ H Q
structure Kvx (X : Cx) (cm : Str → Addr) (W : WX) (pos : Pos) (keys : List (Option Expr)) (values : List Expr) (trs : List (TE × TE)) (ks : List Str) (f : FA) : Prop where
  pe : PPs X pos keys values trs
  de : DP2 X.K cm W trs ks f
  len : keys.length = ks.length
  all : keys.all (·.isSome) = true
  lv : keys.length = values.length
theorem kvx_nil : Kvx X cm W pos [] [] [] [] fNil := ⟨pps_nil, fun G H σ ρ fps ok r e Q q => by
  cases e
  exact q [] G H fps (.refl ok) .nil rfl, rfl, rfl, rfl⟩
theorem kvx_cons {s : Str} {j} {keys : List (Option Expr)} {values : List Expr} {trs : List (TE × TE)} {ks : List Str} {fe : FE} {fa : FA} (h : Dx X cm W e te fe) (hr : Kvx X cm W pos keys values trs ks fa) :
    Kvx X cm W pos (some (.Constant (.str s) j p) :: keys) (e :: values) ((tC (.str s), te) :: trs) (s :: ks) (fCons fe fa) := by
  refine ⟨pps_cons pe_str h.pe hr.pe, fun G H σ ρ fps ok r e Q q => ?_, by simp [hr.len], by simpa using hr.all, by simp [hr.lv]⟩
  show te σ H fun y H2 => tPairs trs σ H2 fun ps H3 => Q ((.str s, y) :: ps) H3
  refine de_bind (P := []) h.de ok e (fun d ρ1 e1 v G1 H1 fps1 p g1 => ?_) fun k f d ρ' e1 => by rw [e1] at q; exact q
  cases hf : fa ρ1 with
  | none => rw [hf] at e1; cases e1
  | some r1 =>
    rw [hf] at e1
    refine hr.de G1 H1 σ ρ1 fps1 p.ok r1 hf _ ?_
    cases r1 with
    | ok ds ρ2 =>
      cases e1
      exact fun vs G2 H2 fps2 p2 g2 hl => q (v :: vs) G2 H2 fps2 (p.trans p2) (.cons (g1.mono p2.frm.ex) g2) (by simp [hl])
    | ex k f d ρ2 =>
      cases e1
      exact q.back p
theorem zip_keys {K : PySem.W.Frag} {G : Hp} : ∀ {ks : List Str} {vs : List V} {ds : List D}, RepAll K G vs ds → ks.length = vs.length → ∃ kvs : List (Key × V), (ks.map V.str).zip vs = kvs.map (fun kv => (kV kv.1, kv.2)) ∧ kvs.length = ks.length ∧ RepKV K G kvs ((ks.map Sum.inr).zip ds)
  | [], _, _, .nil, _ => ⟨[], rfl, rfl, .nil⟩
  | [], _, _, .cons _ _, h => by simp at h
  | _ :: _, _, _, .nil, h => by simp at h
  | k :: ks, _, _, .cons (v := v) r t, h => by
    obtain ⟨kvs, e1, e2, e3⟩ := zip_keys (ks := ks) t (by simpa using h)
    exact ⟨(.inr k, v) :: kvs, by simp [e1, kV], by simp [e2], .cons r e3⟩
theorem do_disp {trs : List (TE × TE)} {ks : List Str} {fa : FA} (h : DP2 K cm W trs ks fa) : DO K cm W (tDisp trs) (fDk ks fa) := by
  intro G H σ ρ fps ok r e Q q p0 hp0
  have pD := ok.newH (P := []) (o := .dK []) hp0
  unfold fDk at e
  cases hf : fa ρ with
  | none => rw [hf] at e; cases e
  | some r1 =>
    rw [hf] at e
    refine h G (upd H p0 (.dK [])) σ ρ fps pD.ok r1 hf _ ?_
    cases r1 with
    | ex k g d ρ1 =>
      cases e
      exact WEx.back q pD
    | ok ds ρ1 =>
      intro vs G1 H1 fps1 p1 g1 hl
      have e : (if ds.length = ks.length ∧ ks.length ≤ 15 then some (R.ok (OV.dk (mergeD [] ((ks.map Sum.inr).zip ds))) ρ1) else none) = some r := e
      split at e
      · rename_i c
        cases e
        have nt : ¬ Tot fps p0 := fun ⟨i, t⟩ => (ok.fr i p0 t).1 hp0
        have h1 : H1 p0 = some (.dK []) := p1.frm.h p0 _ upd_same nt
        have gp : G1 p0 = none := by
          rw [p1.frm.g p0 (by rw [upd_same]; simp) nt]; exact ok.ex.none hp0
        have nt1 : ¬ Tot fps1 p0 := fun t => (p1.sub p0 t).elim nt fun z => by rw [upd_same] at z; cases z
        obtain ⟨kvs, e1, e2, e3⟩ := zip_keys g1 hl.symm
        refine ⟨h1, kvs, e1, by omega, ?_⟩
        have ok2 := p1.ok.updH (p := p0) (u := .dK (mergeK [] kvs)) nt1 gp
        have pp := pD.trans p1
        refine q (.ref p0) G1 _ fps1 (fun a => a = p0) ⟨ok2, ⟨fun a u ea n => ?_, pp.frm.g, pp.frm.ex⟩, pp.sub, fun _ _ => rfl⟩ ⟨.dk upd_same rfl (rkv_merge e3 .nil), fun j a t z => nt1 ⟨j, by rw [← z]; exact t⟩, fun a z => ?_⟩ fun a z => .inr (by rw [z]; exact hp0)
        · rw [upd_ne fun z => by rw [z, hp0] at ea; cases ea]
          exact pp.frm.h a u ea n
        · rw [z, upd_same]; exact ⟨by simp, gp⟩
      · cases e
theorem ox_dict {keys : List (Option Expr)} {values : List Expr} {trs : List (TE × TE)} {ks : List Str} {fa : FA} (h : Kvx X cm W pos keys values trs ks fa) (h0 : keys ≠ [] := by exact List.cons_ne_nil _ _) (h15 : keys.length ≤ 15 := by decide) : Ox X cm W (.Dict keys values pos) (tDisp trs) (fDk ks fa) :=
  ⟨pe_disp h.pe h.all h.lv h0 h15, do_disp h.de⟩
end
end LD

end
section
set_option Elab.async false
set_option linter.all false
set_option maxRecDepth 100000
set_option maxHeartbeats 4000000
namespace LD
open PySem PySem.Spec PyProof.Rows L2

/-! ### dict comprehensions -/
def dcL (g : Tg) (ft : FT) (fk fo : FE) (vs : List Nat) : List D → List (Key × D) → Envr → Option (List (Key × D) × Envr)
  | [], acc, ρ => some (acc, ρ)
  | d :: ds, acc, ρ => match g d ρ with
    | none => none
    | some ρ1 => match ft ρ1 with
      | some (.ok true ρ2) => match fk ρ2 with
        | some (.ok d ρ2) => match keyOfD d with
          | some k => match fo ρ2 with
            | some (.ok o ρ3) => if acc.length < 100000 then dcL g ft fk fo vs ds (putD acc k o) (forg vs ρ3) else none
            | _ => none
          | none => none
        | _ => none
      | some (.ok false ρ2) => dcL g ft fk fo vs ds acc (forg vs ρ2)
      | _ => none
def fDc (n : Nat) (it : FI) (g : Tg) (ft : FT) (fk fo : FE) (vs : List Nat) : FO := fun ρ => rb (it ρ) fun ds ρ1 => if ρ1.length = n then match dcL g ft fk fo vs ds [] (forg vs ρ1) with
    | some (acc, ρ2) => some (.ok (.dk acc) (rest ρ1 vs ρ2))
    | none => none
  else none
section
variable {X : Cx} {cm : Str → Addr} {W : WX} {K : PySem.W.Frag} {pos : Pos}
theorem do_dc {n : Nat} {vs : List Nat} {wi : TI} {fi : FI} {tg : TG} {g : Tg} {tt : TT} {ft : FT} {tk te : TE} {fk fo : FE} (hi : DI K cm W wi fi) (hg : DG K (others n vs) tg g) (ht : DT K cm W0 tt ft) (hk : DE K cm W0 tk fk) (he : DE K cm W0 te fo) : DO K cm W (tDc wi tg tt tk te vs) (fDc n fi g ft fk fo vs) := by
  intro G H σ ρ fps ok r e Q q
  unfold fDc at e
  cases hf : fi ρ with
  | none => rw [hf] at e; cases e
  | some r1 =>
    rw [hf] at e
    cases r1 with
    | ex k f d ρ1 =>
      cases e
      exact hi G H σ ρ fps ok _ hf _ q
    | ok ds ρ1 =>
      have e : (if ρ1.length = n then match dcL g ft fk fo vs ds [] (forg vs ρ1) with
        | some (acc, ρ2) => some (.ok (.dk acc) (rest ρ1 vs ρ2))
        | none => none
        else none) = some r := e
      split at e
      · rename_i hn
        cases hl : dcL g ft fk fo vs ds [] (forg vs ρ1) with
        | none => rw [hl] at e; cases e
        | some z =>
          obtain ⟨acc, ρ2⟩ := z
          rw [hl] at e
          cases e
          refine hi G H σ ρ fps ok _ hf _ fun J G1 H1 fps1 p w D hD => ?_
          have okh := p.ok.hide vs
          have pD := okh.newH (P := []) (o := .dK []) hD
          have g0 : Got K G1 (upd H1 D (.dK [])) (fun j a => j ∉ vs ∧ fps1 j a) (.ref D) (.dk []) (fun a => a = D) :=
            ⟨.dk upd_same rfl .nil, fun i a f z => (p.ok.fr i a f.2).1 (by rw [z]; exact hD), fun a z => by rw [z]; exact ⟨by rw [upd_same]; simp, p.ok.ex.none hD⟩⟩
          refine ⟨fun i m H2 => m = ds.length - i ∧ i ≤ ds.length ∧ ∃ G2 ρ3 fps2 acc2 F, Post K [] G1 H1 (wipe σ vs) (fun j a => j ∉ vs ∧ fps1 j a) G2 H2 (wipe σ vs) ρ3 fps2 ∧ Got K G2 H2 fps2 (.ref D) (.dk acc2) F ∧ (∀ a, F a → Tot (fun j a => j ∉ vs ∧ fps1 j a) a ∨ H1 a = none) ∧ dcL g ft fk fo vs (ds.drop i) acc2 ρ3 = some (acc, ρ2),
            ⟨_, rfl, Nat.zero_le _, G1, _, _, [], _, pD, g0, fun a z => .inr (by rw [z]; exact hD), by simpa using hl⟩, ?_⟩
          rintro i m H2 ⟨rfl, hle, G2, ρ3, fps2, acc2, F, p2, g2, s2, e2⟩
          have exG : Ex G1 G2 := p2.frm.ex
          by_cases hlt : i < ds.length
          · refine .inr ⟨w.go i G2 H2 exG p2.ok.ex hlt, fun H' => ∃ G3 ρ4 fps3 acc3 F3, Post K [] G1 H1 (wipe σ vs) (fun j a => j ∉ vs ∧ fps1 j a) G3 H' (wipe σ vs) ρ4 fps3 ∧ Got K G3 H' fps3 (.ref D) (.dk acc3) F3 ∧ (∀ a, F3 a → Tot (fun j a => j ∉ vs ∧ fps1 j a) a ∨ H1 a = none) ∧ dcL g ft fk fo vs (ds.drop (i + 1)) acc3 ρ4 = some (acc, ρ2),
              fun H' z => ⟨ds.length - (i + 1), by omega, rfl, hlt, z⟩, fun x H' y => ?_⟩
            obtain ⟨G3, d, al, hd, rx⟩ := w.yld i G2 H2 x H' exG p2.ok.ex hlt y
            rw [drop_cons hd] at e2
            unfold dcL at e2
            have p3 := al.post (P := []) p2.ok
            cases hq : g d ρ3 with
            | none => rw [hq] at e2; cases e2
            | some ρ4 =>
              rw [hq] at e2
              refine hg G3 H' (wipe σ vs) ρ3 fps2 (al.post (P := others n vs) p2.ok).ok x d ρ4 rx hq _ fun σ4 fps4 p4 hlen => ?_
              have hw : wipe σ4 vs = wipe σ vs := by
                have e1 : wipe σ4 vs = wipe (wipe σ vs) vs := wipe_eq hlen fun j hj hv => p4.pr j (by
                  unfold others
                  rw [List.mem_filter]
                  refine ⟨List.mem_range.mpr ?_, by simpa using hv⟩
                  rw [wipe_length] at hj
                  have := p.ok.len
                  omega)
                rw [e1]
                exact wipe_eq (wipe_length σ vs) fun j hj hv => wipe_out hv
              refine ⟨hw, ?_⟩
              have e2 : (match ft ρ4 with
                | some (.ok true ρ2) => match fk ρ2 with
                  | some (.ok d ρ2) => match keyOfD d with
                    | some k => match fo ρ2 with
                      | some (.ok o ρ3) => if acc2.length < 100000 then dcL g ft fk fo vs (ds.drop (i + 1)) (putD acc2 k o) (forg vs ρ3) else none
                      | _ => none
                    | none => none
                  | _ => none
                | some (.ok false ρ2) => dcL g ft fk fo vs (ds.drop (i + 1)) acc2 (forg vs ρ2)
                | _ => none) = some (acc, ρ2) := e2
              have P4 : Post K [] G2 H2 (wipe σ vs) fps2 G3 H' σ4 ρ4 fps4 := Post.trans p3 ⟨p4.ok, p4.frm, p4.sub, fun _ h => nomatch h⟩
              -- behind the turn: the block's own slots forgotten
              have back : ∀ {G5 H5 ρ5 fps5}, Post K [] G3 H' σ4 fps4 G5 H5 σ4 ρ5 fps5 → Post K [] G2 H2 (wipe σ vs) fps2 G5 H5 (wipe σ vs) (forg vs ρ5) (fun j a => j ∉ vs ∧ fps5 j a) := fun {G5 H5 ρ5 fps5} p5 => by
                have pp := P4.trans p5
                have o5 := p5.ok.hide vs
                rw [hw] at o5
                exact ⟨o5, pp.frm, fun a ⟨j, t⟩ => pp.sub a ⟨j, t.2⟩, fun _ h => nomatch h⟩
              cases hft : ft ρ4 with
              | none => rw [hft] at e2; cases e2
              | some rt =>
                rw [hft] at e2
                cases rt with
                | ex k f d ρ5 => cases e2
                | ok b ρ5 =>
                  refine ht G3 H' σ4 ρ4 fps4 p4.ok _ hft _ fun G5 H5 fps5 p5 => ?_
                  cases b with
                  | false =>
                    have bk := back p5
                    exact iteF ⟨G5, _, _, acc2, F, p2.trans bk, g2.keep bk, s2, e2⟩
                  | true =>
                    refine iteT ?_
                    have e2 : (match fk ρ5 with
                      | some (.ok d ρ2) => match keyOfD d with
                        | some k => match fo ρ2 with
                          | some (.ok o ρ3) => if acc2.length < 100000 then dcL g ft fk fo vs (ds.drop (i + 1)) (putD acc2 k o) (forg vs ρ3) else none
                          | _ => none
                        | none => none
                      | _ => none) = some (acc, ρ2) := e2
                    cases hfk : fk ρ5 with
                    | none => rw [hfk] at e2; cases e2
                    | some rk =>
                      rw [hfk] at e2
                      cases rk with
                      | ex k f d ρ6 => cases e2
                      | ok dk ρ6 =>
                        refine hk G5 H5 σ4 ρ5 fps5 p5.ok _ hfk _ fun yk G6 H6 fps6 p6 rk => ?_
                        have e2 : (match keyOfD dk with
                          | some k => match fo ρ6 with
                            | some (.ok o ρ3) => if acc2.length < 100000 then dcL g ft fk fo vs (ds.drop (i + 1)) (putD acc2 k o) (forg vs ρ3) else none
                            | _ => none
                          | none => none) = some (acc, ρ2) := e2
                        cases hkk : keyOfD dk with
                        | none => rw [hkk] at e2; cases e2
                        | some kk =>
                          rw [hkk] at e2
                          have ek := key_rep rk hkk
                          cases hfo : fo ρ6 with
                          | none => rw [hfo] at e2; cases e2
                          | some ro =>
                            rw [hfo] at e2
                            cases ro with
                            | ex k f d ρ7 => cases e2
                            | ok oy ρ7 =>
                              have e2 : (if acc2.length < 100000 then dcL g ft fk fo vs (ds.drop (i + 1)) (putD acc2 kk oy) (forg vs ρ7) else none) = some (acc, ρ2) := e2
                              split at e2
                              · rename_i hacc
                                refine he G6 H6 σ4 ρ6 fps6 p6.ok _ hfo _ fun y' G7 H7 fps7 p7 ry => ?_
                                have p567 := (p5.trans p6).trans p7
                                have bk := back p567
                                have gD := g2.keep (P4.trans p567)
                                cases gD.own with
                                | @dk _ kvs _ _ h1 h2 h3 =>
                                have gDn : G7 D = none ∧ ¬ Tot fps7 D := ⟨(gD.fr D h2).2, fun ⟨j, t⟩ => gD.dj j D t h2⟩
                                refine ⟨kvs, kk, ek, h1, by rw [rkv_len h3]; exact Nat.lt_of_lt_of_le hacc (by decide), ?_⟩
                                have ok7 := bk.ok.updH (p := D) (u := .dK (putK kvs kk y')) (fun ⟨j, t⟩ => gDn.2 ⟨j, t.2⟩) gDn.1
                                have pk := p2.trans bk
                                refine ⟨G7, _, _, putD acc2 kk oy, F, ⟨ok7, ⟨fun a u ea n => ?_, pk.frm.g, pk.frm.ex⟩, pk.sub, fun _ h => nomatch h⟩, ⟨.dk upd_same h2 (rkv_put h3 ry), fun j a t f => gD.dj j a t.2 f, fun a f => ?_⟩, s2, e2⟩
                                · rw [upd_ne fun z => by rw [z, hD] at ea; cases ea]
                                  exact pk.frm.h a u ea n
                                · have z := gD.fr a f
                                  refine ⟨?_, z.2⟩
                                  by_cases q : a = D
                                  · rw [q, upd_same]; simp
                                  · rw [upd_ne q]; exact z.1
                              · cases e2
          · have hh : i = ds.length := by omega
            subst hh
            rw [List.drop_length] at e2
            cases e2
            refine .inl ⟨w.stop G2 H2 exG p2.ok.ex, ?_⟩
            have pu := p.ok.unhide (P := []) p2
            refine q (.ref D) G2 H2 _ F (p.trans pu) ⟨g2.own, fun j a t f => ?_, g2.fr⟩ fun a f => ?_
            · rcases t with ⟨hj, t⟩ | ⟨hj, t⟩
              · rcases s2 a f with ⟨k, nk, z⟩ | z
                · exact nk (by rw [← p.ok.dj j k a t z]; exact hj)
                · exact (p.ok.fr j a t).1 z
              · exact g2.dj j a t f
            · rcases s2 a f with ⟨k, _, z⟩ | z
              · exact p.sub a ⟨k, z⟩
              · exact fresh_back p z
      · cases e
end
end LD

end
section
set_option Elab.async false
set_option linter.all false
set_option maxRecDepth 100000
set_option maxHeartbeats 4000000
namespace LD
open PySem PySem.Spec PyProof.Rows L2

section
variable {X : Cx} {cm : Str → Addr} {W : WX} {K : PySem.W.Frag} {P : List Nat} {pos p : Pos} {a b e : Expr} {ta tb te : TE} {fa fb : FE}
/-! ### {k: v for ..} -/
/-- x = {k: v for ..} on one line: the store stands within -/
theorem ps_setDc {i : Nat} {y : Str} {py spos : Pos} {kx vx tg iter : Expr} {ifs : List Expr} {scope : Scope} {own : List (Str × Nat)} {wi : TI} {g : TG} {tt : TT} {tk tv : TE} (hc : X.calm = true) (hN : X.N.Nodup) (hy : X.N[i]? = some y) (hyl : X.env.scope.names.lookup y = some .local)
    (hsw : swapsWith (.DictComp kx vx [⟨tg, iter, ifs, 0⟩] scope pos) (some (.Name y py)) spos.line X.env = pure true) (hi : PI X tg iter wi) (ok : BlkOk X.N X.env.scope scope own)
    (hg : ∀ s H C cl fp, PG (X.blk s H scope (compEnvC scope cl C X.env) fp) tg g) (ht : ∀ s H C cl fp, PTs (X.blk s H scope (compEnvC scope cl C X.env) fp) ifs tt) (hk : ∀ s H C cl fp, PE (X.blk s H scope (compEnvC scope cl C X.env) fp) kx tk)
    (hv : ∀ s H C cl fp, PE (X.blk s H scope (compEnvC scope cl C X.env) fp) vx tv) (hs : ∀ x, foldedSetIterable iter X.env x = pure x) :
    PS X (.Assign [.Name y py] (.DictComp kx vx [⟨tg, iter, ifs, 0⟩] scope pos) spos) (tAsg (tDc wi g tt tk tv (own.map (·.2))) (gName i)) := ⟨fun pins s σ H D I h => by
  rw [exec_Assign_Name_used _ _ _ _ hsw]
  refine wpAny_bind (wpAny_standAt (wpAny_bind ?_))
  show wpAny _ X.A (do let _ ← comprehension (.DictComp kx vx [⟨tg, iter, ifs, 0⟩] scope pos) scope X.env (firstIterPos [⟨tg, iter, ifs, 0⟩] pos) newDict false (eval iter X.env) (some (assign (.Name y py) X.env))) _ _ s
  have h : tDc wi g tt tk tv (own.map (·.2)) σ H fun x H1 => gName i x σ H1 D.nx := h
  refine wpAny_bind (thn (dc_core (Qf := fun _ s' => SP X pins D .next s') hc hN I hi ok hg ht hk hv hs h fun L C s' m H' I' q hn f => ?_) fun _ s' hq => wpAny_pure (wpAny_pure hq))
  show wpAny _ _ (assign (.Name y py) X.env (.ref L)) _ _ _
  refine wpAny_assign_Name (store_ok2 (v := V.ref L) I' hN hy (.inl hyl) rfl (fun s2 I2 ⟨a, sb, ha⟩ => ?_) (.inr hyl))
  obtain ⟨f0, f1, f2, f3, f4, f5⟩ := f
  refine ⟨m, hn.sameBut sb (ha.elim (fun z => z ▸ f1) fun z e => f4 y a z e.symm), fun h3 sb3 => ⟨_, H', I2.turned (t' := s2.toks) (fun b o hb e => (sb3.2 b hb).trans e) f0 f1 f3 f4 f5, q⟩⟩⟩
theorem sw_trueD {kx vx : Expr} {gs : List Comprehension} {scope : Scope} {py : Pos} {y : Str} {l : Nat} {env : Env} (hk : env.scope.kind = .function) (hy : env.scope.names.lookup y = some .local) (hl : (py.line == pos.line) = true)
    (ha : (scope.names.any fun (n, k) => n == y && (k == .local || k == .cell)) = false) : swapsWith (.DictComp kx vx gs scope pos) (some (.Name y py)) l env = pure true := by
  have := sw_true (elt := kx) (gs := gs) (l := l) hk hy hl ha
  exact this
theorem all_D {Y : Bl → Cx} {K : PySem.W.Frag} {e : Expr} {f : FE} {W : WX} (hK : ∀ i, (Y i).K = K) (h : ∀ i, ∃ t, Dx (Y i) cm W e t f) : ∃ t, (∀ i, PE (Y i) e t) ∧ DE K cm W t f := by
  refine ⟨fun σ H Q => ∀ i, Classical.choose (h i) σ H Q, fun i => ⟨fun pins s σ H Q I w => (Classical.choose_spec (h i)).pe.run pins s σ H Q I (w i)⟩, fun G H σ ρ fps ok r e Q q i => ?_⟩
  have d := (Classical.choose_spec (h i)).de
  rw [hK i] at d
  exact d G H σ ρ fps ok r e Q q
def De (X : Cx) (cm : Str → Addr) (W : WX) (e : Expr) (f : FE) : Prop := ∃ t, Dx X cm W e t f
theorem de {e : Expr} {te : TE} {f : FE} (h : Dx X cm W e te f) : De X cm W e f := ⟨_, h⟩
theorem dxe {e : Expr} {f : FE} (h : De X cm W e f) : Dx X cm W e (Classical.choose h) f := Classical.choose_spec h
theorem oe_dcomp {n : Nat} {kx vx tg iter : Expr} {ifs : List Expr} {scope : Scope} {wi : TI} {fi : FI} {gg : Tg} {ft : FT} {fk fv : FE} {vs : List Nat} (own : List (Str × Nat)) (hc : X.calm = true) (hN : X.N.Nodup) (ok : BlkOk X.N X.env.scope scope own) (hv : own.map (·.2) = vs) (hi : Ix X cm W tg iter wi fi)
    (hg : ∀ s H C cl fp, Ge (X.blk s H scope (compEnvC scope cl C X.env) fp) (others n vs) tg gg) (ht : ∀ s H C cl fp, Tse (X.blk s H scope (compEnvC scope cl C X.env) fp) cm W0 ifs ft)
    (hk : ∀ s H C cl fp, De (X.blk s H scope (compEnvC scope cl C X.env) fp) cm W0 kx fk) (he : ∀ s H C cl fp, De (X.blk s H scope (compEnvC scope cl C X.env) fp) cm W0 vx fv) (hs : ∀ x, foldedSetIterable iter X.env x = pure x := by intro _; rfl) :
    Oe X cm W (.DictComp kx vx [⟨tg, iter, ifs, 0⟩] scope pos) (fDc n fi gg ft fk fv vs) := by
  subst hv
  obtain ⟨tg, pg, dg⟩ := all_G (K := X.K) (Y := blX X scope) (fun _ => rfl) fun i => hg i.1 i.2.1 i.2.2.1 i.2.2.2.1 i.2.2.2.2
  obtain ⟨tt, pt, dt⟩ := all_T (K := X.K) (Y := blX X scope) (fun _ => rfl) fun i => ht i.1 i.2.1 i.2.2.1 i.2.2.2.1 i.2.2.2.2
  obtain ⟨tk, pk, dk⟩ := all_D (K := X.K) (Y := blX X scope) (fun _ => rfl) fun i => hk i.1 i.2.1 i.2.2.1 i.2.2.2.1 i.2.2.2.2
  obtain ⟨te, pe, de⟩ := all_D (K := X.K) (Y := blX X scope) (fun _ => rfl) fun i => he i.1 i.2.1 i.2.2.1 i.2.2.2.1 i.2.2.2.2
  exact ⟨tDc wi tg tt tk te (own.map (·.2)), pe_dc hc hN hi.pe ok (fun s H C cl fp => pg (s, H, C, cl, fp)) (fun s H C cl fp => pt (s, H, C, cl, fp)) (fun s H C cl fp => pk (s, H, C, cl, fp)) (fun s H C cl fp => pe (s, H, C, cl, fp)) hs, do_dc hi.de dg dt dk de⟩
theorem se_dcomp' {n i : Nat} {y : Str} {py spos : Pos} {kx vx tg iter : Expr} {ifs : List Expr} {scope : Scope} {wi : TI} {fi : FI} {gg : Tg} {ft : FT} {fk fv : FE} {vs : List Nat} (own : List (Str × Nat)) (hc : X.calm = true) (hN : X.N.Nodup) (ok : BlkOk X.N X.env.scope scope own) (hv : own.map (·.2) = vs) (hP : i ∉ P) (hi : Ix X cm W tg iter wi fi)
    (hg : ∀ s H C cl fp, Ge (X.blk s H scope (compEnvC scope cl C X.env) fp) (others n vs) tg gg) (ht : ∀ s H C cl fp, Tse (X.blk s H scope (compEnvC scope cl C X.env) fp) cm W0 ifs ft)
    (hk : ∀ s H C cl fp, De (X.blk s H scope (compEnvC scope cl C X.env) fp) cm W0 kx fk) (he : ∀ s H C cl fp, De (X.blk s H scope (compEnvC scope cl C X.env) fp) cm W0 vx fv) (hy : X.N[i]? = some y) (hyl : X.env.scope.names.lookup y = some .local)
    (hsw : swapsWith (.DictComp kx vx [⟨tg, iter, ifs, 0⟩] scope pos) (some (.Name y py)) spos.line X.env = pure true) (hs : ∀ x, foldedSetIterable iter X.env x = pure x) :
    ∃ t, Sx X cm W P (.Assign [.Name y py] (.DictComp kx vx [⟨tg, iter, ifs, 0⟩] scope pos) spos) (tAsg t (gName i)) (sSet i (fDc n fi gg ft fk fv vs)) := by
  subst hv
  obtain ⟨tg, pg, dg⟩ := all_G (K := X.K) (Y := blX X scope) (fun _ => rfl) fun i => hg i.1 i.2.1 i.2.2.1 i.2.2.2.1 i.2.2.2.2
  obtain ⟨tt, pt, dt⟩ := all_T (K := X.K) (Y := blX X scope) (fun _ => rfl) fun i => ht i.1 i.2.1 i.2.2.1 i.2.2.2.1 i.2.2.2.2
  obtain ⟨tk, pk, dk⟩ := all_D (K := X.K) (Y := blX X scope) (fun _ => rfl) fun i => hk i.1 i.2.1 i.2.2.1 i.2.2.2.1 i.2.2.2.2
  obtain ⟨te, pe, de⟩ := all_D (K := X.K) (Y := blX X scope) (fun _ => rfl) fun i => he i.1 i.2.1 i.2.2.1 i.2.2.2.1 i.2.2.2.2
  exact ⟨tDc wi tg tt tk te (own.map (·.2)), ps_setDc hc hN hy hyl hsw hi.pe ok (fun s H C cl fp => pg (s, H, C, cl, fp)) (fun s H C cl fp => pt (s, H, C, cl, fp)) (fun s H C cl fp => pk (s, H, C, cl, fp)) (fun s H C cl fp => pe (s, H, C, cl, fp)) hs, ds_set (do_dc hi.de dg dt dk de) hP⟩
/-- as it is, or frozen as it is stored -/
theorem se_dcomp {n i : Nat} {y : Str} {py spos : Pos} {kx vx tg iter : Expr} {ifs : List Expr} {scope : Scope} {wi : TI} {fi : FI} {gg : Tg} {ft : FT} {fk fv : FE} {vs : List Nat} (own : List (Str × Nat)) (hc : X.calm = true) (hN : X.N.Nodup) (ok : BlkOk X.N X.env.scope scope own) (hv : own.map (·.2) = vs) (hP : i ∉ P) (hi : Ix X cm W tg iter wi fi)
    (hg : ∀ s H C cl fp, Ge (X.blk s H scope (compEnvC scope cl C X.env) fp) (others n vs) tg gg) (ht : ∀ s H C cl fp, Tse (X.blk s H scope (compEnvC scope cl C X.env) fp) cm W0 ifs ft)
    (hk : ∀ s H C cl fp, De (X.blk s H scope (compEnvC scope cl C X.env) fp) cm W0 kx fk) (he : ∀ s H C cl fp, De (X.blk s H scope (compEnvC scope cl C X.env) fp) cm W0 vx fv) (hy : X.N[i]? = some y := by rfl) (hyl : X.env.scope.names.lookup y = some .local := by rfl)
    (hsw : swapsWith (.DictComp kx vx [⟨tg, iter, ifs, 0⟩] scope pos) (some (.Name y py)) spos.line X.env = pure true := by exact sw_trueD rfl rfl rfl (by decide +kernel)) (hs : ∀ x, foldedSetIterable iter X.env x = pure x := by intro _; rfl) :
    Se X cm W P (.Assign [.Name y py] (.DictComp kx vx [⟨tg, iter, ifs, 0⟩] scope pos) spos) (sSet i (fO (fE (fDc n fi gg ft fk fv vs)))) := by
  obtain ⟨t, h⟩ := se_dcomp' own hc hN ok hv hP hi hg ht hk he hy hyl hsw hs
  exact ⟨_, h.pe, ds_freeze h.de⟩

/-! ### math.gcd -/
def gcdD : List D → Option OV
  | [.int a, .int b] => some (.fz (.int (Nat.gcd a.natAbs b.natAbs : Nat)))
  | _ => none
theorem opN_gcd : OpN K rGcd gcdD := by
  intro G H xs ds o ex r h Q k
  unfold gcdD at h
  split at h
  · cases h
    cases r with
    | cons r1 rr => cases rr with
      | cons r2 rr => cases rr; cases r1; cases r2; exact ⟨_, _, rfl, op_fz ex (.int _) k⟩
  · cases h
/-! ### tuple(range(..)) -/
def rgD (a b : Int) : List D := (List.range (b - a).toNat).map fun i => D.int (a + (i : Nat))
theorem rg_rep {G : Hp} {a b : Int} : RepAll K G (rgV a b) (rgD a b) := by
  unfold rgV rgD
  generalize List.range (b - a).toNat = l
  induction l with
  | nil => exact .nil
  | cons x l ih => exact .cons (.int _) ih
def rgOk (a b : Int) : Bool := decide (-(2 ^ 62) ≤ a ∧ a < 2 ^ 62 ∧ -(2 ^ 62) ≤ b ∧ b < 2 ^ 62 ∧ (b - a).toNat ≤ 2 ^ 24)
theorem rgOk_to {a b : Int} (h : rgOk a b = true) : RgOk a b := by
  unfold rgOk at h
  have z := of_decide_eq_true h
  exact z
def fTupR1 (f : FE) : FE := fun ρ => rb (f ρ) fun d ρ1 => match d with
  | .int n => if rgOk 0 n = true then some (.ok (.tup (rgD 0 n)) ρ1) else none
  | _ => none
def fTupR2 (f g : FE) : FE := fun ρ => rb (f ρ) fun d ρ1 => rb (g ρ1) fun e ρ2 => match d, e with
  | .int m, .int n => if rgOk m n = true then some (.ok (.tup (rgD m n)) ρ2) else none
  | _, _ => none
theorem de_tupR1 (h : DE K cm W ta fa) : DE K cm W (tTupRg (tRg1 ta)) (fTupR1 fa) := by
  intro G H σ ρ fps ok r e Q q
  show ta σ H fun x H1 => ∃ n, x = .int n ∧ RgOk 0 n ∧ ∀ q, H1 q = none → Q (.ref q) (upd H1 q (.tup (rgV 0 n)))
  refine de_bind (P := []) h ok e (fun d ρ1 e1 v G1 H1 fps1 p g => ?_) fun k f d ρ' e1 => by rw [e1] at q; exact q
  cases g <;> first | (cases e1; done) | skip
  rename_i n
  have e1 : (if rgOk 0 n = true then some (R.ok (D.tup (rgD 0 n)) ρ1) else none) = some r := e1
  split at e1
  · rename_i c
    cases e1
    refine ⟨n, rfl, rgOk_to c, op_tup (K := K) p.ok.ex rg_rep fun u G2 H2 F al w _ => ?_⟩
    cases w with
    | fz r => exact q u G2 H2 fps1 (p.trans (al.post p.ok)) r
  · cases e1
theorem de_tupR2 (h : DE K cm W ta fa) (h' : DE K cm W tb fb) : DE K cm W (tTupRg (tRg2 ta tb)) (fTupR2 fa fb) := by
  intro G H σ ρ fps ok r e Q q
  show ta σ H fun x H1 => tb σ H1 fun y H2 => ∃ i j, x = .int i ∧ y = .int j ∧ RgOk i j ∧ ∀ q, H2 q = none → Q (.ref q) (upd H2 q (.tup (rgV i j)))
  refine de_bind (P := []) h ok e (fun d ρ1 e1 v G1 H1 fps1 p g => ?_) fun k f d ρ' e1 => by rw [e1] at q; exact q
  refine de_bind (P := []) h' p.ok e1 (fun d' ρ2 e2 v' G2 H2 fps2 p' g' => ?_) fun k f d ρ' e1 => by rw [e1] at q; exact q.back p
  split at e2
  · rename_i m n
    split at e2
    · rename_i c
      cases e2
      cases g; cases g'
      refine ⟨m, n, rfl, rfl, rgOk_to c, op_tup (K := K) p'.ok.ex rg_rep fun u G3 H3 F al w _ => ?_⟩
      cases w with
      | fz r => exact q u G3 H3 fps2 ((p.trans p').trans (al.post p'.ok)) r
    · cases e2
  · cases e2
theorem dx_tupR1 {p1 p2 pos2 : Pos} (hc : X.calm = true) (hm : X.mg "tuple" = none) (hm2 : X.mg "range" = none) (h : Dx X cm W a ta fa) (hg : Gl X "tuple" := by rfl) (hg2 : Gl X "range" := by rfl) (na : starEach [a] X.env = (false, eval a X.env) :: starEach [] X.env := by rfl)
    (nb : starEach [.Call (.Name "range" p2) [a] [] pos2] X.env = (false, eval (.Call (.Name "range" p2) [a] [] pos2) X.env) :: starEach [] X.env := by rfl) : Dx X cm W (.Call (.Name "tuple" p1) [.Call (.Name "range" p2) [a] [] pos2] [] pos) (tTupRg (tRg1 ta)) (fTupR1 fa) :=
  ⟨pe_tupRg hc hg hm (prg_1 hg2 hm2 h.pe na) nb, de_tupR1 h.de⟩
theorem dx_tupR2 {p1 p2 pos2 : Pos} (hc : X.calm = true) (hm : X.mg "tuple" = none) (hm2 : X.mg "range" = none) (h : Dx X cm W a ta fa) (h' : Dx X cm W b tb fb) (hg : Gl X "tuple" := by rfl) (hg2 : Gl X "range" := by rfl) (na : starEach [a, b] X.env = (false, eval a X.env) :: starEach [b] X.env := by rfl) (na2 : starEach [b] X.env = (false, eval b X.env) :: starEach [] X.env := by rfl)
    (nb : starEach [.Call (.Name "range" p2) [a, b] [] pos2] X.env = (false, eval (.Call (.Name "range" p2) [a, b] [] pos2) X.env) :: starEach [] X.env := by rfl) (hp : (backTo pos2 (starEach [b] X.env)).any (·.1) = false := by rfl) : Dx X cm W (.Call (.Name "tuple" p1) [.Call (.Name "range" p2) [a, b] [] pos2] [] pos) (tTupRg (tRg2 ta tb)) (fTupR2 fa fb) :=
  ⟨pe_tupRg hc hg hm (prg_2 hg2 hm2 h.pe h'.pe na na2 hp) nb, de_tupR2 h.de h'.de⟩

/-! ### keywords alone -/
def fCallK (n : Nat) (perm : List Nat) (F : List D → Option FOut) (f : FA) : FO := fun ρ => rb (f ρ) fun ds ρ1 => if ds.length = n then match F (pick perm ds) with
  | some (.ok o) => some (.ok o ρ1)
  | some (.ex k f d) => some (.ex k f d ρ1)
  | none => none
  else none
structure Kx (X : Cx) (cm : Str → Addr) (W : WX) (kws : List Keyword) (t : TA) (f : FA) : Prop where
  pe : PK X kws t
  de : DA X.K cm W t f
theorem kx_nil : Kx X cm W [] tNil fNil := ⟨pk_nil, da_nil⟩
theorem kx_cons {nm : Option Str} {kws : List Keyword} {t : TA} {f : FA} {kpos : Pos} (h : Dx X cm W e te fa) (hr : Kx X cm W kws t f) : Kx X cm W (⟨nm, e, kpos⟩ :: kws) (tCons te t) (fCons fa f) := ⟨pk_cons h.pe hr.pe, da_cons h.de hr.de⟩
theorem pick_rep {G : Hp} {perm : List Nat} {vs : List V} {ds : List D} (r : RepAll K G vs ds) : RepAll K G (pick perm vs) (pick perm ds) := by
  unfold pick
  induction perm with
  | nil => exact .nil
  | cons i perm ih =>
    rw [List.filterMap_cons, List.filterMap_cons]
    cases e : ds[i]? with
    | some d =>
      obtain ⟨v, e1, rv⟩ := r.get e
      rw [e1]
      exact .cons rv ih
    | none =>
      have : vs[i]? = none := by
        rw [List.getElem?_eq_none_iff] at e ⊢
        rw [r.length]; exact e
      rw [this]
      exact ih
theorem do_callK {n m : Nat} {perm : List Nat} {t : TA} {fs : FA} {F : List D → Option FOut} (h : DA K cm W t fs) (hn : ∀ ds r, F ds = some r → ds.length = n) : DO K cm W (tCallKG (spP K cm n F) m perm (fun σ => WE W σ) t) (fCallK m perm F fs) := by
  intro G H σ ρ fps ok r e Q q
  refine da_bind (P := []) h ok e (fun ds ρ1 e1 vs G1 H1 fps1 p g => ?_) fun k f d ρ' e1 => by rw [e1] at q; exact q
  split at e1
  · rename_i hm
    refine ⟨by rw [g.length]; exact hm, ?_⟩
    cases hF : F (pick perm ds) with
    | none => rw [hF] at e1; cases e1
    | some fo =>
      refine ⟨G1, pick perm ds, fo, hn _ fo hF, p.ok.ex, pick_rep g, hF, ?_⟩
      rw [hF] at e1
      cases fo with
      | ok o =>
        cases e1
        intro v G' H' Fv l w fr
        have al := l.none fun _ f => f
        obtain ⟨p2, g2⟩ := al.got (P := []) p.ok w fun a fa => ⟨(fr a fa).1.elim (fun z => z.elim) id, (fr a fa).2⟩
        exact q v G' H' fps1 Fv (p.trans p2) g2 fun a fa => fresh_back p ((fr a fa).1.elim (fun z => z.elim) id)
      | ex k f d =>
        cases e1
        intro v dx G' H' l hx hv
        have al := l.none fun _ f => f
        exact q v dx G' H' fps1 (p.trans (al.post p.ok)) hx hv
  · cases e1
theorem ox_callK {F : List D → Option FOut} {n k : Nat} {f : Addr} {fd : FuncData} {ps ks : List Str} {x : Str} {perm : List Nat} {kws : List Keyword} {t : TA} {fs : FA} {m : Nat} (Fk : FnG X.prog X.w X.K X.mg X.base k f fd ps (spP X.K cm n F)) (hr : Rm k X.A) (hg : Gl X x) (hm : X.mg x = some (.ref f)) (hk : PySem.W.keepIn X.K (.ref f) = true) (hb : BindsK fd ps ks perm)
    (tk : Takes X W) (hn : ∀ ds r, F ds = some r → ds.length = n) (hl : ks.length = m) (ha : Kx X cm W kws t fs) (hall : (backToKw pos (keywordEach kws X.env)).all (·.1.isSome) = true := by rfl) (hks : (backToKw pos (keywordEach kws X.env)).filterMap (·.1) = ks := by rfl) (hdb : (x == ("__debug__" : Str)) = false := by decide)
    (hpl : ((backTo pos (starEach [] X.env)).any (·.1) || (backToKw pos (keywordEach kws X.env)).any (·.1.isNone)) = false := by rfl) :
    Ox X cm W (.Call (.Name x p) [] kws pos) (tCallKG (spP X.K cm n F) m perm (fun σ => WE W σ) t) (fCallK m perm F fs) := by
  subst hl
  exact ⟨pe_callKG Fk hr hg hm hk hb (fun σ => passAt tk σ) ha.pe hall hks hdb hpl, do_callK ha.de hn⟩
end
end LD

end
section
set_option Elab.async false
set_option linter.all false
set_option maxRecDepth 100000
set_option maxHeartbeats 4000000
namespace LD
open PySem PySem.Spec PyProof.Rows L2

section
variable {X : Cx} {cm : Str → Addr} {W : WX} {K : PySem.W.Frag} {P : List Nat} {pos p : Pos} {a b e : Expr} {ta tb te ti : TE} {fa fb fe : FE}
/-! ### repr -/
def rRepr (K : PySem.W.Frag) : List V → Hp → VK → Prop := fun xs H Q => ∃ x d, xs = [x] ∧ Dp K H x d ∧ SeqAt.shaped d = true ∧ d.showable = true ∧ d.shown.length ≤ sizeLine ∧ Q (.str d.shown) H
theorem call_repr (hg : X.A.guards = some []) (hu : X.A.units + 66 < cLine) : CallR X (.builtin "repr") (rRepr X.K) := by
  intro pins s σ H xs us Q I r h
  obtain ⟨x, d, rfl, hd, hsh, hs, hz, q⟩ := h
  cases r with
  | cons rx rr =>
    cases rr
    rename_i u
    have hdep := SeqAt.depth_of_shaped hsh
    have big : ∀ {a : Addr}, u = Value.ref a → wpAny (model X.prog X.w) X.A (call (.builtin "repr") [u]) (EP X pins σ Q) X.xe s := fun {a} ea => by
      subst ea
      obtain ⟨as, rd⟩ := Dp.reads I d x _ hd rx
      exact repr_of_reads' rd hs (PyData.noDict_hsm (PyData.hasDict_of_canLay d (SeqAt.canLay_of_shaped hsh))) hg (by omega) (fun _ _ e => e) (fun h' u tk k => ⟨.str _, H, I.kept (t' := tk) k, ⟨_, rfl⟩, q⟩) hz
    cases hd with
    | non => cases rx; exact PySem.P.repr_of_none ⟨.str _, H, I.tok _, ⟨_, rfl⟩, q⟩
    | bl b => cases rx; exact PySem.P.repr_of_bool ⟨.str _, H, I.tok _, ⟨_, rfl⟩, q⟩
    | int i =>
      obtain ⟨t, rfl⟩ := rx
      exact PySem.P.repr_of_int (by simpa [PyData.showable] using hs) ⟨.str _, H, I.tok _, ⟨_, rfl⟩, q⟩
    | str z =>
      obtain ⟨t, rfl⟩ := rx
      exact PySem.P.repr_of_str ⟨.str _, H, I.tok _, ⟨_, rfl⟩, q⟩ (by simpa only [PyData.shown] using hz)
    | lst h1 h2 => exact big rx
    | tup h1 h2 => exact big rx
theorem opN_repr : OpN K (rRepr K) (N1 reprD) := by
  intro G H xs ds o ex r h Q k
  cases r with
  | nil => cases h
  | cons r rr =>
    cases rr with
    | cons _ _ => cases h
    | nil =>
      rename_i v d
      have h : reprD d = some o := h
      unfold reprD at h
      split at h
      · rename_i c
        cases h
        obtain ⟨c1, c2⟩ := plain_sp c.1
        exact ⟨v, toPy d, rfl, r.dp ex c1, c2, c.2.1, c.2.2, op_fz ex (.str _) k⟩
      · cases h
/-! ### xs[i] op= e, of ints -/
theorem get_list : PGet X (rIxL X.K) := by
  intro pins s σ H x y v u Q I rx ry h
  obtain ⟨p, xs, i, z, rfl, rfl, hq, he, q⟩ := h
  cases rx
  obtain ⟨t, rfl⟩ := ry
  obtain ⟨its, r, pl, hz⟩ := I.list hq
  obtain ⟨j, h1, h2, h3, h4, h5⟩ := atI_get he
  obtain ⟨w, ew, rw'⟩ := r.get h2
  have hl := r.length
  have hn := line63
  have fin : EP X pins σ Q w s := ⟨z, H, I, rw', q⟩
  by_cases h0 : 0 ≤ i
  · have hj : i.toNat = j := by
      rw [seqIndex_of h0 h5] at h1
      exact Option.some.inj h1
    exact wpAny_getItem_list pl.isList h0 (by omega) (by rw [hj]; simpa using ew) fin
  · have hj : (i + (its.toArray.size : Int)).toNat = j := by
      rw [seqIndex_neg (by omega) h4] at h1
      rw [List.size_toArray, ← hl]
      exact Option.some.inj h1
    exact wpAny_getItem_list_neg pl.isList (by omega) (by rw [List.size_toArray] <;> omega) (by omega) (by rw [hj]; simpa using ew) fin
def sAugP (i : Nat) (g : FQ) (p : Int → Int → Int) (f : FE) : FS := fun ρ => match ρ[i]?, g ρ with
  | some (some (.ls xs)), some (.fz (.int k)) => match ixN xs.length k with
    | some j => match xs[j]? with
      | some (.fz (.int m)) => er (f ρ) fun d ρ1 => match d, ρ1[i]? with
        | .int n, some (some (.ls ys)) => if ys.length = xs.length then some (.nx (ρ1.set i (some (.ls (ys.set j (.fz (.int (p m n)))))))) else none
        | _, _ => none
      | _ => none
    | none => none
  | _, _ => none
theorem ds_augP {i : Nat} {g : FQ} {r : Int → Int → Int} (hg : DQ K ti g) (h : DE K cm W te fe) : DS K cm W P (tAugS (tVar i) ti te (rIxL K) (ipI r) rSetL) (sAugP i g r fe) := ds_of fun G H σ ρ fps ok sr e D q => by
  unfold sAugP at e
  split at e
  · rename_i xs k hi hk
    split at e
    · rename_i j hj
      split at e
      · rename_i m hm
        obtain ⟨v0, hv, w0⟩ := ok.own i _ hi
        obtain ⟨p0, vs, fs, rfl, hp, hF, hl, h4, _⟩ := own_ls_inv w0
        refine ⟨.ref p0, hv, hg G H σ ρ fps ok _ hk _ fun u F' w' => ?_⟩
        rw [own_int w']
        have hjl := ixN_lt hj
        obtain ⟨x, hx⟩ : ∃ x, vs[j]? = some x := ⟨vs[j]'(by omega), by simp [hl, hjl]⟩
        have ex := own_int (h4 j x _ hx hm)
        subst ex
        refine ⟨p0, vs, k, .int m, rfl, rfl, Or.inl (Or.inl hp), by unfold atI; rw [hl, hj]; exact hx, ?_⟩
        refine se_bind h ok e q fun d ρ1 e1 y G1 H1 fps1 pp ry => ?_
        split at e1
        · rename_i n ys hi1
          split at e1
          · rename_i hyl
            cases e1
            cases ry
            obtain ⟨v1, hv1, w1⟩ := pp.ok.own i _ hi1
            rw [hv] at hv1
            cases hv1
            obtain ⟨p1, vs1, fs1, e2, hp1, hF1, hl1, _⟩ := own_ls_inv w1
            cases e2
            refine ⟨m, n, rfl, rfl, p0, vs1, k, j, rfl, rfl, hp1, by rw [hl1, hyl]; exact hj, ?_⟩
            have w2 := own_set (oy := .fz (.int (r m n))) (y := .int (r m n)) (Fy := fun _ => False) w1 hp1 (.fz (.int _)) (fun a _ f => f) j
            exact q _ _ _ _ (pp.mutSlot (y := .int (r m n)) (.fz (.int _)) (fun _ f => f.elim) (List.getElem?_eq_some_iff.mp hi1).1 hv (H2 := upd H1 p0 (.lst (vs1.set j (.int (r m n))))) (fun a n => upd_ne fun z => n (by rw [z]; exact hF1)) (fun a f => by
                by_cases z : a = p0
                · rw [z, upd_same]; simp
                · rw [upd_ne z]; exact (pp.ok.fr i a f).1) w2)
          · cases e1
        · cases e1
      · cases e
    · cases e
  · cases e
theorem sx_augPadd {i : Nat} {x : Str} {g : FQ} {b : Expr} {px ps : Pos} (hg : Qx X b ti g) (h : Dx X cm W e te fe) (hN : X.N[i]? = some x := by rfl) (hv : Vis X.env.scope x := by first | exact Or.inl rfl | exact Or.inr (Or.inl rfl) | exact Or.inr (Or.inr rfl)) (hd : (x == ("__debug__" : Str)) = false := by decide) (hcd : (x == ("__classdict__" : Str)) = false := by decide)
    (ha : ∀ ov iv new, augStore b ov iv new = (do holding [new, ov, iv] (setItem ov iv new); release [new, ov, iv] []; pure .next) := by intros; rfl) :
    Sx X cm W P (.AugAssign (.Subscript (.Name x px) b ps) .Add e pos) (tAugS (tVar i) ti te (rIxL X.K) (ipI fun i j => i + j) rSetL) (sAugP i g (fun i j => i + j) fe) := ⟨ps_augS (pe_var hN hv hd hcd) hg.pe get_list h.pe ip_add set_list ha, ds_augP hg.de h.de⟩
theorem sx_augPsub {i : Nat} {x : Str} {g : FQ} {b : Expr} {px ps : Pos} (hg : Qx X b ti g) (h : Dx X cm W e te fe) (hN : X.N[i]? = some x := by rfl) (hv : Vis X.env.scope x := by first | exact Or.inl rfl | exact Or.inr (Or.inl rfl) | exact Or.inr (Or.inr rfl)) (hd : (x == ("__debug__" : Str)) = false := by decide) (hcd : (x == ("__classdict__" : Str)) = false := by decide)
    (ha : ∀ ov iv new, augStore b ov iv new = (do holding [new, ov, iv] (setItem ov iv new); release [new, ov, iv] []; pure .next) := by intros; rfl) :
    Sx X cm W P (.AugAssign (.Subscript (.Name x px) b ps) .Sub e pos) (tAugS (tVar i) ti te (rIxL X.K) (ipI fun i j => i - j) rSetL) (sAugP i g (fun i j => i - j) fe) := ⟨ps_augS (pe_var hN hv hd hcd) hg.pe get_list h.pe ip_sub set_list ha, ds_augP hg.de h.de⟩
/-! ### len(set(t)), t a tuple of ints -/
def fm : List Int → List Int
  | [] => []
  | n :: ns => if n ∈ ns then fm ns else n :: fm ns
theorem mem_fm {k : Int} : ∀ {ns : List Int}, k ∈ fm ns ↔ k ∈ ns
  | [] => Iff.rfl
  | n :: ns => by
    unfold fm
    split
    · rename_i h
      rw [mem_fm, List.mem_cons]
      exact ⟨.inr, fun z => z.elim (fun e => e ▸ h) id⟩
    · rw [List.mem_cons, List.mem_cons, mem_fm]
theorem nodup_fm : ∀ {ns : List Int}, (fm ns).Nodup
  | [] => List.nodup_nil
  | n :: ns => by
    unfold fm
    split
    · exact nodup_fm
    · rename_i h
      exact List.nodup_cons.mpr ⟨fun z => h (mem_fm.mp z), nodup_fm⟩
def lenSetD : D → Option OV
  | .tup ds => (intsD ds).bind fun ns => if ns.length ≤ 4000 then some (.fz (.int (fm ns).length)) else none
  | _ => none
def tLenSetT (K : PySem.W.Frag) (ta : TE) : TE := tUn (fun x H Q => ∃ (l : Addr) (ns : List Int), x = .ref l ∧ SqT K H l (ns.map V.int) ∧ ns.length ≤ 4000 ∧ Q (.int ((fm ns).length : Nat)) H) ta
theorem pe_lenSetT {p p2 q pos : Pos} (hg : Gl X "len") (hm : X.mg "len" = none) (hg2 : Gl X "set") (hm2 : X.mg "set" = none) (ha : PE X a ta) (hc : X.calm = true) (na : starEach [a] X.env = (false, eval a X.env) :: starEach [] X.env) :
    PE X (.Call (.Name "len" p) [.Call (.Name "set" p2) [a] [] q] [] pos) (tLenSetT X.K ta) := ⟨fun pins s σ H Q I h => by
  refine Call_ (ld_blt I hg hm boot_len (callWith_builtin1 (PyProof.Rows.args_cons ?_ rfl) rfl rfl))
  refine Call_ (ld_blt I hg2 hm2 boot_set (callWith_type1 (PyProof.Rows.args_cons (thn (ha.run pins s σ H _ I h) fun v s1 ⟨x, H1, I1, r1, l, ns, ex, hq, hl, q1⟩ => PyProof.Rows.args_nil ?_) na) na rfl))
  subst ex
  obtain rfl : v = Value.ref l := r1
  obtain ⟨its, r, pl, hz⟩ := I1.tuple hq
  refine call_set_tupI ns (I1.ok.hd hc) pl (by simpa using RZ.intsAre_vals r) (by unfold scanBound; omega) fun h' tk c hS hcl hk => ?_
  refine PyProof.Rows.args_nil ?_
  obtain ⟨o, es, ep, t, ho, hex, hd, hge, hnd, hmem, hsb, hf, hn, _⟩ := hS
  have hcount : es.size = (fm ns).length := by
    have pm := (List.perm_ext_iff_of_nodup hnd (nodup_fm (ns := ns))).mpr fun k => by
      rw [← hmem k, mem_fm]; exact decide_eq_true_iff
    have e := pm.length_eq
    rw [List.length_map, Array.length_toList] at e
    exact e
  have I2 : Inv X pins σ H1 { s1 with heap := h', toks := tk } := I1.kept hk
  exact call_len_set ho hex hd hf (by have : es.size ≤ 4000 := by omega
                                      omega) ⟨.int ((fm ns).length : Nat), H1, I2.tok _, ⟨_, by rw [hcount]⟩, q1⟩⟩
theorem ox_lenSet {p p2 q pos : Pos} (hm : X.mg "len" = none) (hm2 : X.mg "set" = none) (h : Dx X cm W a ta fa) (hc : X.calm = true := by rfl) (hg : Gl X "len" := by rfl) (hg2 : Gl X "set" := by rfl) (na : starEach [a] X.env = (false, eval a X.env) :: starEach [] X.env := by rfl) :
    Ox X cm W (.Call (.Name "len" p) [.Call (.Name "set" p2) [a] [] q] [] pos) (tLenSetT X.K ta) (f1 lenSetD fa) := ⟨pe_lenSetT hg hm hg2 hm2 h.pe hc na, do_1 h.de (by
  intro G H x d o ex r h Q k
  cases r <;> first | (cases h; done) | skip
  rename_i l xs ds h1 h2
  have h : (intsD ds).bind (fun ns => if ns.length ≤ 4000 then some (OV.fz (.int (fm ns).length)) else none) = some o := h
  cases hi : intsD ds with
  | none => rw [hi] at h; cases h
  | some ns =>
    rw [hi] at h
    have h : (if ns.length ≤ 4000 then some (OV.fz (.int (fm ns).length)) else none) = some o := h
    split at h
    · rename_i c
      cases h
      exact ⟨l, ns, rfl, by rw [← intsD_rep h2 hi]; exact sqt_ex ex h1, c, op_fz ex (.int _) k⟩
    · cases h)⟩
end
end LD

end
section
set_option Elab.async false
set_option linter.all false
set_option maxRecDepth 100000
set_option maxHeartbeats 4000000
namespace LD
open PySem PySem.Spec PyProof.Rows L2 PySem.HandSPX
section
variable {prog : Program} {w : World} {M : Model} {A : Around} {E : Value → Shared → Prop} {R : Result → Shared → Prop} {h : Heap} {g : Array GenState} {d : Drawn} {t : Nat} {os : OsState}
variable {nm q : Str} {C N : Addr} {bs bm bmB : List Value} {hdct : Bool} {sn : List Str} {sub : List Value} {ab : Bool} {col : Option Bool} {dd : Option Addr} {k0 k1 k2 k3 k5 : Option Value} {B newId initId : String}

/-- the look at the arguments, names among them -/
theorem ck_new (F : ExcBaseFacts B newId initId bmB) (hT : ∀ X : String, bm.contains (.type X) = bmB.contains (.type X)) {us : List Value} {kw : List (Str × Value)} {Q : Unit → Shared → Prop}
    (hC : h.get? C = some (excClassObj nm q C N bs bm hdct sn sub ab col dd k0 k1 k2 k3 k5 newId)) (hq : Q () ⟨h, g, d, t, os⟩) : wpAny M A (checkBuiltinCall newId ⟨.ref C :: us, kw⟩) Q E ⟨h, g, d, t, os⟩ := by
  have hcont : (Value.ref C :: bm).contains (.type B) = true := by rw [List.contains_cons, hT, F.hasB, Bool.or_true]
  have hst := F.noStar
  simp only [checkBuiltinCall, F.newKind, F.newSplit, F.newRow]
  repeat (first | refine wpAny_loadPart_at hC ?_ | (refine wpAny_isSubtype_exc hC ?_; rw [hcont]) | refine wpAny_staticBase_exc hC ?_ | refine wpAny_madeBy_exc hC ?_ | simp only [bne_self_eq_false, Bool.false_eq_true, if_false] | wp_step)
  exact hq
theorem mk_new (F : ExcBaseFacts B newId initId bmB) (hT : ∀ X : String, bm.contains (.type X) = bmB.contains (.type X)) {us : List Value} {kw : List (Str × Value)}
    (hC : h.get? C = some (excClassObj nm q C N bs bm hdct sn sub ab col dd k0 k1 k2 k3 k5 newId))
    (hq : R (.ok (.ret (.ref (h.objs.size + 1)))) ⟨(h.push (W.kdv_tup us)).push (excO C h.objs.size), g, d, t, os⟩) (hz : us.length ≤ sizeLine) : codeAny (model prog w) A (.builtin newId ⟨.ref C :: us, kw⟩) R ⟨h, g, d, t, os⟩ := by
  have he := F.ends
  have c1 : (Value.ref C :: bm).contains (.type B) = true := by rw [List.contains_cons, hT, F.hasB, Bool.or_true]
  have c2 : (Value.ref C :: bm).contains (.type "AttributeError") = false := by rw [List.contains_cons, hT, F.noAttr]; rfl
  have c3 : (Value.ref C :: bm).contains (.type "NameError") = false := by rw [List.contains_cons, hT, F.noName]; rfl
  refine codeAny_builtinAt F.entry ?_
  unfold Builtin.«BaseException.__new__»
  refine PySem.wpAt_bind (show PySem.wpAt _ _ _ (stack >>= _) _ _ _ from PySem.wpAt_bind (PySem.wpAt_stack fun p below => PySem.wpAt_of_wpAny ?_))
  wp_walk
  refine PySem.wpAt_of_wpAny ?_
  rw [F.owner]
  repeat (first | with_reducible refine wpAny_madeHere_exc F.canon hC ?_ | with_reducible refine wpAny_loadPart_at hC ?_ | (with_reducible refine wpAny_isSubtype_exc hC ?_; first | rw [c1] | rw [c2] | rw [c3]) | wp_step)
  show R _ _
  rw [Heap.size_push]
  exact hq
end
end LD

end
section
set_option Elab.async false
set_option linter.all false
set_option maxRecDepth 100000
set_option maxHeartbeats 4000000
namespace LD
open PySem PySem.Spec PyProof.Rows L2 PySem.HandSPX
open Builtin.ObjectAttr in
section
variable {prog : Program} {w : World} {M : Model} {A : Around} {E : Value → Shared → Prop} {R : Result → Shared → Prop} {h : Heap} {g : Array GenState} {d : Drawn} {t : Nat} {os : OsState}
variable {nm q : Str} {C N : Addr} {bs bm bmB : List Value} {hdct : Bool} {sn : List Str} {sub : List Value} {ab : Bool} {col : Option Bool} {dd : Option Addr} {k0 k1 k2 k3 k5 : Option Value} {B newId initId : String}
theorem tc_own (F : ExcBaseFacts B newId initId bmB) (hT : ∀ X : String, bm.contains (.type X) = bmB.contains (.type X)) {us : List Value} {kw : List (Str × Value)} {fI : Addr} {Q : Fin → Shared → Prop}
    (hC : h.get? C = some (excClassObj nm q C N bs bm hdct sn sub ab col dd k0 k1 k2 k3 k5 newId)) (hi : W.Looks (model prog w) h (typeLookup (.ref C) "__init__") (some (.ref fI))) (hb : ∀ self, W.Looks (model prog w) h (bindSpecial (.ref fI) self) (.ref fI, [self])) (hz : us.length ≤ sizeLine)
    (hq : codeAny (model prog w) A (.call (.ref fI) ⟨.ref (h.objs.size + 1) :: us, kw⟩) (fun r s' => match r with
      | .ok (.ret v) => v = .none ∧ Q (.done (.ret (.ref (h.objs.size + 1)))) s'
      | .ok _ => False
      | .error e => E e s') ⟨(h.push (W.kdv_tup us)).push (excO C h.objs.size), g, d, t, os⟩) :
    wpAny (model prog w) A (Builtin.«type.__call__» ⟨.ref C :: us, kw⟩) Q E ⟨h, g, d, t, os⟩ := by
  repeat (first | with_reducible refine wpAny_loadPart_at hC ?_ | with_reducible refine wpAny_madeBy_exc hC ?_ | wp_step)
  refine codeAny_call_builtin_code (Code.quiet_builtin _ F.quiet) (ck_new F hT hC (mk_new F hT hC ?_ hz))
  show wpAny _ _ _ _ _ _
  have up : ∀ b o, h.get? b = some o → ((h.push (W.kdv_tup us)).push (excO C h.objs.size)).get? b = some o := fun b o e => Heap.get?_push_of_some _ (Heap.get?_push_of_some _ e)
  have hC1 := up _ _ hC
  have hg1 : ((h.push (W.kdv_tup us)).push (excO C h.objs.size)).get? (h.objs.size + 1) = some (excO C h.objs.size) := by heap_get
  have cc : (Value.ref C :: bm).contains (.ref C) = true := by simp
  have i1 := hi.keeps up
  have b1 := (hb (.ref (h.objs.size + 1))).keeps up
  unfold isInstance
  repeat (first | with_reducible refine wpAny_loadPart_at hg1 ?_ | (with_reducible refine wpAny_isSubtype_exc hC1 ?_; rw [cc]) | wp_step)
  show wpAny _ _ (typeLookup (.ref C) _) _ _ _
  refine i1.at (wpAny_holding (wpAny_bind (b1.at (wpAny_bind (wpAny_call (codeAny_mono hq fun r s' z => ?_))))))
  match r, z with
  | .error e, z => exact z
  | .ok (.ret v), z =>
    obtain ⟨rfl, z⟩ := z
    first
      | exact wpAny_pure (wpAny_pure z)
      | (wp_walk; exact z)
  | .ok .next, z => exact z.elim
  | .ok .brk, z => exact z.elim
  | .ok .cont, z => exact z.elim
theorem callx_own (F : ExcBaseFacts B newId initId bmB) (hT : ∀ X : String, bm.contains (.type X) = bmB.contains (.type X)) {us : List Value} {kw : List (Str × Value)} {fI : Addr}
    (hC : h.get? C = some (excClassObj nm q C N bs bm hdct sn sub ab col dd k0 k1 k2 k3 k5 newId)) (hi : W.Looks (model prog w) h (typeLookup (.ref C) "__init__") (some (.ref fI))) (hb : ∀ self, W.Looks (model prog w) h (bindSpecial (.ref fI) self) (.ref fI, [self])) (hz : us.length ≤ sizeLine)
    (hq : codeAny (model prog w) (A.under (.builtin "type.__call__" ⟨.ref C :: us, kw⟩)) (.call (.ref fI) ⟨.ref (h.objs.size + 1) :: us, kw⟩) (W.InitBack (h.objs.size + 1) R) ⟨(h.push (W.kdv_tup us)).push (excO C h.objs.size), g, d, t, os⟩) :
    codeAny (model prog w) A (.call (.ref C) ⟨us, kw⟩) R ⟨h, g, d, t, os⟩ := by
  have f1 := tc_lookup
  have f2 := tc_bind (.ref C)
  have ty : (⟨h, g, d, t, os⟩ : Shared).TypeIs (.ref C) "type" := ⟨_, hC, rfl⟩
  refine codeAny_of_tree (show wpAny _ _ (callAny (.ref C) _) _ _ _ from ?_)
  repeat (any_goals (first | assumption | with_reducible refine wpAny_loadPart_at hC ?_ | wp_step))
  refine ⟨rfl, codeAny_call_builtin_at (Code.quiet_builtin _ (by decide +kernel)) entry_typeCall (wpAny_check_type_call_sub hC (tc_own F hT hC hi hb hz (codeAny_mono hq fun r s' z => ?_)))⟩
  match r, z with
  | .error e, z => exact z
  | .ok (.ret v), z => exact z
  | .ok .next, z => exact z
  | .ok .brk, z => exact z
  | .ok .cont, z => exact z
/-- Base.__init__(e, ..), the args told -/
theorem ibase (F : ExcBaseFacts B newId initId bmB) (hT : ∀ X : String, bm.contains (.type X) = bmB.contains (.type X)) {e t0 : Addr} {us : List Value}
    (hC : h.get? C = some (excClassObj nm q C N bs bm hdct sn sub ab col dd k0 k1 k2 k3 k5 newId)) (he : h.get? e = some (excO C t0)) (hz : us.length ≤ sizeLine)
    (hq : ∀ h', (∀ b o, b ≠ e → h.get? b = some o → h'.get? b = some o) → h'.get? e = some (excO C h.objs.size) → h'.get? h.objs.size = some (W.kdv_tup us) → R (.ok (.ret .none)) ⟨h', g, d, t, os⟩) :
    codeAny (model prog w) A (.call (.builtin initId) ⟨.ref e :: us, []⟩) R ⟨h, g, d, t, os⟩ := by
  refine codeAny_call_builtin F.init.plain F.initEntry (check_init_own F hT hC he rfl ?_)
  wp_walk
  have ne : e ≠ h.objs.size := Nat.ne_of_lt (Heap.lt_size he)
  refine hq _ (fun b o hb ho => ?_) ?_ ?_
  · rw [Heap.get?_update_other _ _ (Ne.symm hb)]; exact Heap.get?_push_of_some _ ho
  · rw [Heap.get?_update_self _ (Heap.get?_push_of_some _ he) rfl]; rfl
  · rw [Heap.get?_update_other _ _ ne]; exact Heap.get?_push_size _ rfl
end
end LD

end
section
set_option Elab.async false
set_option linter.all false
set_option maxRecDepth 100000
set_option maxHeartbeats 4000000
namespace PySem
namespace LDX
open Builtin Builtin.ObjectAttr
open PySem.W PySem.Calls PyProof.Rows PySem.HandSPX
section
variable {prog : Program} {w : World} {A : Around} {E : Value → Shared → Prop} {R : Result → Shared → Prop} {hp : Heap} {g : Array GenState} {d : Drawn} {t : Nat} {os : OsState}
/-- e.f = v, the first field of an exception over any base -/
theorem osaX {K : W.Frag} {name : Str} {tk : Tok} {v : Value} {x C : Addr} {fv : Array Value} {cd : ClassData}
    (X : K.In hp) (hx : hp.get? x = some { cls := .ref C, data := .fields fv }) (hcd : W.clsIn K C = some cd) (hps : ∀ self, refuseLoop self "__setattr__" cd.mro = pure ()) (hob : cd.mro.contains (.type "object") = true) (ne : cd.mro.isEmpty = false) (hh : cd.hasDict = true) (ha : W.findIn K (.ref C) name = some none)
    (hq : ∀ h' tk' dx, (∀ b o, b ≠ x → hp.get? b = some o → h'.get? b = some o) → hp.objs.size ≤ dx → dx ≠ x → h'.get? x = some { cls := .ref C, dict := some dx, data := .fields fv } →
      h'.Ns1 dx (fun y => if y = name then some v else none) → R (.ok (.ret .none)) ⟨h', g, d, tk', os⟩) : codeAny (model prog w) A (.call (.builtin "object.__setattr__") ⟨[.ref x, .str name tk, v], []⟩) R ⟨hp, g, d, t, os⟩ := by
  have J : W.InstAt hp x { cls := .ref C, data := .fields fv } C none := ⟨hx, rfl, rfl, trivial⟩
  have S0 := F.store_object
  have xne : x ≠ hp.objs.size := Nat.ne_of_lt (Heap.lt_size hx)
  have isO : W.Looks (model prog w) hp (isInstance (.ref x) (.type "object")) true := J.type.andThen (W.looks_mroIn X (by unfold W.mroIn; rw [hcd, Option.bind_some, if_neg (by rw [ne]; decide), hob]))
  have mroL : W.Looks (model prog w) hp (mroOf (.ref C)) cd.mro := (W.looks_clsIn X hcd).andThen .now
  have tkL : W.Looks (model prog w) hp (storeTaker? none) none := .now
  have clL : W.Looks (model prog w) hp (classData C) cd := W.looks_clsIn X hcd
  refine codeAny_call_builtin S0.slot.plain S0.entry (@W.check_slot (model prog w) _ _ ⟨hp, g, d, t, os⟩ "object.__setattr__" "object" "__setattr__" (.ref x) [.str name tk, v] [] _ S0.kind S0.split isO (S0.args (.ref x) (.str name tk) v) ?_)
  rw [W.osa_eq, refuse_eq]
  refine wpAny_bind (wpAny_bind (J.type.at (wpAny_bind (mroL.at ?_))))
  rw [hps]
  refine wpAny_pure (wpAny_bind (J.type.at (wpAny_bind ((W.looks_findIn X ha).at (wpAny_bind (tkL.at (show wpAny _ _ (storeInOwnDict (.ref x) (.ref C) (.str name tk) name v false) _ _ _ from ?_))))))) 
  obtain ⟨cn, cb, cm, cns, cq, chd, csn, csb, cab, ccol, cdel⟩ := cd
  dsimp only at hh
  subst hh
  unfold storeInOwnDict ownDictForStores
  repeat (first | with_reducible refine store_in_new ?_ ?_ | with_reducible refine wpAny_loadPart_at hx ?_ | with_reducible refine clL.at ?_ | wp_step)
  · exact ⟨_, #[], _, (Heap.get?_update_ne _ _ _ _ xne.symm).trans (Heap.get?_push_at rfl rfl), rfl, fun e he => absurd he (by simp), fun _ => rfl⟩
  · intro h' tk' hn' hs
    have hx1 : (hp.push { cls := .type "dict", data := .dict #[] }).get? x = some { cls := .ref C, data := .fields fv } := Heap.get?_push_of_some _ hx
    exact hq h' tk' hp.objs.size (fun b o hb ho => (hs.2 b (Nat.ne_of_lt (Heap.lt_size ho))).trans ((Heap.get?_update_ne _ _ _ _ hb).trans (Heap.get?_push_of_some _ ho))) (Nat.le_refl _) xne.symm ((hs.2 x xne).trans (Heap.get?_update_self _ hx1 rfl)) hn'
end
end LDX
end PySem
namespace LD
open PySem PySem.Spec PyProof.Rows L2 PySem.HandSPX

/-! ### exceptions of own classes as values -/
/-- a base class's facts -/
structure BaseX (B newId initId : String) (bmB : List Value) : Prop where
  F : ExcBaseFacts B newId initId bmB
  pass : ∀ self, refuseLoop self "__setattr__" bmB = pure ()
  obj : bmB.contains (.type "object") = true
  hand : PySem.W.handedIn (.builtin initId) = true
theorem base_V : BaseX "ValueError" "ValueError.__new__" "ValueError.__init__" [.type "ValueError", .type "Exception", .type "BaseException", .type "object"] := ⟨F.excBase_ValueError, F.store_ValueError.passes, by decide, by decide +kernel⟩
theorem base_O : BaseX "OverflowError" "OverflowError.__new__" "OverflowError.__init__" [.type "OverflowError", .type "ArithmeticError", .type "Exception", .type "BaseException", .type "object"] := ⟨F.excBase_OverflowError, F.store_OverflowError.passes, by decide, by decide +kernel⟩
theorem base_L : BaseX "LookupError" "LookupError.__new__" "LookupError.__init__" [.type "LookupError", .type "Exception", .type "BaseException", .type "object"] := ⟨F.excBase_LookupError, F.store_LookupError.passes, by decide, by decide +kernel⟩
/-- what the written part says of such a class, the field f -/
def xcB (K : PySem.W.Frag) (C : Addr) (bmB : List Value) (newId : String) (f : Str) : Bool :=
  PySem.W.excInitIn K C bmB newId && PySem.W.hasDictIn K C && PySem.W.excOver K C bmB && decide (PySem.W.findIn K (.ref C) "__setattr__" = some (some (.builtin "object.__setattr__"))) && decide (PySem.W.findIn K (.ref C) "__getattribute__" = some (some (.builtin "BaseException.__getattribute__"))) &&
  decide (PySem.W.findIn K (.ref C) "__getattr__" = some none) && decide (PySem.W.subIn K (.ref C) (.type "BaseException") = some true) && PySem.W.keepIn K (.ref C) && decide (PySem.W.findIn K (.ref C) "__class__" = some (some (.builtin "object.__class__"))) &&
  decide (PySem.W.specialIn K (.builtin "object.__class__") "__get__" = some (some (.builtin "getset_descriptor.__get__"))) && decide (PySem.W.takesIn K (.builtin "object.__class__") = some true) && decide (PySem.W.mroIn K C (.type "object") = some true) &&
  decide (PySem.W.findIn K (.ref C) "__str__" = some (some (.builtin "BaseException.__str__"))) && decide (PySem.W.findIn K (.ref C) f = some none)
structure XC (K : PySem.W.Frag) (C : Addr) (bmB : List Value) (newId : String) (f : Str) : Prop where
  ini : PySem.W.excInitIn K C bmB newId = true
  hd : PySem.W.hasDictIn K C = true
  ov : PySem.W.excOver K C bmB = true
  sa : PySem.W.findIn K (.ref C) "__setattr__" = some (some (.builtin "object.__setattr__"))
  ga : PySem.W.findIn K (.ref C) "__getattribute__" = some (some (.builtin "BaseException.__getattribute__"))
  gg : PySem.W.findIn K (.ref C) "__getattr__" = some none
  exC : PySem.W.subIn K (.ref C) (.type "BaseException") = some true
  kp : PySem.W.keepIn K (.ref C) = true
  cl : PySem.W.findIn K (.ref C) "__class__" = some (some (.builtin "object.__class__"))
  hn : PySem.W.specialIn K (.builtin "object.__class__") "__get__" = some (some (.builtin "getset_descriptor.__get__"))
  ht : PySem.W.takesIn K (.builtin "object.__class__") = some true
  hm : PySem.W.mroIn K C (.type "object") = some true
  st : PySem.W.findIn K (.ref C) "__str__" = some (some (.builtin "BaseException.__str__"))
  no : PySem.W.findIn K (.ref C) f = some none
theorem xc_ok {K : PySem.W.Frag} {C : Addr} {bmB : List Value} {newId : String} {f : Str} (h : xcB K C bmB newId f = true) : XC K C bmB newId f := by
  unfold xcB at h
  simp only [Bool.and_eq_true, decide_eq_true_eq] at h
  obtain ⟨⟨⟨⟨⟨⟨⟨⟨⟨⟨⟨⟨⟨h1, h2⟩, h3⟩, h4⟩, h5⟩, h6⟩, h7⟩, h8⟩, h9⟩, h10⟩, h11⟩, h12⟩, h13⟩, h14⟩ := h
  exact ⟨h1, h2, h3, h4, h5, h6, h7, h8, h9, h10, h11, h12, h13, h14⟩
/-- such an exception that has no field yet -/
def exN (e C t1 : Addr) : HO := .ext fun h => h.get? e = some (excO C t1)
theorem exN_ok {P : Program} {w : World} {H : Hp} {h : Heap} {e C t1 : Addr} (he : h.get? e = some (excO C t1)) : ObjOk P w H h e (exN e C t1) := ⟨he, ⟨_, he⟩, fun h1 h2 z k => k _ z⟩
theorem exT_ok {P : Program} {w : World} {H : Hp} {h : Heap} {e C dx t1 : Addr} (he : h.get? e = some ({ cls := .ref C, dict := some dx, data := .fields #[.ref t1, .none, .none, .none, .bool false, .none] } : Obj)) : ObjOk P w H h e (exT e C dx t1) := ⟨he, ⟨_, he⟩, fun h1 h2 z k => k _ z⟩
theorem exN_at {P : Program} {w : World} {H : Hp} {h : Heap} {e C t1 : Addr} (hok : HOk P w H h) (he : H e = some (exN e C t1)) : h.get? e = some (excO C t1) := by
  have x : ObjOk P w H h e (.ext fun h => h.get? e = some (excO C t1)) := hok e _ he
  exact x.1
theorem exT_at {P : Program} {w : World} {H : Hp} {h : Heap} {e C dx t1 : Addr} (hok : HOk P w H h) (he : H e = some (exT e C dx t1)) : h.get? e = some ({ cls := .ref C, dict := some dx, data := .fields #[.ref t1, .none, .none, .none, .bool false, .none] } : Obj) := by
  have x : ObjOk P w H h e (.ext fun h => h.get? e = some ({ cls := .ref C, dict := some dx, data := .fields #[.ref t1, .none, .none, .none, .bool false, .none] } : Obj)) := hok e _ he
  exact x.1
end LD

end
section
set_option Elab.async false
set_option linter.all false
set_option maxRecDepth 100000
set_option maxHeartbeats 4000000
namespace LD
open PySem PySem.Spec PyProof.Rows L2 PySem.HandSPX

section
variable {X : Cx} {pins : List (Addr × Obj)} {σ : L2.St} {H : Hp} {s : Shared} {a C t0 t1 : Addr} {f : Str} {y : V} {u : Value} {Q : Unit → Shared → Prop} {E : Value → Shared → Prop} {A : Around} {B newId initId : String} {bmB : List Value}
theorem xc_cls (T : XC X.K C bmB newId f) : ∃ nm q N bs bm sn sub ab col dd k0 k1 k2 k3 k5, X.K.lookup C = some (excClassObj nm q C N bs bm true sn sub ab col dd k0 k1 k2 k3 k5 newId) ∧ PySem.W.excTail bmB bm = true := by
  have q := T.ini
  have hd := T.hd
  unfold PySem.W.excInitIn at q
  split at q
  · rename_i dd cd sl ho
    have hcl : PySem.W.clsIn X.K C = some cd := by unfold PySem.W.clsIn; rw [ho]
    have hcd : cd.hasDict = true := by
      unfold PySem.W.hasDictIn at hd
      rw [hcl] at hd
      exact hd
    split at q
    · rename_i C' bm k0 k1 k2 k3 n k5 hm hs
      simp only [Bool.and_eq_true, beq_iff_eq, Bool.not_eq_true'] at q
      obtain ⟨⟨⟨rfl, rfl⟩, hdel⟩, ht⟩ := q
      obtain ⟨cn, cb, cm, cns, cq, chd, csn, csb, cab, ccol, cdel⟩ := cd
      dsimp only at hm hdel hcd
      subst hm hdel hcd
      have hsl : sl = #[k0, k1, k2, k3, some (.builtin n), k5] := by
        obtain ⟨l⟩ := sl
        simp only at hs
        rw [hs]
      subst hsl
      exact ⟨_, _, _, _, bm, _, _, _, _, dd, k0, k1, k2, k3, k5, ho, ht⟩
    · cases q
  · cases q
/-- e.f = v -/
theorem xset (BX : BaseX B newId initId bmB) (T : XC X.K C bmB newId f) (I : Inv X pins σ H s) (e : H a = some (exN a C t1)) (ry : RelV y u)
    (h : ∀ dx s', H dx = none → dx ≠ a → Inv X pins σ (upd (upd H dx (exd dx [(f, y)])) a (exT a C dx t1)) s' → Q () s') : wpAny (model X.prog X.w) A (setAttr (.ref a) f u) Q E s := by
  obtain ⟨nm, q, N, bs, bm, sn, sub, ab, col, dd, k0, k1, k2, k3, k5, hC, hbm⟩ := xc_cls T
  have hcl : PySem.W.clsIn X.K C = some { name := nm, bases := bs, mro := .ref C :: bm, ns := N, qualname := q, hasDict := true, slotNames := sn, subclasses := sub, abstract := ab, collection := col, hasDel := false } := by unfold PySem.W.clsIn; rw [hC] <;> rfl
  have ho := exN_at I.hok e
  obtain ⟨hp, g, d, t, os⟩ := s
  refine PySem.W.set_plain I.kIn (ox := excO C t1) (od := none) ⟨ho, rfl, rfl, trivial⟩ T.sa ?_
  have htl : PySem.W.excTail bmB (.ref C :: bm) = true := hbm
  refine PySem.LDX.osaX I.kIn ho hcl (fun self => PySem.W.excTail_pass self (BX.pass self) _ htl) ((PySem.W.excTail_contains "object" _ htl).trans BX.obj) rfl rfl T.no fun h' tk' dx k dn dne hx hn => ?_
  have hnd : H dx = none := I.hok.fresh dn
  -- the dict is laid first, then the exception is written
  have hdx : dx ≠ a := dne
  obtain ⟨od, esd, epd, hod, hrd⟩ := hn
  have hm : ∀ b, b ≠ a → (h'.update a fun _ => excO C t1).get? b = h'.get? b := fun b hb => Heap.get?_update_other h' _ (Ne.symm hb)
  have hma : (h'.update a fun _ => excO C t1).get? a = some (excO C t1) := Heap.get?_update_self _ hx rfl
  have k1 : ∀ b o, hp.get? b = some o → (h'.update a fun _ => excO C t1).get? b = some o := fun b o z => by
    by_cases hb : b = a
    · rw [hb] at z ⊢
      rw [ho] at z
      cases z
      exact hma
    · rw [hm b hb]; exact k b o hb z
  have I1 : Inv X pins σ (upd H dx (exd dx [(f, y)])) ⟨h'.update a fun _ => excO C t1, g, d, tk', os⟩ := I.laid (t' := tk') k1 dn (exd_ok (mA := fun y => if y = f then some u else none) ⟨od, esd, epd, (hm dx dne).trans hod, hrd⟩ (relO_put (fs := []) ry fun g => True.intro))
  have I2 := I1.write (t' := tk') (x := a) (e := a) (o := exT a C dx t1) (h' := h') (by rw [upd_ne (Ne.symm dne), e]; exact True.intro) (.inl rfl) (fun b o hb z => by
    have z' : (h'.update a fun _ => excO C t1).get? b = some o := z
    rw [hm b hb] at z'
    exact z') ⟨_, hx⟩ (exT_ok hx)
  exact h dx _ hnd dne I2
/-- Base.__init__(e, ..) -/
theorem xinit {us : List Value} {vs : List V} {Q : Value → Shared → Prop} (BX : BaseX B newId initId bmB) (T : XC X.K C bmB newId f) (I : Inv X pins σ H s) (e : H a = some (exN a C t0)) (r : Vals vs us) (hl : us.length ≤ sizeLine)
    (h : ∀ t1 s', H t1 = none → Inv X pins σ (upd (upd H t1 (.tup vs)) a (exN a C t1)) s' → Q .none s') : wpAny (model X.prog X.w) A (call (.builtin initId) (.ref a :: us)) Q E s := by
  obtain ⟨nm, q, N, bs, bm, sn, sub, ab, col, dd, k0, k1, k2, k3, k5, hC, hbm⟩ := xc_cls T
  have ho := exN_at I.hok e
  obtain ⟨hp, g, d, t, os⟩ := s
  refine wpAny_call (ibase BX.F (fun Y => PySem.W.excTail_contains Y bm hbm) (I.kIn _ _ hC) ho hl fun h' k hx ht => ?_)
  have ne : a ≠ hp.objs.size := Nat.ne_of_lt (Heap.lt_size ho)
  have hm : ∀ b, b ≠ a → (h'.update a fun _ => excO C t0).get? b = h'.get? b := fun b hb => Heap.get?_update_other h' _ (Ne.symm hb)
  have hma : (h'.update a fun _ => excO C t0).get? a = some (excO C t0) := Heap.get?_update_self _ hx rfl
  have k1 : ∀ b o, hp.get? b = some o → (h'.update a fun _ => excO C t0).get? b = some o := fun b o z => by
    by_cases hb : b = a
    · rw [hb] at z ⊢
      rw [ho] at z
      cases z
      exact hma
    · rw [hm b hb]; exact k b o hb z
  have I1 : Inv X pins σ (upd H hp.objs.size (.tup vs)) ⟨h'.update a fun _ => excO C t0, g, d, t, os⟩ := I.laid (t' := t) k1 (Nat.le_refl _) (show ObjOk X.prog X.w _ _ _ (.tup vs) from ⟨by rw [r.length]; exact hl, us, r, ⟨_, (hm _ ne.symm).trans ht, rfl, _, rfl⟩⟩)
  have I2 := I1.write (t' := t) (x := a) (e := a) (o := exN a C hp.objs.size) (h' := h') (by rw [upd_ne ne, e]; exact True.intro) (.inl rfl) (fun b o hb z => by
    have z' : (h'.update a fun _ => excO C t0).get? b = some o := z
    rw [hm b hb] at z'
    exact z') ⟨_, hx⟩ (exN_ok hx)
  exact h hp.objs.size _ (I.hok.fresh (Nat.le_refl _)) I2
end

/-! ### the readings -/
def tBI (C : Addr) (ta : TA) : TE := fun σ H Q => ta σ H fun vs H1 => ∃ (a t0 : Addr) (ws : List V), vs = .ref a :: ws ∧ ws.length ≤ 1000 ∧ H1 a = some (exN a C t0) ∧ ∀ t1, H1 t1 = none → Q .non (upd (upd H1 t1 (.tup ws)) a (exN a C t1))
def tXs (C : Addr) (f : Str) (to te : TE) : TS := fun D σ H => te σ H fun y H1 => to σ H1 fun x H2 => ∃ a t1 : Addr, x = .ref a ∧ H2 a = some (exN a C t1) ∧ ∀ dx, H2 dx = none → dx ≠ a → D.nx σ (upd (upd H2 dx (exd dx [(f, y)])) a (exT a C dx t1))
section
variable {X : Cx} {C : Addr} {f : Str} {o e : Expr} {es : List Expr} {to te : TE} {ta : TA} {p p' p1 p2 pos : Pos} {B newId initId : String} {bmB : List Value} {x : Str}
/-- Base.__init__(self, ..), Base a built-in class -/
theorem pe_binitT (BX : BaseX B newId initId bmB) (T : XC X.K C bmB newId f) (hg : Gl X x) (hm : X.mg x = none) (hbt : bootBuiltins x = some (.type B)) (hty : typeOf (.type B) = pure (.type "type")) (hstub : Manifest.isStub B = false)
    (vV : PySem.W.findCls X.K (.type B) (.type "type") "__init__" = some (.val (.builtin initId))) (ha : PA X (e :: es) ta) (hn : x ≠ "__name__" := by decide) (hdb : (x == ("__debug__" : Str)) = false := by decide)
    (he : starEach (e :: es) X.env = (false, eval e X.env) :: starEach es X.env := by rfl) (hpl : (backTo pos (starEach es X.env)).any (·.1) = false := by rfl) {pl : Sem Bool}
    (hc : eval (.Call (.Attribute (.Name x p1) "__init__" p2) (e :: es) [] pos) X.env = (do
      let ov ← eval (.Name x p1) X.env
      standAt p2.atName
      let (f, first) ← holding [ov] (getMethod ov "__init__" pl)
      callWith pos f first (backTo pos (starEach (e :: es) X.env)) (backToKw pos (keywordEach [] X.env))) := by rfl) :
    PE X (.Call (.Attribute (.Name x p1) "__init__" p2) (e :: es) [] pos) (tBI C ta) := ⟨fun pins s σ H Q I h => by
  refine PySem.W.methodCall_KW (ld_blt I hg hm hbt ?_ hn hdb) hc
  obtain ⟨m, fr⟩ := I.fr
  refine PySem.W.method_type fr I.ok.mod.kin hty hstub vV BX.hand ?_
  show wpAny _ _ (callWith pos (Value.builtin initId) [] (backTo pos (starEach (e :: es) X.env)) []) _ _ _
  refine PyProof.Rows.callWith_method1 (thn (ha.run pos pins _ σ H _ (I.tok _) h) fun us s1 ⟨vs, H1, I1, r1, a, t0, ws, ev, hl, ea, q⟩ => ?_) he hpl
  subst ev
  cases r1 with
  | @cons _ u0 _ ur ra rw' =>
    obtain rfl : u0 = Value.ref a := ra
    exact xinit BX T I1 ea rw' (by rw [← rw'.length, sizeLine_eq]; omega) fun t1 s' n J => ⟨.non, _, J, rfl, q t1 n⟩⟩
/-- .. Base an own class -/
theorem pe_binitC {D : Addr} (BX : BaseX B newId initId bmB) (T : XC X.K C bmB newId f) (hg : Gl X x) (hm : X.mg x = some (.ref D)) (hrd : PySem.W.readsIn X.K D (.type "type") = true) (hga : PySem.W.specialIn X.K (.ref D) "__getattribute__" = some (some (.builtin "type.__getattribute__")))
    (vV : PySem.W.findCls X.K (.ref D) (.type "type") "__init__" = some (.val (.builtin initId))) (ha : PA X (e :: es) ta) (hdb : (x == ("__debug__" : Str)) = false := by decide)
    (he : starEach (e :: es) X.env = (false, eval e X.env) :: starEach es X.env := by rfl) (hpl : (backTo pos (starEach es X.env)).any (·.1) = false := by rfl) {pl : Sem Bool}
    (hc : eval (.Call (.Attribute (.Name x p1) "__init__" p2) (e :: es) [] pos) X.env = (do
      let ov ← eval (.Name x p1) X.env
      standAt p2.atName
      let (f, first) ← holding [ov] (getMethod ov "__init__" pl)
      callWith pos f first (backTo pos (starEach (e :: es) X.env)) (backToKw pos (keywordEach [] X.env))) := by rfl) :
    PE X (.Call (.Attribute (.Name x p1) "__init__" p2) (e :: es) [] pos) (tBI C ta) := ⟨fun pins s σ H Q I h => by
  refine PySem.W.methodCall_KW (ld_glob I hg hm ?_ hdb) hc
  refine PySem.W.method_cls I.kIn hga (PySem.W.cls_value I.kIn hrd vV BX.hand ?_)
  show wpAny _ _ (callWith pos (Value.builtin initId) [] (backTo pos (starEach (e :: es) X.env)) []) _ _ _
  refine PyProof.Rows.callWith_method1 (thn (ha.run pos pins _ σ H _ (I.tok _) h) fun us s1 ⟨vs, H1, I1, r1, a, t0, ws, ev, hl, ea, q⟩ => ?_) he hpl
  subst ev
  cases r1 with
  | @cons _ u0 _ ur ra rw' =>
    obtain rfl : u0 = Value.ref a := ra
    exact xinit BX T I1 ea rw' (by rw [← rw'.length, sizeLine_eq]; omega) fun t1 s' n J => ⟨.non, _, J, rfl, q t1 n⟩⟩
theorem ps_xset (BX : BaseX B newId initId bmB) (T : XC X.K C bmB newId f) (ho : PE X o to) (he : PE X e te) (hs : swapsWith e (some (.Attribute o f p')) pos.line X.env = pure false := by rfl) : PS X (.Assign [.Attribute o f p'] e pos) (tXs C f to te) := ⟨fun pins s σ H D I h => by
  refine plainObj_wpAny_Assign_Attribute (thn (he.run pins s σ H _ I h) fun v s1 ⟨y, H1, I1, r1, q1⟩ => thn (ho.run pins s1 σ H1 _ I1 q1) fun u s2 ⟨x, H2, I2, r2, a, t1, ex, ea, q⟩ => ?_) hs
  subst ex
  obtain rfl : u = Value.ref a := r2
  exact xset BX T I2 ea r1 fun dx s' n ne J => ⟨σ, _, J, q dx n ne⟩⟩
end
end LD

end
section
set_option Elab.async false
set_option linter.all false
set_option maxRecDepth 100000
set_option maxHeartbeats 4000000
namespace LD
open PySem PySem.Spec PyProof.Rows L2 PySem.HandSPX

/-- the exception made of C, the field f, the message m -/
abbrev exH (H : Hp) (a C dx t1 : Addr) (f m : Str) (v : V) : Hp := upd (upd (upd H t1 (.tup [.str m])) dx (exd dx [(f, v)])) a (exT a C dx t1)
/-- what an own __init__ does -/
def spI (C : Addr) (f m : Str) : Sp := fun vs H Q _ => ∃ (a : Addr) (v : V) (t0 : Addr), vs = [.ref a, v] ∧ H a = some (exN a C t0) ∧ ∀ t1 dx, H t1 = none → H dx = none → t1 ≠ dx → Q .non (exH H a C dx t1 f m v)
theorem upd_upd (H : Hp) (a b c : Addr) (o o' p q : HO) (h1 : a ≠ b) (h2 : a ≠ c) : upd (upd (upd (upd H b p) a o) c q) a o' = upd (upd (upd H b p) c q) a o' := by
  funext x
  by_cases hx : x = a
  · rw [hx, upd_same, upd_same]
  · rw [upd_ne hx, upd_ne hx]
    by_cases hc : x = c
    · rw [hc, upd_same, upd_same]
    · rw [upd_ne hc, upd_ne hc, upd_ne hx]
theorem fnI {P : Program} {w : World} {K : PySem.W.Frag} {mg : Str → Option Value} {base : Heap} {x qual : Str} {params : Arguments} {body : List Stmt} {scope : Scope} {dvs : List V} {kws : List (Str × V)} {fI : Addr} {fd : FuncData} {k : Nat} {C : Addr} {f m p : Str}
    (F : FunD K x qual params body scope dvs kws fI fd) (S : FnScope ["self", p] ["self", p] scope)
    (hb : ∀ cdv A outer s H E, PSs (cxOf (L2.CX P w) P w K mg base ["self", p] qual scope fI cdv A outer s H E) body (tSeq (tDrop (tBI C (tCons (tVar 0) (tCons (tC (.str m)) tNil)))) (tXs C f (tVar 0) (tVar 1)))) :
    FnOk P w K mg base (L2.CX P w) (k + 1) fI fd ["self", p] (spI C f m) := by
  refine F.ok S (fun vs H Q E ⟨a, v, t0, ev, _⟩ => by rw [ev]; rfl) fun cdv A outer s H vs Q E hr ⟨a, v, t0, ev, ea, q⟩ => ⟨_, hb cdv A outer s H E, ?_⟩
  subst ev
  refine ⟨.ref a, rfl, a, t0, [.str m], rfl, by simp, ea, fun t1 n1 => ?_⟩
  have na : t1 ≠ a := fun z => by rw [z, ea] at n1; cases n1
  refine ⟨v, rfl, .ref a, rfl, a, t1, rfl, upd_same, fun dx nd ne => ?_⟩
  rw [upd_ne ne] at nd
  have nt : dx ≠ t1 := fun z => by rw [z, upd_same] at nd; cases nd
  rw [upd_ne nt] at nd
  show Q .non _
  rw [upd_upd H a t1 dx _ _ _ _ (Ne.symm na) (Ne.symm ne)]
  exact q t1 dx n1 nd (Ne.symm nt)
section
variable {X : Cx} {cm : Str → Addr} {W : WX} {C fI : Addr} {k : Nat} {fd : FuncData} {f m x pn : Str} {B newId initId : String} {bmB : List Value} {p pos kpos : Pos} {e : Expr} {te : TE} {fe : FE} {H : Hp} {σ : L2.St} {s : Shared} {pins : List (Addr × Obj)}
/-- what a class's text gives -/
structure MkX (X : Cx) (C fI : Addr) (k : Nat) (fd : FuncData) (f m pn : Str) (newId : String) (bmB : List Value) : Prop where
  bx : ∃ B initId, BaseX B newId initId bmB
  xc : XC X.K C bmB newId f
  iC : PySem.W.findIn X.K (.ref C) "__init__" = some (some (.ref fI))
  tI : PySem.W.typeIn X.K (.ref fI) = some (.type "function")
  ok : FnOk X.prog X.w X.K X.mg X.base (L2.CX X.prog X.w) k fI fd ["self", pn] (spI C f m)
theorem run_cls {us : List Value} {kw : List (Str × Value)} {u : Value} {y : V} {Q : VK} (M : MkX X C fI k fd f m pn newId bmB) (hr : Room (k + 1) X.A) (tk : Takes X W) (I : Inv X pins σ H s) (hz : us.length ≤ sizeLine) (ry : RelV y u)
    (hb : ∀ (s' : Shared) (a : Addr), X.K.In s'.heap → BindsTo s' fd ⟨.ref a :: us, kw⟩ [("self", .ref a), (pn, u)])
    (h : ∀ a dx t1, H a = none → H dx = none → H t1 = none → a ≠ dx → a ≠ t1 → dx ≠ t1 → Q (.ref a) (exH H a C dx t1 f m y)) : wpAny (model X.prog X.w) X.A (call (.ref C) us kw) (EP X pins σ Q) X.xe s := by
  obtain ⟨B, initId, BX⟩ := M.bx
  obtain ⟨nm, q, N, bs, bm, sn, sub, ab, col, dd, k0, k1, k2, k3, k5, hC, hbm⟩ := xc_cls M.xc
  obtain ⟨hp, g, dr, tok, os⟩ := s
  have hsz : hp.objs.size ≤ hp.objs.size + 1 := Nat.le_succ _
  have kk : ∀ b o, hp.get? b = some o → ((hp.push (PySem.W.kdv_tup us)).push (excO C hp.objs.size)).get? b = some o := fun b o e => Heap.get?_push_of_some _ (Heap.get?_push_of_some _ e)
  have hget : ((hp.push (PySem.W.kdv_tup us)).push (excO C hp.objs.size)).get? (hp.objs.size + 1) = some (excO C hp.objs.size) := by heap_get
  have hn : H (hp.objs.size + 1) = none := I.hok.fresh hsz
  have I2 : Inv X pins σ (upd H (hp.objs.size + 1) (exN (hp.objs.size + 1) C hp.objs.size)) ⟨(hp.push (PySem.W.kdv_tup us)).push (excO C hp.objs.size), g, dr, tok, os⟩ := I.laid (t' := tok) kk hsz (exN_ok hget)
  have hsp : spI C f m [.ref (hp.objs.size + 1), y] (upd H (hp.objs.size + 1) (exN (hp.objs.size + 1) C hp.objs.size)) (fun v H2 => v = .non ∧ Q (.ref (hp.objs.size + 1)) H2) (WE W σ) := by
    refine ⟨_, y, _, rfl, upd_same, fun t1 dx n1 nd ne => ⟨rfl, ?_⟩⟩
    have a1 : t1 ≠ hp.objs.size + 1 := fun z => by rw [z, upd_same] at n1; cases n1
    have a2 : dx ≠ hp.objs.size + 1 := fun z => by rw [z, upd_same] at nd; cases nd
    rw [upd_ne a1] at n1
    rw [upd_ne a2] at nd
    have e1 : exH (upd H (hp.objs.size + 1) (exN (hp.objs.size + 1) C hp.objs.size)) (hp.objs.size + 1) C dx t1 f m y = exH H (hp.objs.size + 1) C dx t1 f m y := by
      funext z
      by_cases z1 : z = hp.objs.size + 1
      · rw [z1]; simp [exH, upd_same]
      · by_cases z2 : z = dx
        · simp [exH, upd, z1, z2]
        · by_cases z3 : z = t1
          · simp [exH, upd, z1, z2, z3]
          · simp [exH, upd, z1, z2, z3]
    rw [e1]
    exact h _ dx t1 hn nd n1 (Ne.symm a2) (Ne.symm a1) (Ne.symm ne)
  refine wpAny_call (callx_own BX.F (fun Y => PySem.W.excTail_contains Y bm hbm) (I.kIn _ _ hC) (PySem.W.looks_findIn I.kIn M.iC) (fun self => PySem.W.bind_fn I.kIn self M.tI) hz
    (codeAny_mono (M.ok.run _ X.stack _ _ ⟨.ref (hp.objs.size + 1) :: us, kw⟩ [.ref (hp.objs.size + 1), u] _ _ (WE W σ) (hr.make C us kw) (I2.env0.make C us kw) (hb _ _ I2.kIn) (.cons (show RelV (V.ref _) (Value.ref _) from rfl) (.cons ry .nil)) hsp) fun r s' hq => ?_))
  match r, hq with
    | .error er, hq => exact passAt tk σ pins _ _ er s' I2 hq
    | .ok (.ret v), hq =>
      obtain ⟨w', H', J, rv, ew, q⟩ := I2.after hq
      subst ew
      exact ⟨rv, .ref (hp.objs.size + 1), H', J, rfl, q⟩
    | .ok .next, hq => exact hq.elim
    | .ok .brk, hq => exact hq.elim
    | .ok .cont, hq => exact hq.elim
theorem exH_rep {K : PySem.W.Frag} {G : Hp} {a C dx t1 : Addr} {v : V} {d : D} (hG : G = exH H a C dx t1 f m v) (n1 : a ≠ dx) (n2 : a ≠ t1) (n3 : dx ≠ t1) (r : Rep K G v d) : Rep K G (.ref a) (.exc C f d m) := by
  refine .exc (t1 := t1) (dx := dx) (v := v) ?_ ?_ ?_ r
  · rw [hG]; exact upd_same
  · rw [hG, exH, upd_ne (Ne.symm n1)]; exact upd_same
  · rw [hG, exH, upd_ne (Ne.symm n2), upd_ne (Ne.symm n3)]; exact upd_same
/-- the exception laid and frozen -/
theorem made_post {K : PySem.W.Frag} {P : List Nat} {G H : Hp} {σ : L2.St} {ρ : Envr} {fps : Nat → Addr → Prop} {a C dx t1 : Addr} {v : V} {d : D} (ok : Ok K G H σ ρ fps) (r : Rep K G v d) (ha : H a = none) (hd : H dx = none) (ht : H t1 = none) (n1 : a ≠ dx) (n2 : a ≠ t1) (n3 : dx ≠ t1) :
    ∃ G', Post K P G H σ fps G' (exH H a C dx t1 f m v) σ ρ fps ∧ Rep K G' (.ref a) (.exc C f d m) := by
  have p1 := ok.newG (P := P) (o := .tup [.str m]) ht
  have p2 := p1.ok.newG (P := P) (p := dx) (o := exd dx [(f, v)]) (by rw [upd_ne n3]; exact hd)
  have p3 := p2.ok.newG (P := P) (p := a) (o := exT a C dx t1) (by rw [upd_ne n1, upd_ne n2]; exact ha)
  have pp := (p1.trans p2).trans p3
  exact ⟨_, pp, exH_rep rfl n1 n2 n3 (r.mono pp.frm.ex)⟩
def fMk (C : Addr) (f m : Str) (fe : FE) : FE := fun ρ => rb (fe ρ) fun d ρ1 => some (.ok (.exc C f d m) ρ1)
def tMkV (C : Addr) (f m : Str) (te : TE) : TE := fun σ H Q => te σ H fun v H1 => ∀ a dx t1, H1 a = none → H1 dx = none → H1 t1 = none → a ≠ dx → a ≠ t1 → dx ≠ t1 → Q (.ref a) (exH H1 a C dx t1 f m v)
theorem de_mk {K : PySem.W.Frag} (h : DE K cm W te fe) : DE K cm W (tMkV C f m te) (fMk C f m fe) := by
  intro G H σ ρ fps ok r e Q q
  refine de_bind (P := []) h ok e (fun d ρ1 e1 v G1 H1 fps1 p g => ?_) fun k f d ρ' e1 => by rw [e1] at q; exact q
  cases e1
  intro a dx t1 ha hd ht n1 n2 n3
  obtain ⟨G2, p2, r2⟩ := made_post (P := []) p.ok g ha hd ht n1 n2 n3
  exact q _ G2 _ fps1 (p.trans p2) r2
theorem one_le : ([Value.none] : List Value).length ≤ sizeLine := by rw [sizeLine_eq]; decide
/-- C(e) -/
theorem dx_mk1 (M : MkX X C fI k fd f m pn newId bmB) (hr : Room (k + 1) X.A) (tk : Takes X W) (hm : X.mg x = some (.ref C)) (hb : ∀ (s' : Shared) (a : Addr) (u : Value), X.K.In s'.heap → BindsTo s' fd ⟨[.ref a, u], []⟩ [("self", .ref a), (pn, u)]) (h : Dx X cm W e te fe)
    (hg : Gl X x := by rfl) (hdb : (x == ("__debug__" : Str)) = false := by decide) (he : starEach [e] X.env = (false, eval e X.env) :: starEach [] X.env := by rfl) (hpl : (backTo pos (starEach [] X.env)).any (·.1) = false := by rfl) :
    Dx X cm W (.Call (.Name x p) [e] [] pos) (tMkV C f m te) (fMk C f m fe) := ⟨⟨fun pins s σ H Q I w => by
  refine wpAny_Call_Name_kw (ld_glob I hg hm ?_ hdb)
  refine PySem.W.callWith_K (h₀ := X.base) I.ok.mod.kin M.xc.kp (PyProof.Rows.args_cons (thn (h.pe.run pins s σ H _ I w) fun u s1 ⟨y, H1, I1, r1, q1⟩ => PyProof.Rows.args_nil ⟨I1.kIn, ?_⟩) he) he hpl
  exact run_cls M hr tk I1 (by rw [sizeLine_eq]; simp) r1 (fun s' a hk => hb s' a u hk) q1⟩, de_mk h.de⟩
/-- C(f = e) -/
theorem dx_mkK {nm : Str} (M : MkX X C fI k fd f m pn newId bmB) (hr : Room (k + 1) X.A) (tk : Takes X W) (hm : X.mg x = some (.ref C)) (hb : ∀ (s' : Shared) (a : Addr) (u : Value), X.K.In s'.heap → BindsTo s' fd ⟨[.ref a], [(nm, u)]⟩ [("self", .ref a), (pn, u)]) (h : Dx X cm W e te fe)
    (hg : Gl X x := by rfl) (hdb : (x == ("__debug__" : Str)) = false := by decide) (hall : (backToKw pos (keywordEach [⟨some nm, e, kpos⟩] X.env)).all (·.1.isSome) = true := by rfl) (hks : (backToKw pos (keywordEach [⟨some nm, e, kpos⟩] X.env)).filterMap (·.1) = [nm] := by rfl)
    (hpl : ((backTo pos (starEach [] X.env)).any (·.1) || (backToKw pos (keywordEach [⟨some nm, e, kpos⟩] X.env)).any (·.1.isNone)) = false := by rfl) :
    Dx X cm W (.Call (.Name x p) [] [⟨some nm, e, kpos⟩] pos) (tMkV C f m te) (fMk C f m fe) := ⟨⟨fun pins s σ H Q I w => by
  refine wpAny_Call_Name_kw (ld_glob I hg hm (PySem.W.callWith_KW0 (h₀ := X.base) I.ok.mod.kin M.xc.kp hall (thn ((pk_cons (nm := some nm) (kpos := kpos) h.pe pk_nil).run pos pins s σ H (fun vs H1 => match vs with
    | [v] => ∀ a dx t1, H1 a = none → H1 dx = none → H1 t1 = none → a ≠ dx → a ≠ t1 → dx ≠ t1 → Q (.ref a) (exH H1 a C dx t1 f m v)
    | _ => False) I w) fun us s1 ⟨vs, H1, I1, r, q⟩ => ⟨I1.kIn, ?_⟩) hpl) hdb)
  match vs, r, q with
  | [y], r, q =>
    cases r with
    | cons ry rr =>
      cases rr
      rw [hks]
      exact run_cls M hr tk I1 (by rw [sizeLine_eq]; simp) ry (fun s' a hk => hb s' a _ hk) q⟩, de_mk h.de⟩
end
end LD

end
section
set_option Elab.async false
set_option linter.all false
set_option maxRecDepth 100000
set_option maxHeartbeats 4000000
namespace LD
open PySem PySem.Spec PyProof.Rows L2 PySem.HandSPX

section
variable {X : Cx} {cm : Str → Addr} {W : WX} {K : PySem.W.Frag} {C fI : Addr} {k : Nat} {fd : FuncData} {f m x pn : Str} {newId : String} {bmB : List Value} {p pos kpos : Pos} {e ke : Expr} {te : TE} {fe : FE} {ad : Str → Addr} {names : List Str}
/-- C() -/
theorem dx_mk0 (M : MkX X C fI k fd f m pn newId bmB) (hr : Room (k + 1) X.A) (tk : Takes X W) (hm : X.mg x = some (.ref C)) (hb : ∀ (s' : Shared) (a : Addr), X.K.In s'.heap → BindsTo s' fd ⟨[.ref a], []⟩ [("self", .ref a), (pn, .none)])
    (hg : Gl X x := by rfl) (hdb : (x == ("__debug__" : Str)) = false := by decide) : Dx X cm W (.Call (.Name x p) [] [] pos) (tMkV C f m (tC .non)) (fMk C f m (fC .non)) := ⟨⟨fun pins s σ H Q I w => by
  refine wpAny_Call_Name_kw (ld_glob I hg hm (PySem.W.callWith_K0 I.kIn M.xc.kp ?_) hdb)
  exact run_cls (us := []) (kw := []) (u := .none) (y := .non) M hr tk I (by rw [sizeLine_eq]; simp) rfl (fun s' a hk => hb s' a hk) w⟩, de_mk (de_C fun _ => .non)⟩
/-- the classes known by name -/
def whoX (ad : Str → Addr) (names : List Str) (C : Addr) : Option Str := names.find? fun c => decide (ad c = C)
theorem whoX_ok {c : Str} (h : whoX ad names C = some c) : c ∈ names ∧ ad c = C := ⟨List.mem_of_find?_eq_some h, by simpa using List.find?_some h⟩
/-- an exception that is looked at where it lies -/
theorem exc_at {pins : List (Addr × Obj)} {σ : L2.St} {H : Hp} {s : Shared} {a dx t1 : Addr} {v : V} (I : Inv X pins σ H s) (ha : H a = some (exT a C dx t1)) (hd : H dx = some (exd dx [(f, v)])) :
    ∃ ox od u, PySem.W.InstAt s.heap a ox C (some od) ∧ s.heap.get? a = some ox ∧ ox.cls = .ref C ∧ (∃ vs, ox.data = .fields vs ∧ vs[0]? = some (.ref t1)) ∧ PySem.W.lookIn f od = some (some u) ∧ RelV v u := by
  have ho := exT_at I.hok ha
  obtain ⟨mA, hns, hr⟩ := exd_at I.hok hd
  obtain ⟨od, hod, hl⟩ := lookIn_ns hns
  obtain ⟨u, hu, ru⟩ := RelO.some_of (v := v) (o := mA f) (by have := hr f; rw [lookup_put, if_pos rfl] at this; exact this)
  exact ⟨_, od, u, ⟨ho, rfl, rfl, hod⟩, ho, rfl, ⟨_, rfl, rfl⟩, by rw [hl, hu], ru⟩
/-! isinstance(e, c) -/
def rIsX (X : Cx) (c : V) (cv : Value) : V → Hp → VK → Prop := fun x H Q => ∃ (a C dx t1 : Addr) (f : Str) (v : V) (b : Bool), x = .ref a ∧ H a = some (exT a C dx t1) ∧ H dx = some (exd dx [(f, v)]) ∧ (∃ bmB newId g, XC X.K C bmB newId g) ∧ PySem.W.kitOne X.K (.ref C) cv = some b ∧ Q (.bl b) H
def isX (ad : Str → Addr) (names : List Str) (kind : Str → Bool) : D → Option OV
  | .exc C _ _ _ => (whoX ad names C).map fun c => .fz (.bl (kind c))
  | _ => none
theorem call_isX {c : V} {cv : Value} (hcv : ∀ u, RelV c u → u = cv) : CallR X (.builtin "isinstance") (fun xs H Q => ∃ x, xs = [x, c] ∧ rIsX X c cv x H Q) := by
  intro pins s σ H xs us Q I r h
  obtain ⟨x, ev, a, C, dx, t1, f, v, b, ex, ha, hd, ⟨bmB, newId, g, T⟩, e, q⟩ := h
  subst ev; subst ex
  cases r with
  | cons rx rr =>
    cases rr with
    | cons rt rr =>
      cases rr
      cases rx
      have ec := hcv _ rt
      subst ec
      obtain ⟨ox, od, u, J, _⟩ := exc_at I ha hd
      have hcl : (PySem.W.clsIn X.K C).isSome = true := by
        obtain ⟨cd, hc, _⟩ := PySem.W.any_some T.hd
        rw [hc]; rfl
      exact PySem.W.kia_one (PySem.W.kitx_exc hcl T.ga T.gg T.exC T.cl T.hn T.ht T.hm) I.kIn J e (fun z => nomatch z) fun tk => ⟨.bl b, H, I.kept (t' := tk) fun _ _ z => z, rfl, q⟩
theorem dx_isX {c : V} {cv : Value} {kind : Str → Bool} (hi : X.mg "isinstance" = none) (h : Dx X cm W e te fe) (hk : PE X ke (tC c)) (hcv : ∀ u, RelV c u → u = cv) (hn : ∀ n ∈ names, (∃ bmB newId g, XC X.K (ad n) bmB newId g) ∧ PySem.W.kitOne X.K (.ref (ad n)) cv = some (kind n)) (hgi : Gl X "isinstance" := by rfl)
    (hs1 : starEach [e, ke] X.env = (false, eval e X.env) :: starEach [ke] X.env := by rfl) (hs2 : starEach [ke] X.env = (false, eval ke X.env) :: starEach [] X.env := by rfl) (hpl : (backTo pos (starEach [ke] X.env)).any (·.1) = false := by rfl) :
    Dx X cm W (.Call (.Name "isinstance" p) [e, ke] [] pos) (tCB (fun xs H Q => ∃ x, xs = [x, c] ∧ rIsX X c cv x H Q) (tCons te (tCons (tC c) tNil))) (fE (f1 (isX ad names kind) fe)) := by
  refine ⟨pe_callB (call_isX hcv) hgi hi (by decide +kernel) (pa_cons h.pe (pa_cons hk pa_nil hs2) hs1) (by decide) (by decide) hs1 hpl, de_E ?_⟩
  intro G H σ ρ fps ok r e Q q
  refine de_bind (P := []) h.de ok e (fun d ρ1 e1 v G1 H1 fps1 pp g => ?_) fun k f d ρ' e1 => by rw [e1] at q; exact q
  cases g <;> first | (cases e1; done) | skip
  rename_i a C dx t1 f m v d g1 g2 g3 g4
  have e1 : ((whoX ad names C).map fun c => OV.fz (.bl (kind c))).map (R.ok · ρ1) = some r := e1
  cases hw : whoX ad names C with
  | none => rw [hw] at e1; cases e1
  | some n =>
    rw [hw] at e1
    cases e1
    obtain ⟨hmem, rfl⟩ := whoX_ok hw
    obtain ⟨hx, hkit⟩ := hn n hmem
    refine ⟨_, rfl, a, ad n, dx, t1, f, v, kind n, rfl, pp.ok.ex _ _ g1, pp.ok.ex _ _ g2, hx, hkit, ?_⟩
    exact q _ G1 H1 fps1 _ pp (.fz (.bl _)) fun _ z => z.elim
/-! e.f -/
def tXat (X : Cx) (n : Str) (te : TE) : TE := fun σ H Q => te σ H fun x H1 => ∃ (a C dx t1 : Addr) (v : V), x = .ref a ∧ H1 a = some (exT a C dx t1) ∧ H1 dx = some (exd dx [(n, v)]) ∧ (∃ bmB newId, XC X.K C bmB newId n) ∧ Q v H1
def fAttr (ad : Str → Addr) (names : List Str) (n : Str) (fe : FE) : FE := fun ρ => rb (fe ρ) fun d ρ1 => match d with
  | .exc C f d _ => if (whoX ad names C).isSome = true ∧ f = n then some (.ok d ρ1) else none
  | _ => none
theorem dx_attr {n : Str} (h : Dx X cm W e te fe) (hn : ∀ c ∈ names, ∃ bmB newId, XC X.K (ad c) bmB newId n) (hb : attributeBase e n X.env (eval e X.env) = eval e X.env := by rfl) : Dx X cm W (.Attribute e n pos) (tXat X n te) (fAttr ad names n fe) := by
  refine ⟨⟨fun pins s σ H Q I w => ?_⟩, fun G H σ ρ fps ok r e Q q => ?_⟩
  · refine attr_of hb (thn (h.pe.run pins s σ H _ I w) fun u s1 ⟨x, H1, I1, rx, a, C, dx, t1, v, ex, ha, hd, ⟨bmB, newId, T⟩, q⟩ => ?_)
    subst ex
    obtain rfl : u = Value.ref a := rx
    obtain ⟨ox, od, u, J, _, _, _, hl, ru⟩ := exc_at I1 ha hd
    exact HandSPX.exc_get I1.kIn J T.ga T.gg T.exC (PySem.W.findObj_own T.hd T.no rfl hl) (handed_of ru) ⟨v, H1, I1.tok _, ru, q⟩
  · refine de_bind (P := []) h.de ok e (fun d ρ1 e1 v G1 H1 fps1 pp g => ?_) fun k f d ρ' e1 => by rw [e1] at q; exact q
    cases g <;> first | (cases e1; done) | skip
    rename_i a C dx t1 f m v d g1 g2 g3 g4
    have e1 : (if (whoX ad names C).isSome = true ∧ f = n then some (R.ok d ρ1) else none) = some r := e1
    split at e1
    · rename_i c
      cases e1
      obtain ⟨c1, rfl⟩ := c
      obtain ⟨nm, hw⟩ := Option.isSome_iff_exists.mp c1
      obtain ⟨hmem, rfl⟩ := whoX_ok hw
      exact ⟨a, _, dx, t1, v, rfl, pp.ok.ex _ _ g1, pp.ok.ex _ _ g2, hn nm hmem, q v G1 H1 fps1 pp g4⟩
    · cases e1
/-! str(e) -/
def strX (ad : Str → Addr) (names : List Str) : D → Option OV
  | .exc C _ _ m => if (whoX ad names C).isSome = true then some (.fz (.str m)) else none
  | _ => none
def rStrX (X : Cx) : List V → Hp → VK → Prop := fun xs H Q => ∃ (a C dx t1 : Addr) (m : Str), xs = [.ref a] ∧ H a = some (exT a C dx t1) ∧ H t1 = some (.tup [.str m]) ∧ (∃ bmB newId g, XC X.K C bmB newId g) ∧ Q (.str m) H
theorem call_strX (hu : X.A.units + 2 < cLine) : CallR X (.type "str") (rStrX X) := by
  intro pins s σ H xs us Q I r h
  obtain ⟨a, C, dx, t1, m, ev, ha, ht, ⟨bmB, newId, g, T⟩, q⟩ := h
  subst ev
  obtain ⟨u, rfl, rx⟩ := vals1 r
  obtain rfl : u = Value.ref a := rx
  have ho := exT_at I.hok ha
  obtain ⟨z, its, rv, pt⟩ := I.hok t1 _ ht
  cases rv with
  | cons r1 rr =>
    cases rr
    obtain ⟨tk, rfl⟩ := r1
    obtain ⟨ot, hot, hct, n, hdt⟩ := pt
    exact PySem.P.str_of_C_one hu ⟨I.kIn, _, _, ho, rfl, rfl, rfl⟩ ⟨ot, n, hot, hct, by simpa using hdt⟩ T.st T.exC ⟨.str m, H, I, ⟨_, rfl⟩, q⟩
theorem opN_strX (hn : ∀ c ∈ names, ∃ bmB newId g, XC X.K (ad c) bmB newId g) : OpN X.K (rStrX X) (N1 (strX ad names)) := by
  intro G H xs ds o ex r h Q k
  cases r with
  | nil => cases h
  | cons r rr =>
    cases rr with
    | cons _ _ => cases h
    | nil =>
      rename_i v d
      have h : strX ad names d = some o := h
      have key : ∀ d', d = d' → strX ad names d' = some o → rStrX X [v] H Q := fun d' ed h => by
       cases d' <;> first | (cases h; done) | skip
       rename_i C f d1 m
       subst ed
       cases r with
       | @exc a _ dx t1 _ _ v _ g1 g2 g3 g4 =>
       have h : (if (whoX ad names C).isSome = true then some (OV.fz (.str m)) else none) = some o := h
       split at h
       · rename_i c
         cases h
         obtain ⟨nm, hw⟩ := Option.isSome_iff_exists.mp c
         obtain ⟨hmem, rfl⟩ := whoX_ok hw
         exact ⟨a, _, dx, t1, m, rfl, ex _ _ g1, ex _ _ g3, hn nm hmem, op_fz ex (.str _) k⟩
       · cases h
      exact key d rfl h
end
end LD

end
section
set_option Elab.async false
set_option linter.all false
set_option maxRecDepth 100000
set_option maxHeartbeats 4000000
namespace LD
open PySem PySem.Spec PyProof.Rows L2 PySem.HandSPX

section
variable {K : PySem.W.Frag} {x qual : Str} {params : Arguments} {body : List Stmt} {scope : Scope} {kws : List (Str × V)} {f : Addr} {fd : FuncData} {s : Shared} {args : Args} {bs : List (Str × Value)}
/-- a call of a def whose one default is None -/
theorem binds_d (F : FunD K x qual params body scope [.non] kws f fd) (h : ∀ (T : Addr) (kV doc pm : Value) (an : Option Addr) (cdv ct : Value), ∃ k, bindArgs (PySem.W.fnOf x qual params body scope (.ref T) kV doc pm an cdv ct) args = seqItems? (.ref T) >>= k ∧ k (some #[.none]) = pure bs) (X : K.In s.heap) : BindsTo s fd args bs := by
  obtain ⟨oc, od, dV, kV, doc, pm, an, cdv, ct, osl, rfl, lk, hcd, hD, hK⟩ := F.ex
  rcases hD with ⟨e, _⟩ | ⟨_, T, o, its, m, rfl, lT, oT, rT⟩
  · cases e
  · cases rT with
    | cons r1 rr =>
      cases rr
      cases r1
      obtain ⟨k, e1, e2⟩ := h T kV doc pm an cdv ct
      refine BindsTo.of_looks fun M => ?_
      rw [e1]
      exact looks_items X lT oT (.of_pure e2)
theorem binds_n (F : FunD K x qual params body scope [] kws f fd) (h : ∀ (kV doc pm : Value) (an : Option Addr) (cdv ct : Value), bindArgs (PySem.W.fnOf x qual params body scope .none kV doc pm an cdv ct) args = pure bs) : BindsTo s fd args bs := by
  obtain ⟨oc, od, dV, kV, doc, pm, an, cdv, ct, osl, rfl, lk, hcd, hD, hK⟩ := F.ex
  rcases hD with ⟨_, rfl⟩ | ⟨e, _⟩
  · exact .of_eq (h kV doc pm an cdv ct)
  · exact absurd rfl e
end
theorem hu2 {k : Nat} {A : Around} (hr : Rm k A) : A.units + 2 < cLine := by have := hr.1.units; omega
theorem hu66 {k : Nat} {A : Around} (hr : Rm k A) : A.units + 66 < cLine := by have := hr.1.un; omega
theorem dx_globR {X : Cx} {x : Str} {C : Addr} {pos : Pos} (hm : X.mg x = some (.ref C)) (hg : Gl X x := by rfl) (hd : (x == ("__debug__" : Str)) = false := by decide) : PE X (.Name x pos) (tC (.ref C)) := pe_glob hg hm rfl hd
theorem ty_OverflowError : typeOf (.type "OverflowError") = pure (.type "type") := by kernel_rfl
theorem ty_LookupError : typeOf (.type "LookupError") = pure (.type "type") := by kernel_rfl
theorem ty_ValueError : typeOf (.type "ValueError") = pure (.type "type") := by kernel_rfl
end LD

end
section
set_option Elab.async false
set_option linter.all false
set_option maxRecDepth 100000
set_option maxHeartbeats 4000000
namespace Wk
open PySem PySem.Spec PyProof.Rows L2 LD PySem.HandSPX
def top (i : Nat) : Stmt := PySem.Challenge.pw_allslopes_k99_errors_by_hand.main.body.getD i (.Pass ⟨0, 0, 0, 0⟩)
abbrev s__law_mixed : Stmt := top 24
abbrev s__law_draw : Stmt := top 25
abbrev s__law_digit : Stmt := top 26
abbrev s__law_kinds : Stmt := top 27
abbrev s__law_valued : Stmt := top 28
abbrev s__law_placed : Stmt := top 29
abbrev s__law_right : Stmt := top 30
abbrev s_law : Stmt := top 31
abbrev i_BadNumber : Stmt := inClass (top 2) 0
abbrev i_BadName : Stmt := inClass (top 3) 0
abbrev i_BadFraction : Stmt := inClass (top 4) 0
abbrev i_BadExpression : Stmt := inClass (top 5) 0
abbrev i_BadProgram : Stmt := inClass (top 6) 0
abbrev i_BadTape : Stmt := inClass (top 7) 0
abbrev i_BadPoint : Stmt := inClass (top 8) 0
abbrev i_BadText : Stmt := inClass (top 9) 0
abbrev i_BadPaper : Stmt := inClass (top 10) 0
abbrev i_BadLinear : Stmt := inClass (top 11) 0
abbrev i_BadRule : Stmt := inClass (top 12) 0
abbrev i_BadChain : Stmt := inClass (top 13) 0
abbrev i_BadSchedule : Stmt := inClass (top 14) 0
abbrev i_BadCode : Stmt := inClass (top 15) 0
abbrev i_BadPattern : Stmt := inClass (top 16) 0
abbrev i_BadGroups : Stmt := inClass (top 17) 0
abbrev i_BadStart : Stmt := inClass (top 18) 0
abbrev i_BadMap : Stmt := inClass (top 19) 0
abbrev i_BadDeed : Stmt := inClass (top 20) 0
abbrev i_TooMany : Stmt := inClass (top 21) 0
abbrev i_NoSuch : Stmt := inClass (top 22) 0
abbrev XN : List Str := ["BadNumber", "BadName", "BadFraction", "BadExpression", "BadProgram", "BadTape", "BadPoint", "BadText", "BadPaper", "BadLinear", "BadRule", "BadChain", "BadSchedule", "BadCode", "BadPattern", "BadGroups", "BadStart", "BadMap", "BadDeed", "TooMany", "NoSuch"]
abbrev N_value : List Str := ["BadNumber", "BadName", "BadFraction", "NoSuch"]
abbrev N_place : List Str := ["BadExpression", "BadProgram", "BadTape", "BadPoint", "BadText", "BadPaper", "BadLinear", "BadRule", "BadChain", "BadSchedule", "BadCode", "BadPattern", "BadGroups", "BadStart", "BadMap", "BadDeed"]
abbrev N_most : List Str := ["TooMany"]
def kd (k : Str) : Str → Bool := fun c => (match ([("BadChain", ["BadChain"]), ("BadCode", ["BadCode"]), ("BadDeed", ["BadDeed"]), ("BadExpression", ["BadExpression"]), ("BadFraction", ["BadFraction"]), ("BadGroups", ["BadGroups"]), ("BadLinear", ["BadLinear"]), ("BadMap", ["BadMap"]), ("BadName", ["BadName"]), ("BadNumber", ["BadNumber"]), ("BadPaper", ["BadPaper"]), ("BadPattern", ["BadPattern"]), ("BadPoint", ["BadPoint"]), ("BadProgram", ["BadProgram"]), ("BadRule", ["BadRule"]), ("BadSchedule", ["BadSchedule"]), ("BadStart", ["BadStart"]), ("BadTape", ["BadTape"]), ("BadText", ["BadText"]), ("LookupError", ["NoSuch"]), ("NoSuch", ["NoSuch"]), ("OverflowError", ["TooMany"]), ("SlopeError", ["BadNumber", "BadName", "BadFraction", "BadExpression", "BadProgram", "BadTape", "BadPoint", "BadText", "BadPaper", "BadLinear", "BadRule", "BadChain", "BadSchedule", "BadCode", "BadPattern", "BadGroups", "BadStart", "BadMap", "BadDeed"]), ("TooMany", ["TooMany"]), ("ValueError", ["BadNumber", "BadName", "BadFraction", "BadExpression", "BadProgram", "BadTape", "BadPoint", "BadText", "BadPaper", "BadLinear", "BadRule", "BadChain", "BadSchedule", "BadCode", "BadPattern", "BadGroups", "BadStart", "BadMap", "BadDeed"])] : List (Str × List Str)).lookup k with | some cs => cs.contains c | none => false)
/-- what the top has written -/
structure Txt (w : World) (K : PySem.W.Frag) (mg : Str → Option Value) (cm : Str → Addr) (ad ai : Str → Addr) (fds fdi : Str → FuncData) : Prop where
  b_LookupError : mg "LookupError" = none
  b_OverflowError : mg "OverflowError" = none
  b_ValueError : mg "ValueError" = none
  b_enumerate : mg "enumerate" = none
  b_isinstance : mg "isinstance" = none
  b_range : mg "range" = none
  b_str : mg "str" = none
  b_sum : mg "sum" = none
  g__law_mixed : mg "_law_mixed" = some (.ref (ad "_law_mixed"))
  g__law_draw : mg "_law_draw" = some (.ref (ad "_law_draw"))
  g__law_digit : mg "_law_digit" = some (.ref (ad "_law_digit"))
  g__law_kinds : mg "_law_kinds" = some (.ref (ad "_law_kinds"))
  g__law_valued : mg "_law_valued" = some (.ref (ad "_law_valued"))
  g__law_placed : mg "_law_placed" = some (.ref (ad "_law_placed"))
  g__law_right : mg "_law_right" = some (.ref (ad "_law_right"))
  g_law : mg "law" = some (.ref (ad "law"))
  g_SlopeError : mg "SlopeError" = some (.ref (ad "SlopeError"))
  g_BadNumber : mg "BadNumber" = some (.ref (ad "BadNumber"))
  g_BadName : mg "BadName" = some (.ref (ad "BadName"))
  g_BadFraction : mg "BadFraction" = some (.ref (ad "BadFraction"))
  g_BadExpression : mg "BadExpression" = some (.ref (ad "BadExpression"))
  g_BadProgram : mg "BadProgram" = some (.ref (ad "BadProgram"))
  g_BadTape : mg "BadTape" = some (.ref (ad "BadTape"))
  g_BadPoint : mg "BadPoint" = some (.ref (ad "BadPoint"))
  g_BadText : mg "BadText" = some (.ref (ad "BadText"))
  g_BadPaper : mg "BadPaper" = some (.ref (ad "BadPaper"))
  g_BadLinear : mg "BadLinear" = some (.ref (ad "BadLinear"))
  g_BadRule : mg "BadRule" = some (.ref (ad "BadRule"))
  g_BadChain : mg "BadChain" = some (.ref (ad "BadChain"))
  g_BadSchedule : mg "BadSchedule" = some (.ref (ad "BadSchedule"))
  g_BadCode : mg "BadCode" = some (.ref (ad "BadCode"))
  g_BadPattern : mg "BadPattern" = some (.ref (ad "BadPattern"))
  g_BadGroups : mg "BadGroups" = some (.ref (ad "BadGroups"))
  g_BadStart : mg "BadStart" = some (.ref (ad "BadStart"))
  g_BadMap : mg "BadMap" = some (.ref (ad "BadMap"))
  g_BadDeed : mg "BadDeed" = some (.ref (ad "BadDeed"))
  g_TooMany : mg "TooMany" = some (.ref (ad "TooMany"))
  g_NoSuch : mg "NoSuch" = some (.ref (ad "NoSuch"))
  F__law_mixed : FunD K "_law_mixed" "_law_mixed" (defArgs s__law_mixed) (defBody s__law_mixed) (defScope s__law_mixed) [] [] (ad "_law_mixed") (fds "_law_mixed")
  F__law_draw : FunD K "_law_draw" "_law_draw" (defArgs s__law_draw) (defBody s__law_draw) (defScope s__law_draw) [] [] (ad "_law_draw") (fds "_law_draw")
  F__law_digit : FunD K "_law_digit" "_law_digit" (defArgs s__law_digit) (defBody s__law_digit) (defScope s__law_digit) [] [] (ad "_law_digit") (fds "_law_digit")
  F__law_kinds : FunD K "_law_kinds" "_law_kinds" (defArgs s__law_kinds) (defBody s__law_kinds) (defScope s__law_kinds) [] [] (ad "_law_kinds") (fds "_law_kinds")
  F__law_valued : FunD K "_law_valued" "_law_valued" (defArgs s__law_valued) (defBody s__law_valued) (defScope s__law_valued) [] [] (ad "_law_valued") (fds "_law_valued")
  F__law_placed : FunD K "_law_placed" "_law_placed" (defArgs s__law_placed) (defBody s__law_placed) (defScope s__law_placed) [] [] (ad "_law_placed") (fds "_law_placed")
  F__law_right : FunD K "_law_right" "_law_right" (defArgs s__law_right) (defBody s__law_right) (defScope s__law_right) [] [] (ad "_law_right") (fds "_law_right")
  F_law : FunD K "law" "law" (defArgs s_law) (defBody s_law) (defScope s_law) [] [] (ad "law") (fds "law")
  x_BadNumber : XC K (ad "BadNumber") [.type "ValueError", .type "Exception", .type "BaseException", .type "object"] "ValueError.__new__" "value"
  ii_BadNumber : PySem.W.findIn K (.ref (ad "BadNumber")) "__init__" = some (some (.ref (ai "BadNumber")))
  it_BadNumber : PySem.W.typeIn K (.ref (ai "BadNumber")) = some (.type "function")
  I_BadNumber : FunD K "__init__" "BadNumber.__init__" (defArgs i_BadNumber) (defBody i_BadNumber) (defScope i_BadNumber) [.non] [] (ai "BadNumber") (fdi "BadNumber")
  x_BadName : XC K (ad "BadName") [.type "ValueError", .type "Exception", .type "BaseException", .type "object"] "ValueError.__new__" "value"
  ii_BadName : PySem.W.findIn K (.ref (ad "BadName")) "__init__" = some (some (.ref (ai "BadName")))
  it_BadName : PySem.W.typeIn K (.ref (ai "BadName")) = some (.type "function")
  I_BadName : FunD K "__init__" "BadName.__init__" (defArgs i_BadName) (defBody i_BadName) (defScope i_BadName) [.non] [] (ai "BadName") (fdi "BadName")
  x_BadFraction : XC K (ad "BadFraction") [.type "ValueError", .type "Exception", .type "BaseException", .type "object"] "ValueError.__new__" "value"
  ii_BadFraction : PySem.W.findIn K (.ref (ad "BadFraction")) "__init__" = some (some (.ref (ai "BadFraction")))
  it_BadFraction : PySem.W.typeIn K (.ref (ai "BadFraction")) = some (.type "function")
  I_BadFraction : FunD K "__init__" "BadFraction.__init__" (defArgs i_BadFraction) (defBody i_BadFraction) (defScope i_BadFraction) [.non] [] (ai "BadFraction") (fdi "BadFraction")
  x_BadExpression : XC K (ad "BadExpression") [.type "ValueError", .type "Exception", .type "BaseException", .type "object"] "ValueError.__new__" "place"
  ii_BadExpression : PySem.W.findIn K (.ref (ad "BadExpression")) "__init__" = some (some (.ref (ai "BadExpression")))
  it_BadExpression : PySem.W.typeIn K (.ref (ai "BadExpression")) = some (.type "function")
  I_BadExpression : FunD K "__init__" "BadExpression.__init__" (defArgs i_BadExpression) (defBody i_BadExpression) (defScope i_BadExpression) [.non] [] (ai "BadExpression") (fdi "BadExpression")
  x_BadProgram : XC K (ad "BadProgram") [.type "ValueError", .type "Exception", .type "BaseException", .type "object"] "ValueError.__new__" "place"
  ii_BadProgram : PySem.W.findIn K (.ref (ad "BadProgram")) "__init__" = some (some (.ref (ai "BadProgram")))
  it_BadProgram : PySem.W.typeIn K (.ref (ai "BadProgram")) = some (.type "function")
  I_BadProgram : FunD K "__init__" "BadProgram.__init__" (defArgs i_BadProgram) (defBody i_BadProgram) (defScope i_BadProgram) [.non] [] (ai "BadProgram") (fdi "BadProgram")
  x_BadTape : XC K (ad "BadTape") [.type "ValueError", .type "Exception", .type "BaseException", .type "object"] "ValueError.__new__" "place"
  ii_BadTape : PySem.W.findIn K (.ref (ad "BadTape")) "__init__" = some (some (.ref (ai "BadTape")))
  it_BadTape : PySem.W.typeIn K (.ref (ai "BadTape")) = some (.type "function")
  I_BadTape : FunD K "__init__" "BadTape.__init__" (defArgs i_BadTape) (defBody i_BadTape) (defScope i_BadTape) [.non] [] (ai "BadTape") (fdi "BadTape")
  x_BadPoint : XC K (ad "BadPoint") [.type "ValueError", .type "Exception", .type "BaseException", .type "object"] "ValueError.__new__" "place"
  ii_BadPoint : PySem.W.findIn K (.ref (ad "BadPoint")) "__init__" = some (some (.ref (ai "BadPoint")))
  it_BadPoint : PySem.W.typeIn K (.ref (ai "BadPoint")) = some (.type "function")
  I_BadPoint : FunD K "__init__" "BadPoint.__init__" (defArgs i_BadPoint) (defBody i_BadPoint) (defScope i_BadPoint) [.non] [] (ai "BadPoint") (fdi "BadPoint")
  x_BadText : XC K (ad "BadText") [.type "ValueError", .type "Exception", .type "BaseException", .type "object"] "ValueError.__new__" "place"
  ii_BadText : PySem.W.findIn K (.ref (ad "BadText")) "__init__" = some (some (.ref (ai "BadText")))
  it_BadText : PySem.W.typeIn K (.ref (ai "BadText")) = some (.type "function")
  I_BadText : FunD K "__init__" "BadText.__init__" (defArgs i_BadText) (defBody i_BadText) (defScope i_BadText) [.non] [] (ai "BadText") (fdi "BadText")
  x_BadPaper : XC K (ad "BadPaper") [.type "ValueError", .type "Exception", .type "BaseException", .type "object"] "ValueError.__new__" "place"
  ii_BadPaper : PySem.W.findIn K (.ref (ad "BadPaper")) "__init__" = some (some (.ref (ai "BadPaper")))
  it_BadPaper : PySem.W.typeIn K (.ref (ai "BadPaper")) = some (.type "function")
  I_BadPaper : FunD K "__init__" "BadPaper.__init__" (defArgs i_BadPaper) (defBody i_BadPaper) (defScope i_BadPaper) [.non] [] (ai "BadPaper") (fdi "BadPaper")
  x_BadLinear : XC K (ad "BadLinear") [.type "ValueError", .type "Exception", .type "BaseException", .type "object"] "ValueError.__new__" "place"
  ii_BadLinear : PySem.W.findIn K (.ref (ad "BadLinear")) "__init__" = some (some (.ref (ai "BadLinear")))
  it_BadLinear : PySem.W.typeIn K (.ref (ai "BadLinear")) = some (.type "function")
  I_BadLinear : FunD K "__init__" "BadLinear.__init__" (defArgs i_BadLinear) (defBody i_BadLinear) (defScope i_BadLinear) [.non] [] (ai "BadLinear") (fdi "BadLinear")
  x_BadRule : XC K (ad "BadRule") [.type "ValueError", .type "Exception", .type "BaseException", .type "object"] "ValueError.__new__" "place"
  ii_BadRule : PySem.W.findIn K (.ref (ad "BadRule")) "__init__" = some (some (.ref (ai "BadRule")))
  it_BadRule : PySem.W.typeIn K (.ref (ai "BadRule")) = some (.type "function")
  I_BadRule : FunD K "__init__" "BadRule.__init__" (defArgs i_BadRule) (defBody i_BadRule) (defScope i_BadRule) [.non] [] (ai "BadRule") (fdi "BadRule")
  x_BadChain : XC K (ad "BadChain") [.type "ValueError", .type "Exception", .type "BaseException", .type "object"] "ValueError.__new__" "place"
  ii_BadChain : PySem.W.findIn K (.ref (ad "BadChain")) "__init__" = some (some (.ref (ai "BadChain")))
  it_BadChain : PySem.W.typeIn K (.ref (ai "BadChain")) = some (.type "function")
  I_BadChain : FunD K "__init__" "BadChain.__init__" (defArgs i_BadChain) (defBody i_BadChain) (defScope i_BadChain) [.non] [] (ai "BadChain") (fdi "BadChain")
  x_BadSchedule : XC K (ad "BadSchedule") [.type "ValueError", .type "Exception", .type "BaseException", .type "object"] "ValueError.__new__" "place"
  ii_BadSchedule : PySem.W.findIn K (.ref (ad "BadSchedule")) "__init__" = some (some (.ref (ai "BadSchedule")))
  it_BadSchedule : PySem.W.typeIn K (.ref (ai "BadSchedule")) = some (.type "function")
  I_BadSchedule : FunD K "__init__" "BadSchedule.__init__" (defArgs i_BadSchedule) (defBody i_BadSchedule) (defScope i_BadSchedule) [.non] [] (ai "BadSchedule") (fdi "BadSchedule")
  x_BadCode : XC K (ad "BadCode") [.type "ValueError", .type "Exception", .type "BaseException", .type "object"] "ValueError.__new__" "place"
  ii_BadCode : PySem.W.findIn K (.ref (ad "BadCode")) "__init__" = some (some (.ref (ai "BadCode")))
  it_BadCode : PySem.W.typeIn K (.ref (ai "BadCode")) = some (.type "function")
  I_BadCode : FunD K "__init__" "BadCode.__init__" (defArgs i_BadCode) (defBody i_BadCode) (defScope i_BadCode) [.non] [] (ai "BadCode") (fdi "BadCode")
  x_BadPattern : XC K (ad "BadPattern") [.type "ValueError", .type "Exception", .type "BaseException", .type "object"] "ValueError.__new__" "place"
  ii_BadPattern : PySem.W.findIn K (.ref (ad "BadPattern")) "__init__" = some (some (.ref (ai "BadPattern")))
  it_BadPattern : PySem.W.typeIn K (.ref (ai "BadPattern")) = some (.type "function")
  I_BadPattern : FunD K "__init__" "BadPattern.__init__" (defArgs i_BadPattern) (defBody i_BadPattern) (defScope i_BadPattern) [.non] [] (ai "BadPattern") (fdi "BadPattern")
  x_BadGroups : XC K (ad "BadGroups") [.type "ValueError", .type "Exception", .type "BaseException", .type "object"] "ValueError.__new__" "place"
  ii_BadGroups : PySem.W.findIn K (.ref (ad "BadGroups")) "__init__" = some (some (.ref (ai "BadGroups")))
  it_BadGroups : PySem.W.typeIn K (.ref (ai "BadGroups")) = some (.type "function")
  I_BadGroups : FunD K "__init__" "BadGroups.__init__" (defArgs i_BadGroups) (defBody i_BadGroups) (defScope i_BadGroups) [.non] [] (ai "BadGroups") (fdi "BadGroups")
  x_BadStart : XC K (ad "BadStart") [.type "ValueError", .type "Exception", .type "BaseException", .type "object"] "ValueError.__new__" "place"
  ii_BadStart : PySem.W.findIn K (.ref (ad "BadStart")) "__init__" = some (some (.ref (ai "BadStart")))
  it_BadStart : PySem.W.typeIn K (.ref (ai "BadStart")) = some (.type "function")
  I_BadStart : FunD K "__init__" "BadStart.__init__" (defArgs i_BadStart) (defBody i_BadStart) (defScope i_BadStart) [.non] [] (ai "BadStart") (fdi "BadStart")
  x_BadMap : XC K (ad "BadMap") [.type "ValueError", .type "Exception", .type "BaseException", .type "object"] "ValueError.__new__" "place"
  ii_BadMap : PySem.W.findIn K (.ref (ad "BadMap")) "__init__" = some (some (.ref (ai "BadMap")))
  it_BadMap : PySem.W.typeIn K (.ref (ai "BadMap")) = some (.type "function")
  I_BadMap : FunD K "__init__" "BadMap.__init__" (defArgs i_BadMap) (defBody i_BadMap) (defScope i_BadMap) [.non] [] (ai "BadMap") (fdi "BadMap")
  x_BadDeed : XC K (ad "BadDeed") [.type "ValueError", .type "Exception", .type "BaseException", .type "object"] "ValueError.__new__" "place"
  ii_BadDeed : PySem.W.findIn K (.ref (ad "BadDeed")) "__init__" = some (some (.ref (ai "BadDeed")))
  it_BadDeed : PySem.W.typeIn K (.ref (ai "BadDeed")) = some (.type "function")
  I_BadDeed : FunD K "__init__" "BadDeed.__init__" (defArgs i_BadDeed) (defBody i_BadDeed) (defScope i_BadDeed) [.non] [] (ai "BadDeed") (fdi "BadDeed")
  x_TooMany : XC K (ad "TooMany") [.type "OverflowError", .type "ArithmeticError", .type "Exception", .type "BaseException", .type "object"] "OverflowError.__new__" "most"
  ii_TooMany : PySem.W.findIn K (.ref (ad "TooMany")) "__init__" = some (some (.ref (ai "TooMany")))
  it_TooMany : PySem.W.typeIn K (.ref (ai "TooMany")) = some (.type "function")
  I_TooMany : FunD K "__init__" "TooMany.__init__" (defArgs i_TooMany) (defBody i_TooMany) (defScope i_TooMany) [] [] (ai "TooMany") (fdi "TooMany")
  x_NoSuch : XC K (ad "NoSuch") [.type "LookupError", .type "Exception", .type "BaseException", .type "object"] "LookupError.__new__" "value"
  ii_NoSuch : PySem.W.findIn K (.ref (ad "NoSuch")) "__init__" = some (some (.ref (ai "NoSuch")))
  it_NoSuch : PySem.W.typeIn K (.ref (ai "NoSuch")) = some (.type "function")
  I_NoSuch : FunD K "__init__" "NoSuch.__init__" (defArgs i_NoSuch) (defBody i_NoSuch) (defScope i_NoSuch) [.non] [] (ai "NoSuch") (fdi "NoSuch")
  rd_SlopeError : PySem.W.readsIn K (ad "SlopeError") (.type "type") = true
  sg_SlopeError : PySem.W.specialIn K (.ref (ad "SlopeError")) "__getattribute__" = some (some (.builtin "type.__getattribute__"))
  fc_SlopeError : PySem.W.findCls K (.ref (ad "SlopeError")) (.type "type") "__init__" = some (.val (.builtin "ValueError.__init__"))
  fc_OverflowError : PySem.W.findCls K (.type "OverflowError") (.type "type") "__init__" = some (.val (.builtin "OverflowError.__init__"))
  fc_LookupError : PySem.W.findCls K (.type "LookupError") (.type "type") "__init__" = some (.val (.builtin "LookupError.__init__"))
  kt_BadChain : ∀ n ∈ XN, (∃ bmB newId g, XC K (ad n) bmB newId g) ∧ PySem.W.kitOne K (.ref (ad n)) (.ref (ad "BadChain")) = some (kd "BadChain" n)
  kt_BadCode : ∀ n ∈ XN, (∃ bmB newId g, XC K (ad n) bmB newId g) ∧ PySem.W.kitOne K (.ref (ad n)) (.ref (ad "BadCode")) = some (kd "BadCode" n)
  kt_BadDeed : ∀ n ∈ XN, (∃ bmB newId g, XC K (ad n) bmB newId g) ∧ PySem.W.kitOne K (.ref (ad n)) (.ref (ad "BadDeed")) = some (kd "BadDeed" n)
  kt_BadExpression : ∀ n ∈ XN, (∃ bmB newId g, XC K (ad n) bmB newId g) ∧ PySem.W.kitOne K (.ref (ad n)) (.ref (ad "BadExpression")) = some (kd "BadExpression" n)
  kt_BadFraction : ∀ n ∈ XN, (∃ bmB newId g, XC K (ad n) bmB newId g) ∧ PySem.W.kitOne K (.ref (ad n)) (.ref (ad "BadFraction")) = some (kd "BadFraction" n)
  kt_BadGroups : ∀ n ∈ XN, (∃ bmB newId g, XC K (ad n) bmB newId g) ∧ PySem.W.kitOne K (.ref (ad n)) (.ref (ad "BadGroups")) = some (kd "BadGroups" n)
  kt_BadLinear : ∀ n ∈ XN, (∃ bmB newId g, XC K (ad n) bmB newId g) ∧ PySem.W.kitOne K (.ref (ad n)) (.ref (ad "BadLinear")) = some (kd "BadLinear" n)
  kt_BadMap : ∀ n ∈ XN, (∃ bmB newId g, XC K (ad n) bmB newId g) ∧ PySem.W.kitOne K (.ref (ad n)) (.ref (ad "BadMap")) = some (kd "BadMap" n)
  kt_BadName : ∀ n ∈ XN, (∃ bmB newId g, XC K (ad n) bmB newId g) ∧ PySem.W.kitOne K (.ref (ad n)) (.ref (ad "BadName")) = some (kd "BadName" n)
  kt_BadNumber : ∀ n ∈ XN, (∃ bmB newId g, XC K (ad n) bmB newId g) ∧ PySem.W.kitOne K (.ref (ad n)) (.ref (ad "BadNumber")) = some (kd "BadNumber" n)
  kt_BadPaper : ∀ n ∈ XN, (∃ bmB newId g, XC K (ad n) bmB newId g) ∧ PySem.W.kitOne K (.ref (ad n)) (.ref (ad "BadPaper")) = some (kd "BadPaper" n)
  kt_BadPattern : ∀ n ∈ XN, (∃ bmB newId g, XC K (ad n) bmB newId g) ∧ PySem.W.kitOne K (.ref (ad n)) (.ref (ad "BadPattern")) = some (kd "BadPattern" n)
  kt_BadPoint : ∀ n ∈ XN, (∃ bmB newId g, XC K (ad n) bmB newId g) ∧ PySem.W.kitOne K (.ref (ad n)) (.ref (ad "BadPoint")) = some (kd "BadPoint" n)
  kt_BadProgram : ∀ n ∈ XN, (∃ bmB newId g, XC K (ad n) bmB newId g) ∧ PySem.W.kitOne K (.ref (ad n)) (.ref (ad "BadProgram")) = some (kd "BadProgram" n)
  kt_BadRule : ∀ n ∈ XN, (∃ bmB newId g, XC K (ad n) bmB newId g) ∧ PySem.W.kitOne K (.ref (ad n)) (.ref (ad "BadRule")) = some (kd "BadRule" n)
  kt_BadSchedule : ∀ n ∈ XN, (∃ bmB newId g, XC K (ad n) bmB newId g) ∧ PySem.W.kitOne K (.ref (ad n)) (.ref (ad "BadSchedule")) = some (kd "BadSchedule" n)
  kt_BadStart : ∀ n ∈ XN, (∃ bmB newId g, XC K (ad n) bmB newId g) ∧ PySem.W.kitOne K (.ref (ad n)) (.ref (ad "BadStart")) = some (kd "BadStart" n)
  kt_BadTape : ∀ n ∈ XN, (∃ bmB newId g, XC K (ad n) bmB newId g) ∧ PySem.W.kitOne K (.ref (ad n)) (.ref (ad "BadTape")) = some (kd "BadTape" n)
  kt_BadText : ∀ n ∈ XN, (∃ bmB newId g, XC K (ad n) bmB newId g) ∧ PySem.W.kitOne K (.ref (ad n)) (.ref (ad "BadText")) = some (kd "BadText" n)
  kt_LookupError : ∀ n ∈ XN, (∃ bmB newId g, XC K (ad n) bmB newId g) ∧ PySem.W.kitOne K (.ref (ad n)) (.type "LookupError") = some (kd "LookupError" n)
  kt_NoSuch : ∀ n ∈ XN, (∃ bmB newId g, XC K (ad n) bmB newId g) ∧ PySem.W.kitOne K (.ref (ad n)) (.ref (ad "NoSuch")) = some (kd "NoSuch" n)
  kt_OverflowError : ∀ n ∈ XN, (∃ bmB newId g, XC K (ad n) bmB newId g) ∧ PySem.W.kitOne K (.ref (ad n)) (.type "OverflowError") = some (kd "OverflowError" n)
  kt_SlopeError : ∀ n ∈ XN, (∃ bmB newId g, XC K (ad n) bmB newId g) ∧ PySem.W.kitOne K (.ref (ad n)) (.ref (ad "SlopeError")) = some (kd "SlopeError" n)
  kt_TooMany : ∀ n ∈ XN, (∃ bmB newId g, XC K (ad n) bmB newId g) ∧ PySem.W.kitOne K (.ref (ad n)) (.ref (ad "TooMany")) = some (kd "TooMany" n)
  kt_ValueError : ∀ n ∈ XN, (∃ bmB newId g, XC K (ad n) bmB newId g) ∧ PySem.W.kitOne K (.ref (ad n)) (.type "ValueError") = some (kd "ValueError" n)
  inj : ∀ a ∈ XN, ∀ b ∈ XN, ad a = ad b → a = b
section
variable {P : Program} {w : World} {K : PySem.W.Frag} {mg : Str → Option Value} {base : Heap} {cm : Str → Addr} {ad ai : Str → Addr} {fds fdi : Str → FuncData}
theorem sci_BadNumber : FnScope ["self", "value"] ["self", "value"] (defScope i_BadNumber) := ⟨rfl, rfl, rfl, by decide +kernel, rfl, by decide +kernel, by decide +kernel⟩
theorem ini_BadNumber (T : Txt w K mg cm ad ai fds fdi) : FnOk P w K mg base (L2.CX P w) 1 (ai "BadNumber") (fdi "BadNumber") ["self", "value"] (spI (ad "BadNumber") "value" "no such number") :=
  fnI T.I_BadNumber sci_BadNumber fun cdv A outer s H E => pss_cons (ps_expr (pe_binitC base_V T.x_BadNumber rfl T.g_SlopeError T.rd_SlopeError T.sg_SlopeError T.fc_SlopeError (pa_cons (pv 0) (pa_cons pe_str pa_nil)))) (pss_one (ps_xset base_V T.x_BadNumber (pv 0) (pv 1)))
theorem mk_BadNumber (T : Txt w K mg cm ad ai fds fdi) {X : Cx} (hK : X.K = K := by rfl) (hm : X.mg = mg := by rfl) (hw : X.w = w := by rfl) : MkX X (ad "BadNumber") (ai "BadNumber") 1 (fdi "BadNumber") "value" "no such number" "value" "ValueError.__new__" [.type "ValueError", .type "Exception", .type "BaseException", .type "object"] := by
  subst hK hm hw
  exact ⟨⟨_, _, base_V⟩, T.x_BadNumber, T.ii_BadNumber, T.it_BadNumber, ini_BadNumber T⟩
theorem hb1_BadNumber (T : Txt w K mg cm ad ai fds fdi) {s : Shared} {a : Addr} {u : Value} (hk : K.In s.heap) : BindsTo s (fdi "BadNumber") ⟨[.ref a, u], []⟩ [("self", .ref a), ("value", u)] := binds_d T.I_BadNumber (fun _ _ _ _ _ _ _ => ⟨_, rfl, rfl⟩) hk
theorem hbK_BadNumber (T : Txt w K mg cm ad ai fds fdi) {s : Shared} {a : Addr} {u : Value} (hk : K.In s.heap) : BindsTo s (fdi "BadNumber") ⟨[.ref a], [("value", u)]⟩ [("self", .ref a), ("value", u)] := binds_d T.I_BadNumber (fun _ _ _ _ _ _ _ => ⟨_, rfl, rfl⟩) hk
theorem hb0_BadNumber (T : Txt w K mg cm ad ai fds fdi) {s : Shared} {a : Addr} (hk : K.In s.heap) : BindsTo s (fdi "BadNumber") ⟨[.ref a], []⟩ [("self", .ref a), ("value", .none)] := binds_d T.I_BadNumber (fun _ _ _ _ _ _ _ => ⟨_, rfl, rfl⟩) hk
theorem sci_BadName : FnScope ["self", "value"] ["self", "value"] (defScope i_BadName) := ⟨rfl, rfl, rfl, by decide +kernel, rfl, by decide +kernel, by decide +kernel⟩
theorem ini_BadName (T : Txt w K mg cm ad ai fds fdi) : FnOk P w K mg base (L2.CX P w) 1 (ai "BadName") (fdi "BadName") ["self", "value"] (spI (ad "BadName") "value" "no such name") :=
  fnI T.I_BadName sci_BadName fun cdv A outer s H E => pss_cons (ps_expr (pe_binitC base_V T.x_BadName rfl T.g_SlopeError T.rd_SlopeError T.sg_SlopeError T.fc_SlopeError (pa_cons (pv 0) (pa_cons pe_str pa_nil)))) (pss_one (ps_xset base_V T.x_BadName (pv 0) (pv 1)))
theorem mk_BadName (T : Txt w K mg cm ad ai fds fdi) {X : Cx} (hK : X.K = K := by rfl) (hm : X.mg = mg := by rfl) (hw : X.w = w := by rfl) : MkX X (ad "BadName") (ai "BadName") 1 (fdi "BadName") "value" "no such name" "value" "ValueError.__new__" [.type "ValueError", .type "Exception", .type "BaseException", .type "object"] := by
  subst hK hm hw
  exact ⟨⟨_, _, base_V⟩, T.x_BadName, T.ii_BadName, T.it_BadName, ini_BadName T⟩
theorem hb1_BadName (T : Txt w K mg cm ad ai fds fdi) {s : Shared} {a : Addr} {u : Value} (hk : K.In s.heap) : BindsTo s (fdi "BadName") ⟨[.ref a, u], []⟩ [("self", .ref a), ("value", u)] := binds_d T.I_BadName (fun _ _ _ _ _ _ _ => ⟨_, rfl, rfl⟩) hk
theorem hbK_BadName (T : Txt w K mg cm ad ai fds fdi) {s : Shared} {a : Addr} {u : Value} (hk : K.In s.heap) : BindsTo s (fdi "BadName") ⟨[.ref a], [("value", u)]⟩ [("self", .ref a), ("value", u)] := binds_d T.I_BadName (fun _ _ _ _ _ _ _ => ⟨_, rfl, rfl⟩) hk
theorem hb0_BadName (T : Txt w K mg cm ad ai fds fdi) {s : Shared} {a : Addr} (hk : K.In s.heap) : BindsTo s (fdi "BadName") ⟨[.ref a], []⟩ [("self", .ref a), ("value", .none)] := binds_d T.I_BadName (fun _ _ _ _ _ _ _ => ⟨_, rfl, rfl⟩) hk
theorem sci_BadFraction : FnScope ["self", "value"] ["self", "value"] (defScope i_BadFraction) := ⟨rfl, rfl, rfl, by decide +kernel, rfl, by decide +kernel, by decide +kernel⟩
theorem ini_BadFraction (T : Txt w K mg cm ad ai fds fdi) : FnOk P w K mg base (L2.CX P w) 1 (ai "BadFraction") (fdi "BadFraction") ["self", "value"] (spI (ad "BadFraction") "value" "no such fraction") :=
  fnI T.I_BadFraction sci_BadFraction fun cdv A outer s H E => pss_cons (ps_expr (pe_binitC base_V T.x_BadFraction rfl T.g_SlopeError T.rd_SlopeError T.sg_SlopeError T.fc_SlopeError (pa_cons (pv 0) (pa_cons pe_str pa_nil)))) (pss_one (ps_xset base_V T.x_BadFraction (pv 0) (pv 1)))
theorem mk_BadFraction (T : Txt w K mg cm ad ai fds fdi) {X : Cx} (hK : X.K = K := by rfl) (hm : X.mg = mg := by rfl) (hw : X.w = w := by rfl) : MkX X (ad "BadFraction") (ai "BadFraction") 1 (fdi "BadFraction") "value" "no such fraction" "value" "ValueError.__new__" [.type "ValueError", .type "Exception", .type "BaseException", .type "object"] := by
  subst hK hm hw
  exact ⟨⟨_, _, base_V⟩, T.x_BadFraction, T.ii_BadFraction, T.it_BadFraction, ini_BadFraction T⟩
theorem hb1_BadFraction (T : Txt w K mg cm ad ai fds fdi) {s : Shared} {a : Addr} {u : Value} (hk : K.In s.heap) : BindsTo s (fdi "BadFraction") ⟨[.ref a, u], []⟩ [("self", .ref a), ("value", u)] := binds_d T.I_BadFraction (fun _ _ _ _ _ _ _ => ⟨_, rfl, rfl⟩) hk
theorem hbK_BadFraction (T : Txt w K mg cm ad ai fds fdi) {s : Shared} {a : Addr} {u : Value} (hk : K.In s.heap) : BindsTo s (fdi "BadFraction") ⟨[.ref a], [("value", u)]⟩ [("self", .ref a), ("value", u)] := binds_d T.I_BadFraction (fun _ _ _ _ _ _ _ => ⟨_, rfl, rfl⟩) hk
theorem hb0_BadFraction (T : Txt w K mg cm ad ai fds fdi) {s : Shared} {a : Addr} (hk : K.In s.heap) : BindsTo s (fdi "BadFraction") ⟨[.ref a], []⟩ [("self", .ref a), ("value", .none)] := binds_d T.I_BadFraction (fun _ _ _ _ _ _ _ => ⟨_, rfl, rfl⟩) hk
theorem sci_BadExpression : FnScope ["self", "place"] ["self", "place"] (defScope i_BadExpression) := ⟨rfl, rfl, rfl, by decide +kernel, rfl, by decide +kernel, by decide +kernel⟩
theorem ini_BadExpression (T : Txt w K mg cm ad ai fds fdi) : FnOk P w K mg base (L2.CX P w) 1 (ai "BadExpression") (fdi "BadExpression") ["self", "place"] (spI (ad "BadExpression") "place" "no such expression") :=
  fnI T.I_BadExpression sci_BadExpression fun cdv A outer s H E => pss_cons (ps_expr (pe_binitC base_V T.x_BadExpression rfl T.g_SlopeError T.rd_SlopeError T.sg_SlopeError T.fc_SlopeError (pa_cons (pv 0) (pa_cons pe_str pa_nil)))) (pss_one (ps_xset base_V T.x_BadExpression (pv 0) (pv 1)))
theorem mk_BadExpression (T : Txt w K mg cm ad ai fds fdi) {X : Cx} (hK : X.K = K := by rfl) (hm : X.mg = mg := by rfl) (hw : X.w = w := by rfl) : MkX X (ad "BadExpression") (ai "BadExpression") 1 (fdi "BadExpression") "place" "no such expression" "place" "ValueError.__new__" [.type "ValueError", .type "Exception", .type "BaseException", .type "object"] := by
  subst hK hm hw
  exact ⟨⟨_, _, base_V⟩, T.x_BadExpression, T.ii_BadExpression, T.it_BadExpression, ini_BadExpression T⟩
theorem hb1_BadExpression (T : Txt w K mg cm ad ai fds fdi) {s : Shared} {a : Addr} {u : Value} (hk : K.In s.heap) : BindsTo s (fdi "BadExpression") ⟨[.ref a, u], []⟩ [("self", .ref a), ("place", u)] := binds_d T.I_BadExpression (fun _ _ _ _ _ _ _ => ⟨_, rfl, rfl⟩) hk
theorem hbK_BadExpression (T : Txt w K mg cm ad ai fds fdi) {s : Shared} {a : Addr} {u : Value} (hk : K.In s.heap) : BindsTo s (fdi "BadExpression") ⟨[.ref a], [("place", u)]⟩ [("self", .ref a), ("place", u)] := binds_d T.I_BadExpression (fun _ _ _ _ _ _ _ => ⟨_, rfl, rfl⟩) hk
theorem hb0_BadExpression (T : Txt w K mg cm ad ai fds fdi) {s : Shared} {a : Addr} (hk : K.In s.heap) : BindsTo s (fdi "BadExpression") ⟨[.ref a], []⟩ [("self", .ref a), ("place", .none)] := binds_d T.I_BadExpression (fun _ _ _ _ _ _ _ => ⟨_, rfl, rfl⟩) hk
theorem sci_BadProgram : FnScope ["self", "place"] ["self", "place"] (defScope i_BadProgram) := ⟨rfl, rfl, rfl, by decide +kernel, rfl, by decide +kernel, by decide +kernel⟩
theorem ini_BadProgram (T : Txt w K mg cm ad ai fds fdi) : FnOk P w K mg base (L2.CX P w) 1 (ai "BadProgram") (fdi "BadProgram") ["self", "place"] (spI (ad "BadProgram") "place" "no such program") :=
  fnI T.I_BadProgram sci_BadProgram fun cdv A outer s H E => pss_cons (ps_expr (pe_binitC base_V T.x_BadProgram rfl T.g_SlopeError T.rd_SlopeError T.sg_SlopeError T.fc_SlopeError (pa_cons (pv 0) (pa_cons pe_str pa_nil)))) (pss_one (ps_xset base_V T.x_BadProgram (pv 0) (pv 1)))
theorem mk_BadProgram (T : Txt w K mg cm ad ai fds fdi) {X : Cx} (hK : X.K = K := by rfl) (hm : X.mg = mg := by rfl) (hw : X.w = w := by rfl) : MkX X (ad "BadProgram") (ai "BadProgram") 1 (fdi "BadProgram") "place" "no such program" "place" "ValueError.__new__" [.type "ValueError", .type "Exception", .type "BaseException", .type "object"] := by
  subst hK hm hw
  exact ⟨⟨_, _, base_V⟩, T.x_BadProgram, T.ii_BadProgram, T.it_BadProgram, ini_BadProgram T⟩
theorem hb1_BadProgram (T : Txt w K mg cm ad ai fds fdi) {s : Shared} {a : Addr} {u : Value} (hk : K.In s.heap) : BindsTo s (fdi "BadProgram") ⟨[.ref a, u], []⟩ [("self", .ref a), ("place", u)] := binds_d T.I_BadProgram (fun _ _ _ _ _ _ _ => ⟨_, rfl, rfl⟩) hk
theorem hbK_BadProgram (T : Txt w K mg cm ad ai fds fdi) {s : Shared} {a : Addr} {u : Value} (hk : K.In s.heap) : BindsTo s (fdi "BadProgram") ⟨[.ref a], [("place", u)]⟩ [("self", .ref a), ("place", u)] := binds_d T.I_BadProgram (fun _ _ _ _ _ _ _ => ⟨_, rfl, rfl⟩) hk
theorem hb0_BadProgram (T : Txt w K mg cm ad ai fds fdi) {s : Shared} {a : Addr} (hk : K.In s.heap) : BindsTo s (fdi "BadProgram") ⟨[.ref a], []⟩ [("self", .ref a), ("place", .none)] := binds_d T.I_BadProgram (fun _ _ _ _ _ _ _ => ⟨_, rfl, rfl⟩) hk
theorem sci_BadTape : FnScope ["self", "place"] ["self", "place"] (defScope i_BadTape) := ⟨rfl, rfl, rfl, by decide +kernel, rfl, by decide +kernel, by decide +kernel⟩
theorem ini_BadTape (T : Txt w K mg cm ad ai fds fdi) : FnOk P w K mg base (L2.CX P w) 1 (ai "BadTape") (fdi "BadTape") ["self", "place"] (spI (ad "BadTape") "place" "no such tape") :=
  fnI T.I_BadTape sci_BadTape fun cdv A outer s H E => pss_cons (ps_expr (pe_binitC base_V T.x_BadTape rfl T.g_SlopeError T.rd_SlopeError T.sg_SlopeError T.fc_SlopeError (pa_cons (pv 0) (pa_cons pe_str pa_nil)))) (pss_one (ps_xset base_V T.x_BadTape (pv 0) (pv 1)))
theorem mk_BadTape (T : Txt w K mg cm ad ai fds fdi) {X : Cx} (hK : X.K = K := by rfl) (hm : X.mg = mg := by rfl) (hw : X.w = w := by rfl) : MkX X (ad "BadTape") (ai "BadTape") 1 (fdi "BadTape") "place" "no such tape" "place" "ValueError.__new__" [.type "ValueError", .type "Exception", .type "BaseException", .type "object"] := by
  subst hK hm hw
  exact ⟨⟨_, _, base_V⟩, T.x_BadTape, T.ii_BadTape, T.it_BadTape, ini_BadTape T⟩
theorem hb1_BadTape (T : Txt w K mg cm ad ai fds fdi) {s : Shared} {a : Addr} {u : Value} (hk : K.In s.heap) : BindsTo s (fdi "BadTape") ⟨[.ref a, u], []⟩ [("self", .ref a), ("place", u)] := binds_d T.I_BadTape (fun _ _ _ _ _ _ _ => ⟨_, rfl, rfl⟩) hk
theorem hbK_BadTape (T : Txt w K mg cm ad ai fds fdi) {s : Shared} {a : Addr} {u : Value} (hk : K.In s.heap) : BindsTo s (fdi "BadTape") ⟨[.ref a], [("place", u)]⟩ [("self", .ref a), ("place", u)] := binds_d T.I_BadTape (fun _ _ _ _ _ _ _ => ⟨_, rfl, rfl⟩) hk
theorem hb0_BadTape (T : Txt w K mg cm ad ai fds fdi) {s : Shared} {a : Addr} (hk : K.In s.heap) : BindsTo s (fdi "BadTape") ⟨[.ref a], []⟩ [("self", .ref a), ("place", .none)] := binds_d T.I_BadTape (fun _ _ _ _ _ _ _ => ⟨_, rfl, rfl⟩) hk
theorem sci_BadPoint : FnScope ["self", "place"] ["self", "place"] (defScope i_BadPoint) := ⟨rfl, rfl, rfl, by decide +kernel, rfl, by decide +kernel, by decide +kernel⟩
theorem ini_BadPoint (T : Txt w K mg cm ad ai fds fdi) : FnOk P w K mg base (L2.CX P w) 1 (ai "BadPoint") (fdi "BadPoint") ["self", "place"] (spI (ad "BadPoint") "place" "no such point") :=
  fnI T.I_BadPoint sci_BadPoint fun cdv A outer s H E => pss_cons (ps_expr (pe_binitC base_V T.x_BadPoint rfl T.g_SlopeError T.rd_SlopeError T.sg_SlopeError T.fc_SlopeError (pa_cons (pv 0) (pa_cons pe_str pa_nil)))) (pss_one (ps_xset base_V T.x_BadPoint (pv 0) (pv 1)))
theorem mk_BadPoint (T : Txt w K mg cm ad ai fds fdi) {X : Cx} (hK : X.K = K := by rfl) (hm : X.mg = mg := by rfl) (hw : X.w = w := by rfl) : MkX X (ad "BadPoint") (ai "BadPoint") 1 (fdi "BadPoint") "place" "no such point" "place" "ValueError.__new__" [.type "ValueError", .type "Exception", .type "BaseException", .type "object"] := by
  subst hK hm hw
  exact ⟨⟨_, _, base_V⟩, T.x_BadPoint, T.ii_BadPoint, T.it_BadPoint, ini_BadPoint T⟩
theorem hb1_BadPoint (T : Txt w K mg cm ad ai fds fdi) {s : Shared} {a : Addr} {u : Value} (hk : K.In s.heap) : BindsTo s (fdi "BadPoint") ⟨[.ref a, u], []⟩ [("self", .ref a), ("place", u)] := binds_d T.I_BadPoint (fun _ _ _ _ _ _ _ => ⟨_, rfl, rfl⟩) hk
theorem hbK_BadPoint (T : Txt w K mg cm ad ai fds fdi) {s : Shared} {a : Addr} {u : Value} (hk : K.In s.heap) : BindsTo s (fdi "BadPoint") ⟨[.ref a], [("place", u)]⟩ [("self", .ref a), ("place", u)] := binds_d T.I_BadPoint (fun _ _ _ _ _ _ _ => ⟨_, rfl, rfl⟩) hk
theorem hb0_BadPoint (T : Txt w K mg cm ad ai fds fdi) {s : Shared} {a : Addr} (hk : K.In s.heap) : BindsTo s (fdi "BadPoint") ⟨[.ref a], []⟩ [("self", .ref a), ("place", .none)] := binds_d T.I_BadPoint (fun _ _ _ _ _ _ _ => ⟨_, rfl, rfl⟩) hk
theorem sci_BadText : FnScope ["self", "place"] ["self", "place"] (defScope i_BadText) := ⟨rfl, rfl, rfl, by decide +kernel, rfl, by decide +kernel, by decide +kernel⟩
theorem ini_BadText (T : Txt w K mg cm ad ai fds fdi) : FnOk P w K mg base (L2.CX P w) 1 (ai "BadText") (fdi "BadText") ["self", "place"] (spI (ad "BadText") "place" "no such text") :=
  fnI T.I_BadText sci_BadText fun cdv A outer s H E => pss_cons (ps_expr (pe_binitC base_V T.x_BadText rfl T.g_SlopeError T.rd_SlopeError T.sg_SlopeError T.fc_SlopeError (pa_cons (pv 0) (pa_cons pe_str pa_nil)))) (pss_one (ps_xset base_V T.x_BadText (pv 0) (pv 1)))
theorem mk_BadText (T : Txt w K mg cm ad ai fds fdi) {X : Cx} (hK : X.K = K := by rfl) (hm : X.mg = mg := by rfl) (hw : X.w = w := by rfl) : MkX X (ad "BadText") (ai "BadText") 1 (fdi "BadText") "place" "no such text" "place" "ValueError.__new__" [.type "ValueError", .type "Exception", .type "BaseException", .type "object"] := by
  subst hK hm hw
  exact ⟨⟨_, _, base_V⟩, T.x_BadText, T.ii_BadText, T.it_BadText, ini_BadText T⟩
theorem hb1_BadText (T : Txt w K mg cm ad ai fds fdi) {s : Shared} {a : Addr} {u : Value} (hk : K.In s.heap) : BindsTo s (fdi "BadText") ⟨[.ref a, u], []⟩ [("self", .ref a), ("place", u)] := binds_d T.I_BadText (fun _ _ _ _ _ _ _ => ⟨_, rfl, rfl⟩) hk
theorem hbK_BadText (T : Txt w K mg cm ad ai fds fdi) {s : Shared} {a : Addr} {u : Value} (hk : K.In s.heap) : BindsTo s (fdi "BadText") ⟨[.ref a], [("place", u)]⟩ [("self", .ref a), ("place", u)] := binds_d T.I_BadText (fun _ _ _ _ _ _ _ => ⟨_, rfl, rfl⟩) hk
theorem hb0_BadText (T : Txt w K mg cm ad ai fds fdi) {s : Shared} {a : Addr} (hk : K.In s.heap) : BindsTo s (fdi "BadText") ⟨[.ref a], []⟩ [("self", .ref a), ("place", .none)] := binds_d T.I_BadText (fun _ _ _ _ _ _ _ => ⟨_, rfl, rfl⟩) hk
theorem sci_BadPaper : FnScope ["self", "place"] ["self", "place"] (defScope i_BadPaper) := ⟨rfl, rfl, rfl, by decide +kernel, rfl, by decide +kernel, by decide +kernel⟩
theorem ini_BadPaper (T : Txt w K mg cm ad ai fds fdi) : FnOk P w K mg base (L2.CX P w) 1 (ai "BadPaper") (fdi "BadPaper") ["self", "place"] (spI (ad "BadPaper") "place" "no such paper") :=
  fnI T.I_BadPaper sci_BadPaper fun cdv A outer s H E => pss_cons (ps_expr (pe_binitC base_V T.x_BadPaper rfl T.g_SlopeError T.rd_SlopeError T.sg_SlopeError T.fc_SlopeError (pa_cons (pv 0) (pa_cons pe_str pa_nil)))) (pss_one (ps_xset base_V T.x_BadPaper (pv 0) (pv 1)))
theorem mk_BadPaper (T : Txt w K mg cm ad ai fds fdi) {X : Cx} (hK : X.K = K := by rfl) (hm : X.mg = mg := by rfl) (hw : X.w = w := by rfl) : MkX X (ad "BadPaper") (ai "BadPaper") 1 (fdi "BadPaper") "place" "no such paper" "place" "ValueError.__new__" [.type "ValueError", .type "Exception", .type "BaseException", .type "object"] := by
  subst hK hm hw
  exact ⟨⟨_, _, base_V⟩, T.x_BadPaper, T.ii_BadPaper, T.it_BadPaper, ini_BadPaper T⟩
theorem hb1_BadPaper (T : Txt w K mg cm ad ai fds fdi) {s : Shared} {a : Addr} {u : Value} (hk : K.In s.heap) : BindsTo s (fdi "BadPaper") ⟨[.ref a, u], []⟩ [("self", .ref a), ("place", u)] := binds_d T.I_BadPaper (fun _ _ _ _ _ _ _ => ⟨_, rfl, rfl⟩) hk
theorem hbK_BadPaper (T : Txt w K mg cm ad ai fds fdi) {s : Shared} {a : Addr} {u : Value} (hk : K.In s.heap) : BindsTo s (fdi "BadPaper") ⟨[.ref a], [("place", u)]⟩ [("self", .ref a), ("place", u)] := binds_d T.I_BadPaper (fun _ _ _ _ _ _ _ => ⟨_, rfl, rfl⟩) hk
theorem hb0_BadPaper (T : Txt w K mg cm ad ai fds fdi) {s : Shared} {a : Addr} (hk : K.In s.heap) : BindsTo s (fdi "BadPaper") ⟨[.ref a], []⟩ [("self", .ref a), ("place", .none)] := binds_d T.I_BadPaper (fun _ _ _ _ _ _ _ => ⟨_, rfl, rfl⟩) hk
theorem sci_BadLinear : FnScope ["self", "place"] ["self", "place"] (defScope i_BadLinear) := ⟨rfl, rfl, rfl, by decide +kernel, rfl, by decide +kernel, by decide +kernel⟩
theorem ini_BadLinear (T : Txt w K mg cm ad ai fds fdi) : FnOk P w K mg base (L2.CX P w) 1 (ai "BadLinear") (fdi "BadLinear") ["self", "place"] (spI (ad "BadLinear") "place" "no such linear tape") :=
  fnI T.I_BadLinear sci_BadLinear fun cdv A outer s H E => pss_cons (ps_expr (pe_binitC base_V T.x_BadLinear rfl T.g_SlopeError T.rd_SlopeError T.sg_SlopeError T.fc_SlopeError (pa_cons (pv 0) (pa_cons pe_str pa_nil)))) (pss_one (ps_xset base_V T.x_BadLinear (pv 0) (pv 1)))
theorem mk_BadLinear (T : Txt w K mg cm ad ai fds fdi) {X : Cx} (hK : X.K = K := by rfl) (hm : X.mg = mg := by rfl) (hw : X.w = w := by rfl) : MkX X (ad "BadLinear") (ai "BadLinear") 1 (fdi "BadLinear") "place" "no such linear tape" "place" "ValueError.__new__" [.type "ValueError", .type "Exception", .type "BaseException", .type "object"] := by
  subst hK hm hw
  exact ⟨⟨_, _, base_V⟩, T.x_BadLinear, T.ii_BadLinear, T.it_BadLinear, ini_BadLinear T⟩
theorem hb1_BadLinear (T : Txt w K mg cm ad ai fds fdi) {s : Shared} {a : Addr} {u : Value} (hk : K.In s.heap) : BindsTo s (fdi "BadLinear") ⟨[.ref a, u], []⟩ [("self", .ref a), ("place", u)] := binds_d T.I_BadLinear (fun _ _ _ _ _ _ _ => ⟨_, rfl, rfl⟩) hk
theorem hbK_BadLinear (T : Txt w K mg cm ad ai fds fdi) {s : Shared} {a : Addr} {u : Value} (hk : K.In s.heap) : BindsTo s (fdi "BadLinear") ⟨[.ref a], [("place", u)]⟩ [("self", .ref a), ("place", u)] := binds_d T.I_BadLinear (fun _ _ _ _ _ _ _ => ⟨_, rfl, rfl⟩) hk
theorem hb0_BadLinear (T : Txt w K mg cm ad ai fds fdi) {s : Shared} {a : Addr} (hk : K.In s.heap) : BindsTo s (fdi "BadLinear") ⟨[.ref a], []⟩ [("self", .ref a), ("place", .none)] := binds_d T.I_BadLinear (fun _ _ _ _ _ _ _ => ⟨_, rfl, rfl⟩) hk
theorem sci_BadRule : FnScope ["self", "place"] ["self", "place"] (defScope i_BadRule) := ⟨rfl, rfl, rfl, by decide +kernel, rfl, by decide +kernel, by decide +kernel⟩
theorem ini_BadRule (T : Txt w K mg cm ad ai fds fdi) : FnOk P w K mg base (L2.CX P w) 1 (ai "BadRule") (fdi "BadRule") ["self", "place"] (spI (ad "BadRule") "place" "no such rule") :=
  fnI T.I_BadRule sci_BadRule fun cdv A outer s H E => pss_cons (ps_expr (pe_binitC base_V T.x_BadRule rfl T.g_SlopeError T.rd_SlopeError T.sg_SlopeError T.fc_SlopeError (pa_cons (pv 0) (pa_cons pe_str pa_nil)))) (pss_one (ps_xset base_V T.x_BadRule (pv 0) (pv 1)))
theorem mk_BadRule (T : Txt w K mg cm ad ai fds fdi) {X : Cx} (hK : X.K = K := by rfl) (hm : X.mg = mg := by rfl) (hw : X.w = w := by rfl) : MkX X (ad "BadRule") (ai "BadRule") 1 (fdi "BadRule") "place" "no such rule" "place" "ValueError.__new__" [.type "ValueError", .type "Exception", .type "BaseException", .type "object"] := by
  subst hK hm hw
  exact ⟨⟨_, _, base_V⟩, T.x_BadRule, T.ii_BadRule, T.it_BadRule, ini_BadRule T⟩
theorem hb1_BadRule (T : Txt w K mg cm ad ai fds fdi) {s : Shared} {a : Addr} {u : Value} (hk : K.In s.heap) : BindsTo s (fdi "BadRule") ⟨[.ref a, u], []⟩ [("self", .ref a), ("place", u)] := binds_d T.I_BadRule (fun _ _ _ _ _ _ _ => ⟨_, rfl, rfl⟩) hk
theorem hbK_BadRule (T : Txt w K mg cm ad ai fds fdi) {s : Shared} {a : Addr} {u : Value} (hk : K.In s.heap) : BindsTo s (fdi "BadRule") ⟨[.ref a], [("place", u)]⟩ [("self", .ref a), ("place", u)] := binds_d T.I_BadRule (fun _ _ _ _ _ _ _ => ⟨_, rfl, rfl⟩) hk
theorem hb0_BadRule (T : Txt w K mg cm ad ai fds fdi) {s : Shared} {a : Addr} (hk : K.In s.heap) : BindsTo s (fdi "BadRule") ⟨[.ref a], []⟩ [("self", .ref a), ("place", .none)] := binds_d T.I_BadRule (fun _ _ _ _ _ _ _ => ⟨_, rfl, rfl⟩) hk
theorem sci_BadChain : FnScope ["self", "place"] ["self", "place"] (defScope i_BadChain) := ⟨rfl, rfl, rfl, by decide +kernel, rfl, by decide +kernel, by decide +kernel⟩
theorem ini_BadChain (T : Txt w K mg cm ad ai fds fdi) : FnOk P w K mg base (L2.CX P w) 1 (ai "BadChain") (fdi "BadChain") ["self", "place"] (spI (ad "BadChain") "place" "no such chain") :=
  fnI T.I_BadChain sci_BadChain fun cdv A outer s H E => pss_cons (ps_expr (pe_binitC base_V T.x_BadChain rfl T.g_SlopeError T.rd_SlopeError T.sg_SlopeError T.fc_SlopeError (pa_cons (pv 0) (pa_cons pe_str pa_nil)))) (pss_one (ps_xset base_V T.x_BadChain (pv 0) (pv 1)))
theorem mk_BadChain (T : Txt w K mg cm ad ai fds fdi) {X : Cx} (hK : X.K = K := by rfl) (hm : X.mg = mg := by rfl) (hw : X.w = w := by rfl) : MkX X (ad "BadChain") (ai "BadChain") 1 (fdi "BadChain") "place" "no such chain" "place" "ValueError.__new__" [.type "ValueError", .type "Exception", .type "BaseException", .type "object"] := by
  subst hK hm hw
  exact ⟨⟨_, _, base_V⟩, T.x_BadChain, T.ii_BadChain, T.it_BadChain, ini_BadChain T⟩
theorem hb1_BadChain (T : Txt w K mg cm ad ai fds fdi) {s : Shared} {a : Addr} {u : Value} (hk : K.In s.heap) : BindsTo s (fdi "BadChain") ⟨[.ref a, u], []⟩ [("self", .ref a), ("place", u)] := binds_d T.I_BadChain (fun _ _ _ _ _ _ _ => ⟨_, rfl, rfl⟩) hk
theorem hbK_BadChain (T : Txt w K mg cm ad ai fds fdi) {s : Shared} {a : Addr} {u : Value} (hk : K.In s.heap) : BindsTo s (fdi "BadChain") ⟨[.ref a], [("place", u)]⟩ [("self", .ref a), ("place", u)] := binds_d T.I_BadChain (fun _ _ _ _ _ _ _ => ⟨_, rfl, rfl⟩) hk
theorem hb0_BadChain (T : Txt w K mg cm ad ai fds fdi) {s : Shared} {a : Addr} (hk : K.In s.heap) : BindsTo s (fdi "BadChain") ⟨[.ref a], []⟩ [("self", .ref a), ("place", .none)] := binds_d T.I_BadChain (fun _ _ _ _ _ _ _ => ⟨_, rfl, rfl⟩) hk
theorem sci_BadSchedule : FnScope ["self", "place"] ["self", "place"] (defScope i_BadSchedule) := ⟨rfl, rfl, rfl, by decide +kernel, rfl, by decide +kernel, by decide +kernel⟩
theorem ini_BadSchedule (T : Txt w K mg cm ad ai fds fdi) : FnOk P w K mg base (L2.CX P w) 1 (ai "BadSchedule") (fdi "BadSchedule") ["self", "place"] (spI (ad "BadSchedule") "place" "no such schedule") :=
  fnI T.I_BadSchedule sci_BadSchedule fun cdv A outer s H E => pss_cons (ps_expr (pe_binitC base_V T.x_BadSchedule rfl T.g_SlopeError T.rd_SlopeError T.sg_SlopeError T.fc_SlopeError (pa_cons (pv 0) (pa_cons pe_str pa_nil)))) (pss_one (ps_xset base_V T.x_BadSchedule (pv 0) (pv 1)))
theorem mk_BadSchedule (T : Txt w K mg cm ad ai fds fdi) {X : Cx} (hK : X.K = K := by rfl) (hm : X.mg = mg := by rfl) (hw : X.w = w := by rfl) : MkX X (ad "BadSchedule") (ai "BadSchedule") 1 (fdi "BadSchedule") "place" "no such schedule" "place" "ValueError.__new__" [.type "ValueError", .type "Exception", .type "BaseException", .type "object"] := by
  subst hK hm hw
  exact ⟨⟨_, _, base_V⟩, T.x_BadSchedule, T.ii_BadSchedule, T.it_BadSchedule, ini_BadSchedule T⟩
theorem hb1_BadSchedule (T : Txt w K mg cm ad ai fds fdi) {s : Shared} {a : Addr} {u : Value} (hk : K.In s.heap) : BindsTo s (fdi "BadSchedule") ⟨[.ref a, u], []⟩ [("self", .ref a), ("place", u)] := binds_d T.I_BadSchedule (fun _ _ _ _ _ _ _ => ⟨_, rfl, rfl⟩) hk
theorem hbK_BadSchedule (T : Txt w K mg cm ad ai fds fdi) {s : Shared} {a : Addr} {u : Value} (hk : K.In s.heap) : BindsTo s (fdi "BadSchedule") ⟨[.ref a], [("place", u)]⟩ [("self", .ref a), ("place", u)] := binds_d T.I_BadSchedule (fun _ _ _ _ _ _ _ => ⟨_, rfl, rfl⟩) hk
theorem hb0_BadSchedule (T : Txt w K mg cm ad ai fds fdi) {s : Shared} {a : Addr} (hk : K.In s.heap) : BindsTo s (fdi "BadSchedule") ⟨[.ref a], []⟩ [("self", .ref a), ("place", .none)] := binds_d T.I_BadSchedule (fun _ _ _ _ _ _ _ => ⟨_, rfl, rfl⟩) hk
theorem sci_BadCode : FnScope ["self", "place"] ["self", "place"] (defScope i_BadCode) := ⟨rfl, rfl, rfl, by decide +kernel, rfl, by decide +kernel, by decide +kernel⟩
theorem ini_BadCode (T : Txt w K mg cm ad ai fds fdi) : FnOk P w K mg base (L2.CX P w) 1 (ai "BadCode") (fdi "BadCode") ["self", "place"] (spI (ad "BadCode") "place" "no such code") :=
  fnI T.I_BadCode sci_BadCode fun cdv A outer s H E => pss_cons (ps_expr (pe_binitC base_V T.x_BadCode rfl T.g_SlopeError T.rd_SlopeError T.sg_SlopeError T.fc_SlopeError (pa_cons (pv 0) (pa_cons pe_str pa_nil)))) (pss_one (ps_xset base_V T.x_BadCode (pv 0) (pv 1)))
theorem mk_BadCode (T : Txt w K mg cm ad ai fds fdi) {X : Cx} (hK : X.K = K := by rfl) (hm : X.mg = mg := by rfl) (hw : X.w = w := by rfl) : MkX X (ad "BadCode") (ai "BadCode") 1 (fdi "BadCode") "place" "no such code" "place" "ValueError.__new__" [.type "ValueError", .type "Exception", .type "BaseException", .type "object"] := by
  subst hK hm hw
  exact ⟨⟨_, _, base_V⟩, T.x_BadCode, T.ii_BadCode, T.it_BadCode, ini_BadCode T⟩
theorem hb1_BadCode (T : Txt w K mg cm ad ai fds fdi) {s : Shared} {a : Addr} {u : Value} (hk : K.In s.heap) : BindsTo s (fdi "BadCode") ⟨[.ref a, u], []⟩ [("self", .ref a), ("place", u)] := binds_d T.I_BadCode (fun _ _ _ _ _ _ _ => ⟨_, rfl, rfl⟩) hk
theorem hbK_BadCode (T : Txt w K mg cm ad ai fds fdi) {s : Shared} {a : Addr} {u : Value} (hk : K.In s.heap) : BindsTo s (fdi "BadCode") ⟨[.ref a], [("place", u)]⟩ [("self", .ref a), ("place", u)] := binds_d T.I_BadCode (fun _ _ _ _ _ _ _ => ⟨_, rfl, rfl⟩) hk
theorem hb0_BadCode (T : Txt w K mg cm ad ai fds fdi) {s : Shared} {a : Addr} (hk : K.In s.heap) : BindsTo s (fdi "BadCode") ⟨[.ref a], []⟩ [("self", .ref a), ("place", .none)] := binds_d T.I_BadCode (fun _ _ _ _ _ _ _ => ⟨_, rfl, rfl⟩) hk
theorem sci_BadPattern : FnScope ["self", "place"] ["self", "place"] (defScope i_BadPattern) := ⟨rfl, rfl, rfl, by decide +kernel, rfl, by decide +kernel, by decide +kernel⟩
theorem ini_BadPattern (T : Txt w K mg cm ad ai fds fdi) : FnOk P w K mg base (L2.CX P w) 1 (ai "BadPattern") (fdi "BadPattern") ["self", "place"] (spI (ad "BadPattern") "place" "no such pattern") :=
  fnI T.I_BadPattern sci_BadPattern fun cdv A outer s H E => pss_cons (ps_expr (pe_binitC base_V T.x_BadPattern rfl T.g_SlopeError T.rd_SlopeError T.sg_SlopeError T.fc_SlopeError (pa_cons (pv 0) (pa_cons pe_str pa_nil)))) (pss_one (ps_xset base_V T.x_BadPattern (pv 0) (pv 1)))
theorem mk_BadPattern (T : Txt w K mg cm ad ai fds fdi) {X : Cx} (hK : X.K = K := by rfl) (hm : X.mg = mg := by rfl) (hw : X.w = w := by rfl) : MkX X (ad "BadPattern") (ai "BadPattern") 1 (fdi "BadPattern") "place" "no such pattern" "place" "ValueError.__new__" [.type "ValueError", .type "Exception", .type "BaseException", .type "object"] := by
  subst hK hm hw
  exact ⟨⟨_, _, base_V⟩, T.x_BadPattern, T.ii_BadPattern, T.it_BadPattern, ini_BadPattern T⟩
theorem hb1_BadPattern (T : Txt w K mg cm ad ai fds fdi) {s : Shared} {a : Addr} {u : Value} (hk : K.In s.heap) : BindsTo s (fdi "BadPattern") ⟨[.ref a, u], []⟩ [("self", .ref a), ("place", u)] := binds_d T.I_BadPattern (fun _ _ _ _ _ _ _ => ⟨_, rfl, rfl⟩) hk
theorem hbK_BadPattern (T : Txt w K mg cm ad ai fds fdi) {s : Shared} {a : Addr} {u : Value} (hk : K.In s.heap) : BindsTo s (fdi "BadPattern") ⟨[.ref a], [("place", u)]⟩ [("self", .ref a), ("place", u)] := binds_d T.I_BadPattern (fun _ _ _ _ _ _ _ => ⟨_, rfl, rfl⟩) hk
theorem hb0_BadPattern (T : Txt w K mg cm ad ai fds fdi) {s : Shared} {a : Addr} (hk : K.In s.heap) : BindsTo s (fdi "BadPattern") ⟨[.ref a], []⟩ [("self", .ref a), ("place", .none)] := binds_d T.I_BadPattern (fun _ _ _ _ _ _ _ => ⟨_, rfl, rfl⟩) hk
theorem sci_BadGroups : FnScope ["self", "place"] ["self", "place"] (defScope i_BadGroups) := ⟨rfl, rfl, rfl, by decide +kernel, rfl, by decide +kernel, by decide +kernel⟩
theorem ini_BadGroups (T : Txt w K mg cm ad ai fds fdi) : FnOk P w K mg base (L2.CX P w) 1 (ai "BadGroups") (fdi "BadGroups") ["self", "place"] (spI (ad "BadGroups") "place" "no such groups") :=
  fnI T.I_BadGroups sci_BadGroups fun cdv A outer s H E => pss_cons (ps_expr (pe_binitC base_V T.x_BadGroups rfl T.g_SlopeError T.rd_SlopeError T.sg_SlopeError T.fc_SlopeError (pa_cons (pv 0) (pa_cons pe_str pa_nil)))) (pss_one (ps_xset base_V T.x_BadGroups (pv 0) (pv 1)))
theorem mk_BadGroups (T : Txt w K mg cm ad ai fds fdi) {X : Cx} (hK : X.K = K := by rfl) (hm : X.mg = mg := by rfl) (hw : X.w = w := by rfl) : MkX X (ad "BadGroups") (ai "BadGroups") 1 (fdi "BadGroups") "place" "no such groups" "place" "ValueError.__new__" [.type "ValueError", .type "Exception", .type "BaseException", .type "object"] := by
  subst hK hm hw
  exact ⟨⟨_, _, base_V⟩, T.x_BadGroups, T.ii_BadGroups, T.it_BadGroups, ini_BadGroups T⟩
theorem hb1_BadGroups (T : Txt w K mg cm ad ai fds fdi) {s : Shared} {a : Addr} {u : Value} (hk : K.In s.heap) : BindsTo s (fdi "BadGroups") ⟨[.ref a, u], []⟩ [("self", .ref a), ("place", u)] := binds_d T.I_BadGroups (fun _ _ _ _ _ _ _ => ⟨_, rfl, rfl⟩) hk
theorem hbK_BadGroups (T : Txt w K mg cm ad ai fds fdi) {s : Shared} {a : Addr} {u : Value} (hk : K.In s.heap) : BindsTo s (fdi "BadGroups") ⟨[.ref a], [("place", u)]⟩ [("self", .ref a), ("place", u)] := binds_d T.I_BadGroups (fun _ _ _ _ _ _ _ => ⟨_, rfl, rfl⟩) hk
theorem hb0_BadGroups (T : Txt w K mg cm ad ai fds fdi) {s : Shared} {a : Addr} (hk : K.In s.heap) : BindsTo s (fdi "BadGroups") ⟨[.ref a], []⟩ [("self", .ref a), ("place", .none)] := binds_d T.I_BadGroups (fun _ _ _ _ _ _ _ => ⟨_, rfl, rfl⟩) hk
theorem sci_BadStart : FnScope ["self", "place"] ["self", "place"] (defScope i_BadStart) := ⟨rfl, rfl, rfl, by decide +kernel, rfl, by decide +kernel, by decide +kernel⟩
theorem ini_BadStart (T : Txt w K mg cm ad ai fds fdi) : FnOk P w K mg base (L2.CX P w) 1 (ai "BadStart") (fdi "BadStart") ["self", "place"] (spI (ad "BadStart") "place" "no such start") :=
  fnI T.I_BadStart sci_BadStart fun cdv A outer s H E => pss_cons (ps_expr (pe_binitC base_V T.x_BadStart rfl T.g_SlopeError T.rd_SlopeError T.sg_SlopeError T.fc_SlopeError (pa_cons (pv 0) (pa_cons pe_str pa_nil)))) (pss_one (ps_xset base_V T.x_BadStart (pv 0) (pv 1)))
theorem mk_BadStart (T : Txt w K mg cm ad ai fds fdi) {X : Cx} (hK : X.K = K := by rfl) (hm : X.mg = mg := by rfl) (hw : X.w = w := by rfl) : MkX X (ad "BadStart") (ai "BadStart") 1 (fdi "BadStart") "place" "no such start" "place" "ValueError.__new__" [.type "ValueError", .type "Exception", .type "BaseException", .type "object"] := by
  subst hK hm hw
  exact ⟨⟨_, _, base_V⟩, T.x_BadStart, T.ii_BadStart, T.it_BadStart, ini_BadStart T⟩
theorem hb1_BadStart (T : Txt w K mg cm ad ai fds fdi) {s : Shared} {a : Addr} {u : Value} (hk : K.In s.heap) : BindsTo s (fdi "BadStart") ⟨[.ref a, u], []⟩ [("self", .ref a), ("place", u)] := binds_d T.I_BadStart (fun _ _ _ _ _ _ _ => ⟨_, rfl, rfl⟩) hk
theorem hbK_BadStart (T : Txt w K mg cm ad ai fds fdi) {s : Shared} {a : Addr} {u : Value} (hk : K.In s.heap) : BindsTo s (fdi "BadStart") ⟨[.ref a], [("place", u)]⟩ [("self", .ref a), ("place", u)] := binds_d T.I_BadStart (fun _ _ _ _ _ _ _ => ⟨_, rfl, rfl⟩) hk
theorem hb0_BadStart (T : Txt w K mg cm ad ai fds fdi) {s : Shared} {a : Addr} (hk : K.In s.heap) : BindsTo s (fdi "BadStart") ⟨[.ref a], []⟩ [("self", .ref a), ("place", .none)] := binds_d T.I_BadStart (fun _ _ _ _ _ _ _ => ⟨_, rfl, rfl⟩) hk
theorem sci_BadMap : FnScope ["self", "place"] ["self", "place"] (defScope i_BadMap) := ⟨rfl, rfl, rfl, by decide +kernel, rfl, by decide +kernel, by decide +kernel⟩
theorem ini_BadMap (T : Txt w K mg cm ad ai fds fdi) : FnOk P w K mg base (L2.CX P w) 1 (ai "BadMap") (fdi "BadMap") ["self", "place"] (spI (ad "BadMap") "place" "no such mapping") :=
  fnI T.I_BadMap sci_BadMap fun cdv A outer s H E => pss_cons (ps_expr (pe_binitC base_V T.x_BadMap rfl T.g_SlopeError T.rd_SlopeError T.sg_SlopeError T.fc_SlopeError (pa_cons (pv 0) (pa_cons pe_str pa_nil)))) (pss_one (ps_xset base_V T.x_BadMap (pv 0) (pv 1)))
theorem mk_BadMap (T : Txt w K mg cm ad ai fds fdi) {X : Cx} (hK : X.K = K := by rfl) (hm : X.mg = mg := by rfl) (hw : X.w = w := by rfl) : MkX X (ad "BadMap") (ai "BadMap") 1 (fdi "BadMap") "place" "no such mapping" "place" "ValueError.__new__" [.type "ValueError", .type "Exception", .type "BaseException", .type "object"] := by
  subst hK hm hw
  exact ⟨⟨_, _, base_V⟩, T.x_BadMap, T.ii_BadMap, T.it_BadMap, ini_BadMap T⟩
theorem hb1_BadMap (T : Txt w K mg cm ad ai fds fdi) {s : Shared} {a : Addr} {u : Value} (hk : K.In s.heap) : BindsTo s (fdi "BadMap") ⟨[.ref a, u], []⟩ [("self", .ref a), ("place", u)] := binds_d T.I_BadMap (fun _ _ _ _ _ _ _ => ⟨_, rfl, rfl⟩) hk
theorem hbK_BadMap (T : Txt w K mg cm ad ai fds fdi) {s : Shared} {a : Addr} {u : Value} (hk : K.In s.heap) : BindsTo s (fdi "BadMap") ⟨[.ref a], [("place", u)]⟩ [("self", .ref a), ("place", u)] := binds_d T.I_BadMap (fun _ _ _ _ _ _ _ => ⟨_, rfl, rfl⟩) hk
theorem hb0_BadMap (T : Txt w K mg cm ad ai fds fdi) {s : Shared} {a : Addr} (hk : K.In s.heap) : BindsTo s (fdi "BadMap") ⟨[.ref a], []⟩ [("self", .ref a), ("place", .none)] := binds_d T.I_BadMap (fun _ _ _ _ _ _ _ => ⟨_, rfl, rfl⟩) hk
theorem sci_BadDeed : FnScope ["self", "place"] ["self", "place"] (defScope i_BadDeed) := ⟨rfl, rfl, rfl, by decide +kernel, rfl, by decide +kernel, by decide +kernel⟩
theorem ini_BadDeed (T : Txt w K mg cm ad ai fds fdi) : FnOk P w K mg base (L2.CX P w) 1 (ai "BadDeed") (fdi "BadDeed") ["self", "place"] (spI (ad "BadDeed") "place" "no such deed") :=
  fnI T.I_BadDeed sci_BadDeed fun cdv A outer s H E => pss_cons (ps_expr (pe_binitC base_V T.x_BadDeed rfl T.g_SlopeError T.rd_SlopeError T.sg_SlopeError T.fc_SlopeError (pa_cons (pv 0) (pa_cons pe_str pa_nil)))) (pss_one (ps_xset base_V T.x_BadDeed (pv 0) (pv 1)))
theorem mk_BadDeed (T : Txt w K mg cm ad ai fds fdi) {X : Cx} (hK : X.K = K := by rfl) (hm : X.mg = mg := by rfl) (hw : X.w = w := by rfl) : MkX X (ad "BadDeed") (ai "BadDeed") 1 (fdi "BadDeed") "place" "no such deed" "place" "ValueError.__new__" [.type "ValueError", .type "Exception", .type "BaseException", .type "object"] := by
  subst hK hm hw
  exact ⟨⟨_, _, base_V⟩, T.x_BadDeed, T.ii_BadDeed, T.it_BadDeed, ini_BadDeed T⟩
theorem hb1_BadDeed (T : Txt w K mg cm ad ai fds fdi) {s : Shared} {a : Addr} {u : Value} (hk : K.In s.heap) : BindsTo s (fdi "BadDeed") ⟨[.ref a, u], []⟩ [("self", .ref a), ("place", u)] := binds_d T.I_BadDeed (fun _ _ _ _ _ _ _ => ⟨_, rfl, rfl⟩) hk
theorem hbK_BadDeed (T : Txt w K mg cm ad ai fds fdi) {s : Shared} {a : Addr} {u : Value} (hk : K.In s.heap) : BindsTo s (fdi "BadDeed") ⟨[.ref a], [("place", u)]⟩ [("self", .ref a), ("place", u)] := binds_d T.I_BadDeed (fun _ _ _ _ _ _ _ => ⟨_, rfl, rfl⟩) hk
theorem hb0_BadDeed (T : Txt w K mg cm ad ai fds fdi) {s : Shared} {a : Addr} (hk : K.In s.heap) : BindsTo s (fdi "BadDeed") ⟨[.ref a], []⟩ [("self", .ref a), ("place", .none)] := binds_d T.I_BadDeed (fun _ _ _ _ _ _ _ => ⟨_, rfl, rfl⟩) hk
theorem sci_TooMany : FnScope ["self", "most"] ["self", "most"] (defScope i_TooMany) := ⟨rfl, rfl, rfl, by decide +kernel, rfl, by decide +kernel, by decide +kernel⟩
theorem ini_TooMany (T : Txt w K mg cm ad ai fds fdi) : FnOk P w K mg base (L2.CX P w) 1 (ai "TooMany") (fdi "TooMany") ["self", "most"] (spI (ad "TooMany") "most" "too many") :=
  fnI T.I_TooMany sci_TooMany fun cdv A outer s H E => pss_cons (ps_expr (pe_binitT base_O T.x_TooMany rfl T.b_OverflowError (by decide +kernel) ty_OverflowError (by decide +kernel) T.fc_OverflowError (pa_cons (pv 0) (pa_cons pe_str pa_nil)))) (pss_one (ps_xset base_O T.x_TooMany (pv 0) (pv 1)))
theorem mk_TooMany (T : Txt w K mg cm ad ai fds fdi) {X : Cx} (hK : X.K = K := by rfl) (hm : X.mg = mg := by rfl) (hw : X.w = w := by rfl) : MkX X (ad "TooMany") (ai "TooMany") 1 (fdi "TooMany") "most" "too many" "most" "OverflowError.__new__" [.type "OverflowError", .type "ArithmeticError", .type "Exception", .type "BaseException", .type "object"] := by
  subst hK hm hw
  exact ⟨⟨_, _, base_O⟩, T.x_TooMany, T.ii_TooMany, T.it_TooMany, ini_TooMany T⟩
theorem hb1_TooMany (T : Txt w K mg cm ad ai fds fdi) {s : Shared} {a : Addr} {u : Value} (hk : K.In s.heap) : BindsTo s (fdi "TooMany") ⟨[.ref a, u], []⟩ [("self", .ref a), ("most", u)] := binds_n T.I_TooMany (fun _ _ _ _ _ _ => rfl)
theorem hbK_TooMany (T : Txt w K mg cm ad ai fds fdi) {s : Shared} {a : Addr} {u : Value} (hk : K.In s.heap) : BindsTo s (fdi "TooMany") ⟨[.ref a], [("most", u)]⟩ [("self", .ref a), ("most", u)] := binds_n T.I_TooMany (fun _ _ _ _ _ _ => rfl)
theorem sci_NoSuch : FnScope ["self", "value"] ["self", "value"] (defScope i_NoSuch) := ⟨rfl, rfl, rfl, by decide +kernel, rfl, by decide +kernel, by decide +kernel⟩
theorem ini_NoSuch (T : Txt w K mg cm ad ai fds fdi) : FnOk P w K mg base (L2.CX P w) 1 (ai "NoSuch") (fdi "NoSuch") ["self", "value"] (spI (ad "NoSuch") "value" "nothing so called") :=
  fnI T.I_NoSuch sci_NoSuch fun cdv A outer s H E => pss_cons (ps_expr (pe_binitT base_L T.x_NoSuch rfl T.b_LookupError (by decide +kernel) ty_LookupError (by decide +kernel) T.fc_LookupError (pa_cons (pv 0) (pa_cons pe_str pa_nil)))) (pss_one (ps_xset base_L T.x_NoSuch (pv 0) (pv 1)))
theorem mk_NoSuch (T : Txt w K mg cm ad ai fds fdi) {X : Cx} (hK : X.K = K := by rfl) (hm : X.mg = mg := by rfl) (hw : X.w = w := by rfl) : MkX X (ad "NoSuch") (ai "NoSuch") 1 (fdi "NoSuch") "value" "nothing so called" "value" "LookupError.__new__" [.type "LookupError", .type "Exception", .type "BaseException", .type "object"] := by
  subst hK hm hw
  exact ⟨⟨_, _, base_L⟩, T.x_NoSuch, T.ii_NoSuch, T.it_NoSuch, ini_NoSuch T⟩
theorem hb1_NoSuch (T : Txt w K mg cm ad ai fds fdi) {s : Shared} {a : Addr} {u : Value} (hk : K.In s.heap) : BindsTo s (fdi "NoSuch") ⟨[.ref a, u], []⟩ [("self", .ref a), ("value", u)] := binds_d T.I_NoSuch (fun _ _ _ _ _ _ _ => ⟨_, rfl, rfl⟩) hk
theorem hbK_NoSuch (T : Txt w K mg cm ad ai fds fdi) {s : Shared} {a : Addr} {u : Value} (hk : K.In s.heap) : BindsTo s (fdi "NoSuch") ⟨[.ref a], [("value", u)]⟩ [("self", .ref a), ("value", u)] := binds_d T.I_NoSuch (fun _ _ _ _ _ _ _ => ⟨_, rfl, rfl⟩) hk
theorem hb0_NoSuch (T : Txt w K mg cm ad ai fds fdi) {s : Shared} {a : Addr} (hk : K.In s.heap) : BindsTo s (fdi "NoSuch") ⟨[.ref a], []⟩ [("self", .ref a), ("value", .none)] := binds_d T.I_NoSuch (fun _ _ _ _ _ _ _ => ⟨_, rfl, rfl⟩) hk
theorem xn_value (T : Txt w K mg cm ad ai fds fdi) : ∀ c ∈ N_value, ∃ bmB newId, XC K (ad c) bmB newId "value" := by
  intro c hc
  simp only [List.mem_cons, List.not_mem_nil, or_false] at hc
  rcases hc with rfl | rfl | rfl | rfl
  · exact ⟨_, _, T.x_BadNumber⟩
  · exact ⟨_, _, T.x_BadName⟩
  · exact ⟨_, _, T.x_BadFraction⟩
  · exact ⟨_, _, T.x_NoSuch⟩
theorem xn_place (T : Txt w K mg cm ad ai fds fdi) : ∀ c ∈ N_place, ∃ bmB newId, XC K (ad c) bmB newId "place" := by
  intro c hc
  simp only [List.mem_cons, List.not_mem_nil, or_false] at hc
  rcases hc with rfl | rfl | rfl | rfl | rfl | rfl | rfl | rfl | rfl | rfl | rfl | rfl | rfl | rfl | rfl | rfl
  · exact ⟨_, _, T.x_BadExpression⟩
  · exact ⟨_, _, T.x_BadProgram⟩
  · exact ⟨_, _, T.x_BadTape⟩
  · exact ⟨_, _, T.x_BadPoint⟩
  · exact ⟨_, _, T.x_BadText⟩
  · exact ⟨_, _, T.x_BadPaper⟩
  · exact ⟨_, _, T.x_BadLinear⟩
  · exact ⟨_, _, T.x_BadRule⟩
  · exact ⟨_, _, T.x_BadChain⟩
  · exact ⟨_, _, T.x_BadSchedule⟩
  · exact ⟨_, _, T.x_BadCode⟩
  · exact ⟨_, _, T.x_BadPattern⟩
  · exact ⟨_, _, T.x_BadGroups⟩
  · exact ⟨_, _, T.x_BadStart⟩
  · exact ⟨_, _, T.x_BadMap⟩
  · exact ⟨_, _, T.x_BadDeed⟩
theorem xn_most (T : Txt w K mg cm ad ai fds fdi) : ∀ c ∈ N_most, ∃ bmB newId, XC K (ad c) bmB newId "most" := by
  intro c hc
  simp only [List.mem_cons, List.not_mem_nil, or_false] at hc
  rcases hc with rfl
  · exact ⟨_, _, T.x_TooMany⟩
theorem xnA (T : Txt w K mg cm ad ai fds fdi) : ∀ c ∈ XN, ∃ bmB newId g, XC K (ad c) bmB newId g := fun c hc => (T.kt_BadChain c hc).1
/-! _law_mixed -/
def g__law_mixed (ad : Str → Addr) : FS := sSeq (sSet 2 (fO (fE (f2 addD (fE (f2 addD (fE (f2 modD (fV 0) (fE (f2 atD (fE (fLst (fCons (fC (.int 1000000007)) (fCons (fC (.int 998244353)) (fCons (fC (.int 2147483629)) (fCons (fC (.int 1000000009)) (fNil))))))) (fE (f2 modD (fV 1) (fC (.int 4)))))))) (fE (f2 mulD (fC (.int 7919)) (fV 1))))) (fC (.int 13)))))) (sRet (f2 modD (fE (f2 mulD (fE (f2 modD (fE (f2 mulD (fV 2) (fV 2))) (fC (.int 2147483647)))) (fC (.int 48271)))) (fC (.int 2147483647))))
def F__law_mixed (ad : Str → Addr) : List D → Option FOut := fun ds => if ds.length = 2 then pOut (g__law_mixed ad (env0 1 ds)) else none
theorem F__law_mixed_n {ad : Str → Addr} : ∀ ds r, F__law_mixed ad ds = some r → ds.length = 2 := fun ds r h => by
  unfold F__law_mixed at h
  split at h
  · assumption
  · cases h
theorem sc__law_mixed : FnScope ["cell", "k", "number"] ["cell", "k"] (defScope s__law_mixed) := ⟨rfl, rfl, rfl, by decide +kernel, rfl, by decide +kernel, by decide +kernel⟩
theorem bind__law_mixed (T : Txt w K mg cm ad ai fds fdi) : Binds K (fds "_law_mixed") ["cell", "k"] [] := T.F__law_mixed.bindsN fun _ _ _ _ _ _ us hl => match us, hl with | [_, _], _ => rfl
theorem ok__law_mixed (T : Txt w K mg cm ad ai fds fdi) : FnG P w K mg base 1 (ad "_law_mixed") (fds "_law_mixed") ["cell", "k"] (spP K cm 2 (F__law_mixed ad)) := by
  refine fn_pure (g := (g__law_mixed ad)) T.F__law_mixed sc__law_mixed (fun ds r h => ?_) fun cdv A outer s H E hr tk => ?_
  · unfold F__law_mixed at h
    split at h
    · exact h
    · cases h
  · have nd := sc__law_mixed.nd
    have pw := passes_of (K := fun e s'' => L2.CX P w outer H s E e s'') (X := bodyX P w K mg base ["cell", "k", "number"] "_law_mixed" (defScope s__law_mixed) (ad "_law_mixed") cdv A outer s H E) rfl
    exact ⟨_, bx_cons (sx_set (i := 2) (ox_O (dx_E (ox_add (dx_E (ox_add (dx_E (ox_mod (dx_V 0) (dx_ix (dx_E (ox_lst (ax_cons (dx_int) (ax_cons (dx_int) (ax_cons (dx_int) (ax_cons (dx_int) (ax_nil))))))) (dx_E (ox_mod (dx_V 1) (dx_int)))))) (dx_E (ox_mul (dx_int) (dx_V 1))))) (dx_int)))) nd (by decide)) (bx_one (sx_ret (ox_mod (dx_E (ox_mul (dx_E (ox_mod (dx_E (ox_mul (dx_V 2) (dx_V 2))) (dx_int))) (dx_int))) (dx_int))))⟩
/-! _law_draw -/
def g__law_draw (ad : Str → Addr) : FS := sRet (fDk ["left", "cell", "turns"] (fCons (fIf (fTest (fE (f2 (cmpD fun i j => decide (j ≤ i)) (fV 0) (fE (f2 powD (fC (.int 10)) (fC (.int 18))))))) (fV 0) (fC (.int 0))) (fCons (fV 0) (fCons (fE (f2 mulD (fC (.int 1000)) (fV 1))) (fNil)))))
def F__law_draw (ad : Str → Addr) : List D → Option FOut := fun ds => if ds.length = 2 then pOut (g__law_draw ad (env0 0 ds)) else none
theorem F__law_draw_n {ad : Str → Addr} : ∀ ds r, F__law_draw ad ds = some r → ds.length = 2 := fun ds r h => by
  unfold F__law_draw at h
  split at h
  · assumption
  · cases h
theorem sc__law_draw : FnScope ["cell", "k"] ["cell", "k"] (defScope s__law_draw) := ⟨rfl, rfl, rfl, by decide +kernel, rfl, by decide +kernel, by decide +kernel⟩
theorem bind__law_draw (T : Txt w K mg cm ad ai fds fdi) : Binds K (fds "_law_draw") ["cell", "k"] [] := T.F__law_draw.bindsN fun _ _ _ _ _ _ us hl => match us, hl with | [_, _], _ => rfl
theorem ok__law_draw (T : Txt w K mg cm ad ai fds fdi) : FnG P w K mg base 1 (ad "_law_draw") (fds "_law_draw") ["cell", "k"] (spP K cm 2 (F__law_draw ad)) := by
  refine fn_pure (g := (g__law_draw ad)) T.F__law_draw sc__law_draw (fun ds r h => ?_) fun cdv A outer s H E hr tk => ?_
  · unfold F__law_draw at h
    split at h
    · exact h
    · cases h
  · have nd := sc__law_draw.nd
    have pw := passes_of (K := fun e s'' => L2.CX P w outer H s E e s'') (X := bodyX P w K mg base ["cell", "k"] "_law_draw" (defScope s__law_draw) (ad "_law_draw") cdv A outer s H E) rfl
    exact ⟨_, bx_one (sx_ret (ox_dict (kvx_cons (dx_if (tx_cmp (cmp_ge) (dx_V 0) (dx_E (ox_pow (dx_int) (dx_int))) (nomark _)) (dx_V 0) (dx_int)) (kvx_cons (dx_V 0) (kvx_cons (dx_E (ox_mul (dx_int) (dx_V 1))) (kvx_nil))))))⟩
/-! _law_digit -/
def g__law_digit (ad : Str → Addr) : FS := sSeq (sIf (fTest (fE (f2 (eqD) (fQ (qKey (qV 0) "left")) (fC (.int 0))))) (sFor (iA iR1 (fCons (fC (.int 4)) fNil)) (gN 2) (sSeq (sPutK 0 "turns" (fE (f2 addD (fQ (qKey (qV 0) "turns")) (fC (.int 1))))) (sPutK 0 "left" (fE (f2 addD (fE (f2 mulD (fQ (qKey (qV 0) "left")) (fC (.int 2147483647)))) (fE (fCall (F__law_mixed ad) (fCons (fQ (qKey (qV 0) "cell")) (fCons (fQ (qKey (qV 0) "turns")) (fNil))))))))) [2]) (sNop)) (sSeq (sSet 3 (fO (fE (f2 modD (fQ (qKey (qV 0) "left")) (fV 1))))) (sSeq (sPutK 0 "left" (fE (f2 divD (fQ (qKey (qV 0) "left")) (fV 1)))) (sRet (fO (fV 3)))))
def F__law_digit (ad : Str → Addr) : OV → List D → Option LOut := fun o ds => if ds.length = 1 then lOut (g__law_digit ad (some o :: env0 2 ds)) else none
theorem F__law_digit_n {ad : Str → Addr} : ∀ o ds r, F__law_digit ad o ds = some r → ds.length = 1 := fun o ds r h => by
  unfold F__law_digit at h
  split at h
  · assumption
  · cases h
theorem sc__law_digit : FnScope ["state", "below", "j", "found"] ["state", "below"] (defScope s__law_digit) := ⟨rfl, rfl, rfl, by decide +kernel, rfl, by decide +kernel, by decide +kernel⟩
theorem bind__law_digit (T : Txt w K mg cm ad ai fds fdi) : Binds K (fds "_law_digit") ["state", "below"] [] := T.F__law_digit.bindsN fun _ _ _ _ _ _ us hl => match us, hl with | [_, _], _ => rfl
theorem ok__law_digit (T : Txt w K mg cm ad ai fds fdi) : FnG P w K mg base 2 (ad "_law_digit") (fds "_law_digit") ["state", "below"] (spL K cm 1 (F__law_digit ad)) := by
  refine fn_lent (g := (g__law_digit ad)) T.F__law_digit sc__law_digit 1 rfl (fun o ds r h => ?_) fun cdv A outer s H E hr tk => ?_
  · unfold F__law_digit at h
    split at h
    · exact h
    · cases h
  · have nd := sc__law_digit.nd
    have pw := passes_of (K := fun e s'' => L2.CX P w outer H s E e s'') (X := bodyX P w K mg base ["state", "below", "j", "found"] "_law_digit" (defScope s__law_digit) (ad "_law_digit") cdv A outer s H E) rfl
    exact ⟨_, bx_cons (sx_if (tx_cmp (cmp_eq hr.units) (dx_Q (qx_key (hu_of hr.1) (qx_V 0))) (dx_int) (nomark _)) (bx_one (sx_for pw rfl (ix_r1 T.b_range (dx_int)) (gx_N (i := 2) nd (by decide)) (bx_cons (sx_putK (i := 0) (hu_of hr.1) (dx_E (ox_add (dx_Q (qx_key (hu_of hr.1) (qx_V 0))) (dx_int)))) (bx_one (sx_putK (i := 0) (hu_of hr.1) (dx_E (ox_add (dx_E (ox_mul (dx_Q (qx_key (hu_of hr.1) (qx_V 0))) (dx_int))) (dx_E (ox_call (ok__law_mixed T) (hr.mono (by decide)) (by rfl) T.g__law_mixed T.F__law_mixed.kp (bind__law_mixed T) tk (F__law_mixed_n (ad := ad)) (ax_cons (dx_Q (qx_key (hu_of hr.1) (qx_V 0))) (ax_cons (dx_Q (qx_key (hu_of hr.1) (qx_V 0))) (ax_nil)))))))))))) (bx_nil)) (bx_cons (sx_set (i := 3) (ox_O (dx_E (ox_mod (dx_Q (qx_key (hu_of hr.1) (qx_V 0))) (dx_V 1)))) nd (by decide)) (bx_cons (sx_putK (i := 0) (hu_of hr.1) (dx_E (ox_div (dx_Q (qx_key (hu_of hr.1) (qx_V 0))) (dx_V 1)))) (bx_one (sx_ret (ox_O (dx_V 3))))))⟩
/-! _law_kinds -/
def g__law_kinds (ad : Str → Addr) : FS := sSeq (sSet 1 (fO (fE (fLst (fCons (fTup (fCons (fC (.str "BadChain")) (fCons (fE (f1 (isX ad XN (kd "BadChain")) (fV 0))) (fNil)))) (fCons (fTup (fCons (fC (.str "BadCode")) (fCons (fE (f1 (isX ad XN (kd "BadCode")) (fV 0))) (fNil)))) (fNil))))))) (sSeq (sSet 1 (fO (fE (f2 addD (fV 1) (fE (fLst (fCons (fTup (fCons (fC (.str "BadDeed")) (fCons (fE (f1 (isX ad XN (kd "BadDeed")) (fV 0))) (fNil)))) (fCons (fTup (fCons (fC (.str "BadExpression")) (fCons (fE (f1 (isX ad XN (kd "BadExpression")) (fV 0))) (fNil)))) (fNil))))))))) (sSeq (sSet 1 (fO (fE (f2 addD (fV 1) (fE (fLst (fCons (fTup (fCons (fC (.str "BadFraction")) (fCons (fE (f1 (isX ad XN (kd "BadFraction")) (fV 0))) (fNil)))) (fCons (fTup (fCons (fC (.str "BadGroups")) (fCons (fE (f1 (isX ad XN (kd "BadGroups")) (fV 0))) (fNil)))) (fNil))))))))) (sSeq (sSet 1 (fO (fE (f2 addD (fV 1) (fE (fLst (fCons (fTup (fCons (fC (.str "BadLinear")) (fCons (fE (f1 (isX ad XN (kd "BadLinear")) (fV 0))) (fNil)))) (fCons (fTup (fCons (fC (.str "BadMap")) (fCons (fE (f1 (isX ad XN (kd "BadMap")) (fV 0))) (fNil)))) (fNil))))))))) (sSeq (sSet 1 (fO (fE (f2 addD (fV 1) (fE (fLst (fCons (fTup (fCons (fC (.str "BadName")) (fCons (fE (f1 (isX ad XN (kd "BadName")) (fV 0))) (fNil)))) (fCons (fTup (fCons (fC (.str "BadNumber")) (fCons (fE (f1 (isX ad XN (kd "BadNumber")) (fV 0))) (fNil)))) (fNil))))))))) (sSeq (sSet 1 (fO (fE (f2 addD (fV 1) (fE (fLst (fCons (fTup (fCons (fC (.str "BadPaper")) (fCons (fE (f1 (isX ad XN (kd "BadPaper")) (fV 0))) (fNil)))) (fCons (fTup (fCons (fC (.str "BadPattern")) (fCons (fE (f1 (isX ad XN (kd "BadPattern")) (fV 0))) (fNil)))) (fNil))))))))) (sSeq (sSet 1 (fO (fE (f2 addD (fV 1) (fE (fLst (fCons (fTup (fCons (fC (.str "BadPoint")) (fCons (fE (f1 (isX ad XN (kd "BadPoint")) (fV 0))) (fNil)))) (fCons (fTup (fCons (fC (.str "BadProgram")) (fCons (fE (f1 (isX ad XN (kd "BadProgram")) (fV 0))) (fNil)))) (fNil))))))))) (sSeq (sSet 1 (fO (fE (f2 addD (fV 1) (fE (fLst (fCons (fTup (fCons (fC (.str "BadRule")) (fCons (fE (f1 (isX ad XN (kd "BadRule")) (fV 0))) (fNil)))) (fCons (fTup (fCons (fC (.str "BadSchedule")) (fCons (fE (f1 (isX ad XN (kd "BadSchedule")) (fV 0))) (fNil)))) (fNil))))))))) (sSeq (sSet 1 (fO (fE (f2 addD (fV 1) (fE (fLst (fCons (fTup (fCons (fC (.str "BadStart")) (fCons (fE (f1 (isX ad XN (kd "BadStart")) (fV 0))) (fNil)))) (fCons (fTup (fCons (fC (.str "BadTape")) (fCons (fE (f1 (isX ad XN (kd "BadTape")) (fV 0))) (fNil)))) (fNil))))))))) (sSeq (sSet 1 (fO (fE (f2 addD (fV 1) (fE (fLst (fCons (fTup (fCons (fC (.str "BadText")) (fCons (fE (f1 (isX ad XN (kd "BadText")) (fV 0))) (fNil)))) (fCons (fTup (fCons (fC (.str "NoSuch")) (fCons (fE (f1 (isX ad XN (kd "NoSuch")) (fV 0))) (fNil)))) (fNil))))))))) (sSeq (sSet 1 (fO (fE (f2 addD (fV 1) (fE (fLst (fCons (fTup (fCons (fC (.str "TooMany")) (fCons (fE (f1 (isX ad XN (kd "TooMany")) (fV 0))) (fNil)))) (fNil)))))))) (sSeq (sSet 1 (fO (fE (f2 addD (fV 1) (fE (fLst (fCons (fTup (fCons (fC (.str "base")) (fCons (fE (f1 (isX ad XN (kd "SlopeError")) (fV 0))) (fNil)))) (fCons (fTup (fCons (fC (.str "value")) (fCons (fE (f1 (isX ad XN (kd "ValueError")) (fV 0))) (fNil)))) (fNil))))))))) (sSeq (sSet 1 (fO (fE (f2 addD (fV 1) (fE (fLst (fCons (fTup (fCons (fC (.str "lookup")) (fCons (fE (f1 (isX ad XN (kd "LookupError")) (fV 0))) (fNil)))) (fCons (fTup (fCons (fC (.str "overflow")) (fCons (fE (f1 (isX ad XN (kd "OverflowError")) (fV 0))) (fNil)))) (fNil))))))))) (sRet (fLc 4 (fSeq (fV 1)) (gTn 2 (gsCons (gN 2) (gsCons (gN 3) (gsNil)))) (fTest (fV 3)) (fO (fV 2)) [2, 3]))))))))))))))
def F__law_kinds (ad : Str → Addr) : List D → Option FOut := fun ds => if ds.length = 1 then pOut (g__law_kinds ad (env0 3 ds)) else none
theorem F__law_kinds_n {ad : Str → Addr} : ∀ ds r, F__law_kinds ad ds = some r → ds.length = 1 := fun ds r h => by
  unfold F__law_kinds at h
  split at h
  · assumption
  · cases h
theorem sc__law_kinds : FnScope ["e", "some", "word", "is_so"] ["e"] (defScope s__law_kinds) := ⟨rfl, rfl, rfl, by decide +kernel, rfl, by decide +kernel, by decide +kernel⟩
theorem bind__law_kinds (T : Txt w K mg cm ad ai fds fdi) : Binds K (fds "_law_kinds") ["e"] [] := T.F__law_kinds.bindsN fun _ _ _ _ _ _ us hl => match us, hl with | [_], _ => rfl
theorem ok__law_kinds (T : Txt w K mg cm ad ai fds fdi) : FnG P w K mg base 1 (ad "_law_kinds") (fds "_law_kinds") ["e"] (spP K cm 1 (F__law_kinds ad)) := by
  refine fn_pure (g := (g__law_kinds ad)) T.F__law_kinds sc__law_kinds (fun ds r h => ?_) fun cdv A outer s H E hr tk => ?_
  · unfold F__law_kinds at h
    split at h
    · exact h
    · cases h
  · have nd := sc__law_kinds.nd
    have pw := passes_of (K := fun e s'' => L2.CX P w outer H s E e s'') (X := bodyX P w K mg base ["e", "some", "word", "is_so"] "_law_kinds" (defScope s__law_kinds) (ad "_law_kinds") cdv A outer s H E) rfl
    exact ⟨_, bx_cons (sx_set (i := 1) (ox_O (dx_E (ox_lst (ax_cons (dx_tup (ax_cons (dx_str) (ax_cons (dx_isX (kind := kd "BadChain") (names := XN) T.b_isinstance (dx_V 0) (dx_globR T.g_BadChain) (fun u h => h) (T.kt_BadChain)) (ax_nil)))) (ax_cons (dx_tup (ax_cons (dx_str) (ax_cons (dx_isX (kind := kd "BadCode") (names := XN) T.b_isinstance (dx_V 0) (dx_globR T.g_BadCode) (fun u h => h) (T.kt_BadCode)) (ax_nil)))) (ax_nil)))))) nd (by decide)) (bx_cons (sx_set (i := 1) (ox_O (dx_E (ox_add (dx_V 1) (dx_E (ox_lst (ax_cons (dx_tup (ax_cons (dx_str) (ax_cons (dx_isX (kind := kd "BadDeed") (names := XN) T.b_isinstance (dx_V 0) (dx_globR T.g_BadDeed) (fun u h => h) (T.kt_BadDeed)) (ax_nil)))) (ax_cons (dx_tup (ax_cons (dx_str) (ax_cons (dx_isX (kind := kd "BadExpression") (names := XN) T.b_isinstance (dx_V 0) (dx_globR T.g_BadExpression) (fun u h => h) (T.kt_BadExpression)) (ax_nil)))) (ax_nil)))))))) nd (by decide)) (bx_cons (sx_set (i := 1) (ox_O (dx_E (ox_add (dx_V 1) (dx_E (ox_lst (ax_cons (dx_tup (ax_cons (dx_str) (ax_cons (dx_isX (kind := kd "BadFraction") (names := XN) T.b_isinstance (dx_V 0) (dx_globR T.g_BadFraction) (fun u h => h) (T.kt_BadFraction)) (ax_nil)))) (ax_cons (dx_tup (ax_cons (dx_str) (ax_cons (dx_isX (kind := kd "BadGroups") (names := XN) T.b_isinstance (dx_V 0) (dx_globR T.g_BadGroups) (fun u h => h) (T.kt_BadGroups)) (ax_nil)))) (ax_nil)))))))) nd (by decide)) (bx_cons (sx_set (i := 1) (ox_O (dx_E (ox_add (dx_V 1) (dx_E (ox_lst (ax_cons (dx_tup (ax_cons (dx_str) (ax_cons (dx_isX (kind := kd "BadLinear") (names := XN) T.b_isinstance (dx_V 0) (dx_globR T.g_BadLinear) (fun u h => h) (T.kt_BadLinear)) (ax_nil)))) (ax_cons (dx_tup (ax_cons (dx_str) (ax_cons (dx_isX (kind := kd "BadMap") (names := XN) T.b_isinstance (dx_V 0) (dx_globR T.g_BadMap) (fun u h => h) (T.kt_BadMap)) (ax_nil)))) (ax_nil)))))))) nd (by decide)) (bx_cons (sx_set (i := 1) (ox_O (dx_E (ox_add (dx_V 1) (dx_E (ox_lst (ax_cons (dx_tup (ax_cons (dx_str) (ax_cons (dx_isX (kind := kd "BadName") (names := XN) T.b_isinstance (dx_V 0) (dx_globR T.g_BadName) (fun u h => h) (T.kt_BadName)) (ax_nil)))) (ax_cons (dx_tup (ax_cons (dx_str) (ax_cons (dx_isX (kind := kd "BadNumber") (names := XN) T.b_isinstance (dx_V 0) (dx_globR T.g_BadNumber) (fun u h => h) (T.kt_BadNumber)) (ax_nil)))) (ax_nil)))))))) nd (by decide)) (bx_cons (sx_set (i := 1) (ox_O (dx_E (ox_add (dx_V 1) (dx_E (ox_lst (ax_cons (dx_tup (ax_cons (dx_str) (ax_cons (dx_isX (kind := kd "BadPaper") (names := XN) T.b_isinstance (dx_V 0) (dx_globR T.g_BadPaper) (fun u h => h) (T.kt_BadPaper)) (ax_nil)))) (ax_cons (dx_tup (ax_cons (dx_str) (ax_cons (dx_isX (kind := kd "BadPattern") (names := XN) T.b_isinstance (dx_V 0) (dx_globR T.g_BadPattern) (fun u h => h) (T.kt_BadPattern)) (ax_nil)))) (ax_nil)))))))) nd (by decide)) (bx_cons (sx_set (i := 1) (ox_O (dx_E (ox_add (dx_V 1) (dx_E (ox_lst (ax_cons (dx_tup (ax_cons (dx_str) (ax_cons (dx_isX (kind := kd "BadPoint") (names := XN) T.b_isinstance (dx_V 0) (dx_globR T.g_BadPoint) (fun u h => h) (T.kt_BadPoint)) (ax_nil)))) (ax_cons (dx_tup (ax_cons (dx_str) (ax_cons (dx_isX (kind := kd "BadProgram") (names := XN) T.b_isinstance (dx_V 0) (dx_globR T.g_BadProgram) (fun u h => h) (T.kt_BadProgram)) (ax_nil)))) (ax_nil)))))))) nd (by decide)) (bx_cons (sx_set (i := 1) (ox_O (dx_E (ox_add (dx_V 1) (dx_E (ox_lst (ax_cons (dx_tup (ax_cons (dx_str) (ax_cons (dx_isX (kind := kd "BadRule") (names := XN) T.b_isinstance (dx_V 0) (dx_globR T.g_BadRule) (fun u h => h) (T.kt_BadRule)) (ax_nil)))) (ax_cons (dx_tup (ax_cons (dx_str) (ax_cons (dx_isX (kind := kd "BadSchedule") (names := XN) T.b_isinstance (dx_V 0) (dx_globR T.g_BadSchedule) (fun u h => h) (T.kt_BadSchedule)) (ax_nil)))) (ax_nil)))))))) nd (by decide)) (bx_cons (sx_set (i := 1) (ox_O (dx_E (ox_add (dx_V 1) (dx_E (ox_lst (ax_cons (dx_tup (ax_cons (dx_str) (ax_cons (dx_isX (kind := kd "BadStart") (names := XN) T.b_isinstance (dx_V 0) (dx_globR T.g_BadStart) (fun u h => h) (T.kt_BadStart)) (ax_nil)))) (ax_cons (dx_tup (ax_cons (dx_str) (ax_cons (dx_isX (kind := kd "BadTape") (names := XN) T.b_isinstance (dx_V 0) (dx_globR T.g_BadTape) (fun u h => h) (T.kt_BadTape)) (ax_nil)))) (ax_nil)))))))) nd (by decide)) (bx_cons (sx_set (i := 1) (ox_O (dx_E (ox_add (dx_V 1) (dx_E (ox_lst (ax_cons (dx_tup (ax_cons (dx_str) (ax_cons (dx_isX (kind := kd "BadText") (names := XN) T.b_isinstance (dx_V 0) (dx_globR T.g_BadText) (fun u h => h) (T.kt_BadText)) (ax_nil)))) (ax_cons (dx_tup (ax_cons (dx_str) (ax_cons (dx_isX (kind := kd "NoSuch") (names := XN) T.b_isinstance (dx_V 0) (dx_globR T.g_NoSuch) (fun u h => h) (T.kt_NoSuch)) (ax_nil)))) (ax_nil)))))))) nd (by decide)) (bx_cons (sx_set (i := 1) (ox_O (dx_E (ox_add (dx_V 1) (dx_E (ox_lst (ax_cons (dx_tup (ax_cons (dx_str) (ax_cons (dx_isX (kind := kd "TooMany") (names := XN) T.b_isinstance (dx_V 0) (dx_globR T.g_TooMany) (fun u h => h) (T.kt_TooMany)) (ax_nil)))) (ax_nil))))))) nd (by decide)) (bx_cons (sx_set (i := 1) (ox_O (dx_E (ox_add (dx_V 1) (dx_E (ox_lst (ax_cons (dx_tup (ax_cons (dx_str) (ax_cons (dx_isX (kind := kd "SlopeError") (names := XN) T.b_isinstance (dx_V 0) (dx_globR T.g_SlopeError) (fun u h => h) (T.kt_SlopeError)) (ax_nil)))) (ax_cons (dx_tup (ax_cons (dx_str) (ax_cons (dx_isX (kind := kd "ValueError") (names := XN) T.b_isinstance (dx_V 0) (pe_bltn rfl T.b_ValueError (v := .ty "ValueError") (u := .type "ValueError") (by decide +kernel) rfl (by decide) (by decide)) (fun u h => h) (T.kt_ValueError)) (ax_nil)))) (ax_nil)))))))) nd (by decide)) (bx_cons (sx_set (i := 1) (ox_O (dx_E (ox_add (dx_V 1) (dx_E (ox_lst (ax_cons (dx_tup (ax_cons (dx_str) (ax_cons (dx_isX (kind := kd "LookupError") (names := XN) T.b_isinstance (dx_V 0) (pe_bltn rfl T.b_LookupError (v := .ty "LookupError") (u := .type "LookupError") (by decide +kernel) rfl (by decide) (by decide)) (fun u h => h) (T.kt_LookupError)) (ax_nil)))) (ax_cons (dx_tup (ax_cons (dx_str) (ax_cons (dx_isX (kind := kd "OverflowError") (names := XN) T.b_isinstance (dx_V 0) (pe_bltn rfl T.b_OverflowError (v := .ty "OverflowError") (u := .type "OverflowError") (by decide +kernel) rfl (by decide) (by decide)) (fun u h => h) (T.kt_OverflowError)) (ax_nil)))) (ax_nil)))))))) nd (by decide)) (bx_one (sx_ret (oxe (oe_comp [("word", 2), ("is_so", 3)] rfl nd (blkOk_by (own := [("word", 2), ("is_so", 3)]) (N := ["e", "some", "word", "is_so"]) (sc := defScope s__law_kinds) (by decide +kernel)) rfl (ix_seq' (dx_V 1)) (fun _ _ _ _ _ => ge (gx_T rfl (gsx_cons (gx_N (i := 2) nd (by decide)) (gsx_cons (gx_N (i := 3) nd (by decide)) (gsx_nil))))) (fun _ _ _ _ _ => tse (tsx_one (tx_val (dx_V 3)))) (fun _ _ _ _ _ => oe (ox_O (dx_V 2)))))))))))))))))))⟩
/-! _law_valued -/
def g__law_valued (ad : Str → Addr) : FS := sSeq (sSet 1 (fO (fE (fLst (fCons (fTup (fCons (fMk (ad "BadNumber") "value" "no such number" (fV 0)) (fCons (fMk (ad "BadNumber") "value" "no such number" (fV 0)) (fCons (fC (.str "BadNumber")) (fNil))))) (fNil)))))) (sSeq (sSet 1 (fO (fE (f2 addD (fV 1) (fE (fLst (fCons (fTup (fCons (fMk (ad "BadName") "value" "no such name" (fV 0)) (fCons (fMk (ad "BadName") "value" "no such name" (fV 0)) (fCons (fC (.str "BadName")) (fNil))))) (fNil)))))))) (sRet (f2 addD (fV 1) (fE (fLst (fCons (fTup (fCons (fMk (ad "BadFraction") "value" "no such fraction" (fV 0)) (fCons (fMk (ad "BadFraction") "value" "no such fraction" (fV 0)) (fCons (fC (.str "BadFraction")) (fNil))))) (fNil)))))))
def F__law_valued (ad : Str → Addr) : List D → Option FOut := fun ds => if ds.length = 1 then pOut (g__law_valued ad (env0 1 ds)) else none
theorem F__law_valued_n {ad : Str → Addr} : ∀ ds r, F__law_valued ad ds = some r → ds.length = 1 := fun ds r h => by
  unfold F__law_valued at h
  split at h
  · assumption
  · cases h
theorem sc__law_valued : FnScope ["thing", "found"] ["thing"] (defScope s__law_valued) := ⟨rfl, rfl, rfl, by decide +kernel, rfl, by decide +kernel, by decide +kernel⟩
theorem bind__law_valued (T : Txt w K mg cm ad ai fds fdi) : Binds K (fds "_law_valued") ["thing"] [] := T.F__law_valued.bindsN fun _ _ _ _ _ _ us hl => match us, hl with | [_], _ => rfl
theorem ok__law_valued (T : Txt w K mg cm ad ai fds fdi) : FnG P w K mg base 3 (ad "_law_valued") (fds "_law_valued") ["thing"] (spP K cm 1 (F__law_valued ad)) := by
  refine fn_pure (g := (g__law_valued ad)) T.F__law_valued sc__law_valued (fun ds r h => ?_) fun cdv A outer s H E hr tk => ?_
  · unfold F__law_valued at h
    split at h
    · exact h
    · cases h
  · have nd := sc__law_valued.nd
    have pw := passes_of (K := fun e s'' => L2.CX P w outer H s E e s'') (X := bodyX P w K mg base ["thing", "found"] "_law_valued" (defScope s__law_valued) (ad "_law_valued") cdv A outer s H E) rfl
    exact ⟨_, bx_cons (sx_set (i := 1) (ox_O (dx_E (ox_lst (ax_cons (dx_tup (ax_cons (dx_mk1 (mk_BadNumber T) (hr.1.mono (by decide)) tk T.g_BadNumber (fun _ _ _ hk => hb1_BadNumber T hk) (dx_V 0)) (ax_cons (dx_mkK (mk_BadNumber T) (hr.1.mono (by decide)) tk T.g_BadNumber (fun _ _ _ hk => hbK_BadNumber T hk) (dx_V 0)) (ax_cons (dx_str) (ax_nil))))) (ax_nil))))) nd (by decide)) (bx_cons (sx_set (i := 1) (ox_O (dx_E (ox_add (dx_V 1) (dx_E (ox_lst (ax_cons (dx_tup (ax_cons (dx_mk1 (mk_BadName T) (hr.1.mono (by decide)) tk T.g_BadName (fun _ _ _ hk => hb1_BadName T hk) (dx_V 0)) (ax_cons (dx_mkK (mk_BadName T) (hr.1.mono (by decide)) tk T.g_BadName (fun _ _ _ hk => hbK_BadName T hk) (dx_V 0)) (ax_cons (dx_str) (ax_nil))))) (ax_nil))))))) nd (by decide)) (bx_one (sx_ret (ox_add (dx_V 1) (dx_E (ox_lst (ax_cons (dx_tup (ax_cons (dx_mk1 (mk_BadFraction T) (hr.1.mono (by decide)) tk T.g_BadFraction (fun _ _ _ hk => hb1_BadFraction T hk) (dx_V 0)) (ax_cons (dx_mkK (mk_BadFraction T) (hr.1.mono (by decide)) tk T.g_BadFraction (fun _ _ _ hk => hbK_BadFraction T hk) (dx_V 0)) (ax_cons (dx_str) (ax_nil))))) (ax_nil))))))))⟩
/-! _law_placed -/
def g__law_placed (ad : Str → Addr) : FS := sSeq (sSet 1 (fO (fE (fLst (fCons (fTup (fCons (fMk (ad "BadExpression") "place" "no such expression" (fV 0)) (fCons (fMk (ad "BadExpression") "place" "no such expression" (fV 0)) (fCons (fC (.str "BadExpression")) (fNil))))) (fNil)))))) (sSeq (sSet 1 (fO (fE (f2 addD (fV 1) (fE (fLst (fCons (fTup (fCons (fMk (ad "BadProgram") "place" "no such program" (fV 0)) (fCons (fMk (ad "BadProgram") "place" "no such program" (fV 0)) (fCons (fC (.str "BadProgram")) (fNil))))) (fNil)))))))) (sSeq (sSet 1 (fO (fE (f2 addD (fV 1) (fE (fLst (fCons (fTup (fCons (fMk (ad "BadTape") "place" "no such tape" (fV 0)) (fCons (fMk (ad "BadTape") "place" "no such tape" (fV 0)) (fCons (fC (.str "BadTape")) (fNil))))) (fNil)))))))) (sSeq (sSet 1 (fO (fE (f2 addD (fV 1) (fE (fLst (fCons (fTup (fCons (fMk (ad "BadPoint") "place" "no such point" (fV 0)) (fCons (fMk (ad "BadPoint") "place" "no such point" (fV 0)) (fCons (fC (.str "BadPoint")) (fNil))))) (fNil)))))))) (sSeq (sSet 1 (fO (fE (f2 addD (fV 1) (fE (fLst (fCons (fTup (fCons (fMk (ad "BadText") "place" "no such text" (fV 0)) (fCons (fMk (ad "BadText") "place" "no such text" (fV 0)) (fCons (fC (.str "BadText")) (fNil))))) (fNil)))))))) (sSeq (sSet 1 (fO (fE (f2 addD (fV 1) (fE (fLst (fCons (fTup (fCons (fMk (ad "BadPaper") "place" "no such paper" (fV 0)) (fCons (fMk (ad "BadPaper") "place" "no such paper" (fV 0)) (fCons (fC (.str "BadPaper")) (fNil))))) (fNil)))))))) (sSeq (sSet 1 (fO (fE (f2 addD (fV 1) (fE (fLst (fCons (fTup (fCons (fMk (ad "BadLinear") "place" "no such linear tape" (fV 0)) (fCons (fMk (ad "BadLinear") "place" "no such linear tape" (fV 0)) (fCons (fC (.str "BadLinear")) (fNil))))) (fNil)))))))) (sSeq (sSet 1 (fO (fE (f2 addD (fV 1) (fE (fLst (fCons (fTup (fCons (fMk (ad "BadRule") "place" "no such rule" (fV 0)) (fCons (fMk (ad "BadRule") "place" "no such rule" (fV 0)) (fCons (fC (.str "BadRule")) (fNil))))) (fNil)))))))) (sSeq (sSet 1 (fO (fE (f2 addD (fV 1) (fE (fLst (fCons (fTup (fCons (fMk (ad "BadChain") "place" "no such chain" (fV 0)) (fCons (fMk (ad "BadChain") "place" "no such chain" (fV 0)) (fCons (fC (.str "BadChain")) (fNil))))) (fNil)))))))) (sSeq (sSet 1 (fO (fE (f2 addD (fV 1) (fE (fLst (fCons (fTup (fCons (fMk (ad "BadSchedule") "place" "no such schedule" (fV 0)) (fCons (fMk (ad "BadSchedule") "place" "no such schedule" (fV 0)) (fCons (fC (.str "BadSchedule")) (fNil))))) (fNil)))))))) (sSeq (sSet 1 (fO (fE (f2 addD (fV 1) (fE (fLst (fCons (fTup (fCons (fMk (ad "BadCode") "place" "no such code" (fV 0)) (fCons (fMk (ad "BadCode") "place" "no such code" (fV 0)) (fCons (fC (.str "BadCode")) (fNil))))) (fNil)))))))) (sSeq (sSet 1 (fO (fE (f2 addD (fV 1) (fE (fLst (fCons (fTup (fCons (fMk (ad "BadPattern") "place" "no such pattern" (fV 0)) (fCons (fMk (ad "BadPattern") "place" "no such pattern" (fV 0)) (fCons (fC (.str "BadPattern")) (fNil))))) (fNil)))))))) (sSeq (sSet 1 (fO (fE (f2 addD (fV 1) (fE (fLst (fCons (fTup (fCons (fMk (ad "BadGroups") "place" "no such groups" (fV 0)) (fCons (fMk (ad "BadGroups") "place" "no such groups" (fV 0)) (fCons (fC (.str "BadGroups")) (fNil))))) (fNil)))))))) (sSeq (sSet 1 (fO (fE (f2 addD (fV 1) (fE (fLst (fCons (fTup (fCons (fMk (ad "BadStart") "place" "no such start" (fV 0)) (fCons (fMk (ad "BadStart") "place" "no such start" (fV 0)) (fCons (fC (.str "BadStart")) (fNil))))) (fNil)))))))) (sSeq (sSet 1 (fO (fE (f2 addD (fV 1) (fE (fLst (fCons (fTup (fCons (fMk (ad "BadMap") "place" "no such mapping" (fV 0)) (fCons (fMk (ad "BadMap") "place" "no such mapping" (fV 0)) (fCons (fC (.str "BadMap")) (fNil))))) (fNil)))))))) (sRet (f2 addD (fV 1) (fE (fLst (fCons (fTup (fCons (fMk (ad "BadDeed") "place" "no such deed" (fV 0)) (fCons (fMk (ad "BadDeed") "place" "no such deed" (fV 0)) (fCons (fC (.str "BadDeed")) (fNil))))) (fNil))))))))))))))))))))
def F__law_placed (ad : Str → Addr) : List D → Option FOut := fun ds => if ds.length = 1 then pOut (g__law_placed ad (env0 1 ds)) else none
theorem F__law_placed_n {ad : Str → Addr} : ∀ ds r, F__law_placed ad ds = some r → ds.length = 1 := fun ds r h => by
  unfold F__law_placed at h
  split at h
  · assumption
  · cases h
theorem sc__law_placed : FnScope ["thing", "found"] ["thing"] (defScope s__law_placed) := ⟨rfl, rfl, rfl, by decide +kernel, rfl, by decide +kernel, by decide +kernel⟩
theorem bind__law_placed (T : Txt w K mg cm ad ai fds fdi) : Binds K (fds "_law_placed") ["thing"] [] := T.F__law_placed.bindsN fun _ _ _ _ _ _ us hl => match us, hl with | [_], _ => rfl
theorem ok__law_placed (T : Txt w K mg cm ad ai fds fdi) : FnG P w K mg base 3 (ad "_law_placed") (fds "_law_placed") ["thing"] (spP K cm 1 (F__law_placed ad)) := by
  refine fn_pure (g := (g__law_placed ad)) T.F__law_placed sc__law_placed (fun ds r h => ?_) fun cdv A outer s H E hr tk => ?_
  · unfold F__law_placed at h
    split at h
    · exact h
    · cases h
  · have nd := sc__law_placed.nd
    have pw := passes_of (K := fun e s'' => L2.CX P w outer H s E e s'') (X := bodyX P w K mg base ["thing", "found"] "_law_placed" (defScope s__law_placed) (ad "_law_placed") cdv A outer s H E) rfl
    exact ⟨_, bx_cons (sx_set (i := 1) (ox_O (dx_E (ox_lst (ax_cons (dx_tup (ax_cons (dx_mk1 (mk_BadExpression T) (hr.1.mono (by decide)) tk T.g_BadExpression (fun _ _ _ hk => hb1_BadExpression T hk) (dx_V 0)) (ax_cons (dx_mkK (mk_BadExpression T) (hr.1.mono (by decide)) tk T.g_BadExpression (fun _ _ _ hk => hbK_BadExpression T hk) (dx_V 0)) (ax_cons (dx_str) (ax_nil))))) (ax_nil))))) nd (by decide)) (bx_cons (sx_set (i := 1) (ox_O (dx_E (ox_add (dx_V 1) (dx_E (ox_lst (ax_cons (dx_tup (ax_cons (dx_mk1 (mk_BadProgram T) (hr.1.mono (by decide)) tk T.g_BadProgram (fun _ _ _ hk => hb1_BadProgram T hk) (dx_V 0)) (ax_cons (dx_mkK (mk_BadProgram T) (hr.1.mono (by decide)) tk T.g_BadProgram (fun _ _ _ hk => hbK_BadProgram T hk) (dx_V 0)) (ax_cons (dx_str) (ax_nil))))) (ax_nil))))))) nd (by decide)) (bx_cons (sx_set (i := 1) (ox_O (dx_E (ox_add (dx_V 1) (dx_E (ox_lst (ax_cons (dx_tup (ax_cons (dx_mk1 (mk_BadTape T) (hr.1.mono (by decide)) tk T.g_BadTape (fun _ _ _ hk => hb1_BadTape T hk) (dx_V 0)) (ax_cons (dx_mkK (mk_BadTape T) (hr.1.mono (by decide)) tk T.g_BadTape (fun _ _ _ hk => hbK_BadTape T hk) (dx_V 0)) (ax_cons (dx_str) (ax_nil))))) (ax_nil))))))) nd (by decide)) (bx_cons (sx_set (i := 1) (ox_O (dx_E (ox_add (dx_V 1) (dx_E (ox_lst (ax_cons (dx_tup (ax_cons (dx_mk1 (mk_BadPoint T) (hr.1.mono (by decide)) tk T.g_BadPoint (fun _ _ _ hk => hb1_BadPoint T hk) (dx_V 0)) (ax_cons (dx_mkK (mk_BadPoint T) (hr.1.mono (by decide)) tk T.g_BadPoint (fun _ _ _ hk => hbK_BadPoint T hk) (dx_V 0)) (ax_cons (dx_str) (ax_nil))))) (ax_nil))))))) nd (by decide)) (bx_cons (sx_set (i := 1) (ox_O (dx_E (ox_add (dx_V 1) (dx_E (ox_lst (ax_cons (dx_tup (ax_cons (dx_mk1 (mk_BadText T) (hr.1.mono (by decide)) tk T.g_BadText (fun _ _ _ hk => hb1_BadText T hk) (dx_V 0)) (ax_cons (dx_mkK (mk_BadText T) (hr.1.mono (by decide)) tk T.g_BadText (fun _ _ _ hk => hbK_BadText T hk) (dx_V 0)) (ax_cons (dx_str) (ax_nil))))) (ax_nil))))))) nd (by decide)) (bx_cons (sx_set (i := 1) (ox_O (dx_E (ox_add (dx_V 1) (dx_E (ox_lst (ax_cons (dx_tup (ax_cons (dx_mk1 (mk_BadPaper T) (hr.1.mono (by decide)) tk T.g_BadPaper (fun _ _ _ hk => hb1_BadPaper T hk) (dx_V 0)) (ax_cons (dx_mkK (mk_BadPaper T) (hr.1.mono (by decide)) tk T.g_BadPaper (fun _ _ _ hk => hbK_BadPaper T hk) (dx_V 0)) (ax_cons (dx_str) (ax_nil))))) (ax_nil))))))) nd (by decide)) (bx_cons (sx_set (i := 1) (ox_O (dx_E (ox_add (dx_V 1) (dx_E (ox_lst (ax_cons (dx_tup (ax_cons (dx_mk1 (mk_BadLinear T) (hr.1.mono (by decide)) tk T.g_BadLinear (fun _ _ _ hk => hb1_BadLinear T hk) (dx_V 0)) (ax_cons (dx_mkK (mk_BadLinear T) (hr.1.mono (by decide)) tk T.g_BadLinear (fun _ _ _ hk => hbK_BadLinear T hk) (dx_V 0)) (ax_cons (dx_str) (ax_nil))))) (ax_nil))))))) nd (by decide)) (bx_cons (sx_set (i := 1) (ox_O (dx_E (ox_add (dx_V 1) (dx_E (ox_lst (ax_cons (dx_tup (ax_cons (dx_mk1 (mk_BadRule T) (hr.1.mono (by decide)) tk T.g_BadRule (fun _ _ _ hk => hb1_BadRule T hk) (dx_V 0)) (ax_cons (dx_mkK (mk_BadRule T) (hr.1.mono (by decide)) tk T.g_BadRule (fun _ _ _ hk => hbK_BadRule T hk) (dx_V 0)) (ax_cons (dx_str) (ax_nil))))) (ax_nil))))))) nd (by decide)) (bx_cons (sx_set (i := 1) (ox_O (dx_E (ox_add (dx_V 1) (dx_E (ox_lst (ax_cons (dx_tup (ax_cons (dx_mk1 (mk_BadChain T) (hr.1.mono (by decide)) tk T.g_BadChain (fun _ _ _ hk => hb1_BadChain T hk) (dx_V 0)) (ax_cons (dx_mkK (mk_BadChain T) (hr.1.mono (by decide)) tk T.g_BadChain (fun _ _ _ hk => hbK_BadChain T hk) (dx_V 0)) (ax_cons (dx_str) (ax_nil))))) (ax_nil))))))) nd (by decide)) (bx_cons (sx_set (i := 1) (ox_O (dx_E (ox_add (dx_V 1) (dx_E (ox_lst (ax_cons (dx_tup (ax_cons (dx_mk1 (mk_BadSchedule T) (hr.1.mono (by decide)) tk T.g_BadSchedule (fun _ _ _ hk => hb1_BadSchedule T hk) (dx_V 0)) (ax_cons (dx_mkK (mk_BadSchedule T) (hr.1.mono (by decide)) tk T.g_BadSchedule (fun _ _ _ hk => hbK_BadSchedule T hk) (dx_V 0)) (ax_cons (dx_str) (ax_nil))))) (ax_nil))))))) nd (by decide)) (bx_cons (sx_set (i := 1) (ox_O (dx_E (ox_add (dx_V 1) (dx_E (ox_lst (ax_cons (dx_tup (ax_cons (dx_mk1 (mk_BadCode T) (hr.1.mono (by decide)) tk T.g_BadCode (fun _ _ _ hk => hb1_BadCode T hk) (dx_V 0)) (ax_cons (dx_mkK (mk_BadCode T) (hr.1.mono (by decide)) tk T.g_BadCode (fun _ _ _ hk => hbK_BadCode T hk) (dx_V 0)) (ax_cons (dx_str) (ax_nil))))) (ax_nil))))))) nd (by decide)) (bx_cons (sx_set (i := 1) (ox_O (dx_E (ox_add (dx_V 1) (dx_E (ox_lst (ax_cons (dx_tup (ax_cons (dx_mk1 (mk_BadPattern T) (hr.1.mono (by decide)) tk T.g_BadPattern (fun _ _ _ hk => hb1_BadPattern T hk) (dx_V 0)) (ax_cons (dx_mkK (mk_BadPattern T) (hr.1.mono (by decide)) tk T.g_BadPattern (fun _ _ _ hk => hbK_BadPattern T hk) (dx_V 0)) (ax_cons (dx_str) (ax_nil))))) (ax_nil))))))) nd (by decide)) (bx_cons (sx_set (i := 1) (ox_O (dx_E (ox_add (dx_V 1) (dx_E (ox_lst (ax_cons (dx_tup (ax_cons (dx_mk1 (mk_BadGroups T) (hr.1.mono (by decide)) tk T.g_BadGroups (fun _ _ _ hk => hb1_BadGroups T hk) (dx_V 0)) (ax_cons (dx_mkK (mk_BadGroups T) (hr.1.mono (by decide)) tk T.g_BadGroups (fun _ _ _ hk => hbK_BadGroups T hk) (dx_V 0)) (ax_cons (dx_str) (ax_nil))))) (ax_nil))))))) nd (by decide)) (bx_cons (sx_set (i := 1) (ox_O (dx_E (ox_add (dx_V 1) (dx_E (ox_lst (ax_cons (dx_tup (ax_cons (dx_mk1 (mk_BadStart T) (hr.1.mono (by decide)) tk T.g_BadStart (fun _ _ _ hk => hb1_BadStart T hk) (dx_V 0)) (ax_cons (dx_mkK (mk_BadStart T) (hr.1.mono (by decide)) tk T.g_BadStart (fun _ _ _ hk => hbK_BadStart T hk) (dx_V 0)) (ax_cons (dx_str) (ax_nil))))) (ax_nil))))))) nd (by decide)) (bx_cons (sx_set (i := 1) (ox_O (dx_E (ox_add (dx_V 1) (dx_E (ox_lst (ax_cons (dx_tup (ax_cons (dx_mk1 (mk_BadMap T) (hr.1.mono (by decide)) tk T.g_BadMap (fun _ _ _ hk => hb1_BadMap T hk) (dx_V 0)) (ax_cons (dx_mkK (mk_BadMap T) (hr.1.mono (by decide)) tk T.g_BadMap (fun _ _ _ hk => hbK_BadMap T hk) (dx_V 0)) (ax_cons (dx_str) (ax_nil))))) (ax_nil))))))) nd (by decide)) (bx_one (sx_ret (ox_add (dx_V 1) (dx_E (ox_lst (ax_cons (dx_tup (ax_cons (dx_mk1 (mk_BadDeed T) (hr.1.mono (by decide)) tk T.g_BadDeed (fun _ _ _ hk => hb1_BadDeed T hk) (dx_V 0)) (ax_cons (dx_mkK (mk_BadDeed T) (hr.1.mono (by decide)) tk T.g_BadDeed (fun _ _ _ hk => hbK_BadDeed T hk) (dx_V 0)) (ax_cons (dx_str) (ax_nil))))) (ax_nil)))))))))))))))))))))⟩
/-! _law_right -/
def g__law_right (ad : Str → Addr) : FS := sSeq (sFor (fSeq (fE (fCall (F__law_valued ad) (fCons (fV 0) (fNil))))) (gTn 3 (gsCons (gN 1) (gsCons (gN 2) (gsCons (gN 3) (gsNil))))) (sSeq (sIf (fOr (fTest (fE (f2 (neD) (fE (fCall (F__law_kinds ad) (fCons (fV 1) (fNil)))) (fE (fLst (fCons (fV 3) (fCons (fC (.str "base")) (fCons (fC (.str "value")) (fNil))))))))) (fTest (fE (f2 (neD) (fE (fCall (F__law_kinds ad) (fCons (fV 2) (fNil)))) (fE (fLst (fCons (fV 3) (fCons (fC (.str "base")) (fCons (fC (.str "value")) (fNil)))))))))) (sRet (fO (fC (.bl false)))) (sNop)) (sIf (fOr (fTest (fE (f2 (neD) (fAttr ad N_value "value" (fV 1)) (fV 0)))) (fTest (fE (f2 (neD) (fAttr ad N_value "value" (fV 2)) (fV 0))))) (sRet (fO (fC (.bl false)))) (sNop))) []) (sSeq (sFor (fSeq (fE (fCall (F__law_placed ad) (fCons (fV 0) (fNil))))) (gTn 3 (gsCons (gN 1) (gsCons (gN 2) (gsCons (gN 3) (gsNil))))) (sSeq (sIf (fOr (fTest (fE (f2 (neD) (fE (fCall (F__law_kinds ad) (fCons (fV 1) (fNil)))) (fE (fLst (fCons (fV 3) (fCons (fC (.str "base")) (fCons (fC (.str "value")) (fNil))))))))) (fTest (fE (f2 (neD) (fE (fCall (F__law_kinds ad) (fCons (fV 2) (fNil)))) (fE (fLst (fCons (fV 3) (fCons (fC (.str "base")) (fCons (fC (.str "value")) (fNil)))))))))) (sRet (fO (fC (.bl false)))) (sNop)) (sIf (fOr (fTest (fE (f2 (neD) (fAttr ad N_place "place" (fV 1)) (fV 0)))) (fTest (fE (f2 (neD) (fAttr ad N_place "place" (fV 2)) (fV 0))))) (sRet (fO (fC (.bl false)))) (sNop))) [2, 3]) (sSeq (sFor (fSeq (fTup (fCons (fMk (ad "NoSuch") "value" "nothing so called" (fV 0)) (fCons (fMk (ad "NoSuch") "value" "nothing so called" (fV 0)) (fNil))))) (gN 1) (sIf (fOr (fTest (fE (f2 (neD) (fE (fCall (F__law_kinds ad) (fCons (fV 1) (fNil)))) (fE (fLst (fCons (fC (.str "NoSuch")) (fCons (fC (.str "lookup")) (fNil)))))))) (fTest (fE (f2 (neD) (fAttr ad N_value "value" (fV 1)) (fV 0))))) (sRet (fO (fC (.bl false)))) (sNop)) []) (sSeq (sFor (fSeq (fTup (fCons (fMk (ad "TooMany") "most" "too many" (fV 0)) (fCons (fMk (ad "TooMany") "most" "too many" (fV 0)) (fNil))))) (gN 1) (sIf (fOr (fTest (fE (f2 (neD) (fE (fCall (F__law_kinds ad) (fCons (fV 1) (fNil)))) (fE (fLst (fCons (fC (.str "TooMany")) (fCons (fC (.str "overflow")) (fNil)))))))) (fTest (fE (f2 (neD) (fAttr ad N_most "most" (fV 1)) (fV 0))))) (sRet (fO (fC (.bl false)))) (sNop)) [1]) (sRet (fO (fC (.bl true)))))))
def F__law_right (ad : Str → Addr) : List D → Option FOut := fun ds => if ds.length = 1 then pOut (g__law_right ad (env0 3 ds)) else none
theorem F__law_right_n {ad : Str → Addr} : ∀ ds r, F__law_right ad ds = some r → ds.length = 1 := fun ds r h => by
  unfold F__law_right at h
  split at h
  · assumption
  · cases h
theorem sc__law_right : FnScope ["thing", "one", "other", "name"] ["thing"] (defScope s__law_right) := ⟨rfl, rfl, rfl, by decide +kernel, rfl, by decide +kernel, by decide +kernel⟩
theorem bind__law_right (T : Txt w K mg cm ad ai fds fdi) : Binds K (fds "_law_right") ["thing"] [] := T.F__law_right.bindsN fun _ _ _ _ _ _ us hl => match us, hl with | [_], _ => rfl
theorem ok__law_right (T : Txt w K mg cm ad ai fds fdi) : FnG P w K mg base 4 (ad "_law_right") (fds "_law_right") ["thing"] (spP K cm 1 (F__law_right ad)) := by
  refine fn_pure (g := (g__law_right ad)) T.F__law_right sc__law_right (fun ds r h => ?_) fun cdv A outer s H E hr tk => ?_
  · unfold F__law_right at h
    split at h
    · exact h
    · cases h
  · have nd := sc__law_right.nd
    have pw := passes_of (K := fun e s'' => L2.CX P w outer H s E e s'') (X := bodyX P w K mg base ["thing", "one", "other", "name"] "_law_right" (defScope s__law_right) (ad "_law_right") cdv A outer s H E) rfl
    exact ⟨_, bx_cons (sx_for pw rfl (ix_seq' (dx_E (ox_call (ok__law_valued T) (hr.mono (by decide)) (by rfl) T.g__law_valued T.F__law_valued.kp (bind__law_valued T) tk (F__law_valued_n (ad := ad)) (ax_cons (dx_V 0) (ax_nil))))) (gx_T rfl (gsx_cons (gx_N (i := 1) nd (by decide)) (gsx_cons (gx_N (i := 2) nd (by decide)) (gsx_cons (gx_N (i := 3) nd (by decide)) (gsx_nil))))) (bx_cons (sx_if (tx_W (wx_or (tx_cmp (cmp_ne hr.units) (dx_E (ox_call (ok__law_kinds T) (hr.mono (by decide)) (by rfl) T.g__law_kinds T.F__law_kinds.kp (bind__law_kinds T) tk (F__law_kinds_n (ad := ad)) (ax_cons (dx_V 1) (ax_nil)))) (dx_E (ox_lst (ax_cons (dx_V 3) (ax_cons (dx_str) (ax_cons (dx_str) (ax_nil)))))) (nomark _)) (wx_or1 (tx_cmp (cmp_ne hr.units) (dx_E (ox_call (ok__law_kinds T) (hr.mono (by decide)) (by rfl) T.g__law_kinds T.F__law_kinds.kp (bind__law_kinds T) tk (F__law_kinds_n (ad := ad)) (ax_cons (dx_V 2) (ax_nil)))) (dx_E (ox_lst (ax_cons (dx_V 3) (ax_cons (dx_str) (ax_cons (dx_str) (ax_nil)))))) (nomark _))))) (bx_one (sx_ret (ox_O (dx_bl)))) (bx_nil)) (bx_one (sx_if (tx_W (wx_or (tx_cmp (cmp_ne hr.units) (dx_attr (ad := ad) (names := N_value) (dx_V 1) (fun c hc => xn_value T c hc)) (dx_V 0) (nomark _)) (wx_or1 (tx_cmp (cmp_ne hr.units) (dx_attr (ad := ad) (names := N_value) (dx_V 2) (fun c hc => xn_value T c hc)) (dx_V 0) (nomark _))))) (bx_one (sx_ret (ox_O (dx_bl)))) (bx_nil))))) (bx_cons (sx_for pw rfl (ix_seq' (dx_E (ox_call (ok__law_placed T) (hr.mono (by decide)) (by rfl) T.g__law_placed T.F__law_placed.kp (bind__law_placed T) tk (F__law_placed_n (ad := ad)) (ax_cons (dx_V 0) (ax_nil))))) (gx_T rfl (gsx_cons (gx_N (i := 1) nd (by decide)) (gsx_cons (gx_N (i := 2) nd (by decide)) (gsx_cons (gx_N (i := 3) nd (by decide)) (gsx_nil))))) (bx_cons (sx_if (tx_W (wx_or (tx_cmp (cmp_ne hr.units) (dx_E (ox_call (ok__law_kinds T) (hr.mono (by decide)) (by rfl) T.g__law_kinds T.F__law_kinds.kp (bind__law_kinds T) tk (F__law_kinds_n (ad := ad)) (ax_cons (dx_V 1) (ax_nil)))) (dx_E (ox_lst (ax_cons (dx_V 3) (ax_cons (dx_str) (ax_cons (dx_str) (ax_nil)))))) (nomark _)) (wx_or1 (tx_cmp (cmp_ne hr.units) (dx_E (ox_call (ok__law_kinds T) (hr.mono (by decide)) (by rfl) T.g__law_kinds T.F__law_kinds.kp (bind__law_kinds T) tk (F__law_kinds_n (ad := ad)) (ax_cons (dx_V 2) (ax_nil)))) (dx_E (ox_lst (ax_cons (dx_V 3) (ax_cons (dx_str) (ax_cons (dx_str) (ax_nil)))))) (nomark _))))) (bx_one (sx_ret (ox_O (dx_bl)))) (bx_nil)) (bx_one (sx_if (tx_W (wx_or (tx_cmp (cmp_ne hr.units) (dx_attr (ad := ad) (names := N_place) (dx_V 1) (fun c hc => xn_place T c hc)) (dx_V 0) (nomark _)) (wx_or1 (tx_cmp (cmp_ne hr.units) (dx_attr (ad := ad) (names := N_place) (dx_V 2) (fun c hc => xn_place T c hc)) (dx_V 0) (nomark _))))) (bx_one (sx_ret (ox_O (dx_bl)))) (bx_nil))))) (bx_cons (sx_for pw rfl (ix_seq' (dx_tup (ax_cons (dx_mk1 (mk_NoSuch T) (hr.1.mono (by decide)) tk T.g_NoSuch (fun _ _ _ hk => hb1_NoSuch T hk) (dx_V 0)) (ax_cons (dx_mkK (mk_NoSuch T) (hr.1.mono (by decide)) tk T.g_NoSuch (fun _ _ _ hk => hbK_NoSuch T hk) (dx_V 0)) (ax_nil))))) (gx_N (i := 1) nd (by decide)) (bx_one (sx_if (tx_W (wx_or (tx_cmp (cmp_ne hr.units) (dx_E (ox_call (ok__law_kinds T) (hr.mono (by decide)) (by rfl) T.g__law_kinds T.F__law_kinds.kp (bind__law_kinds T) tk (F__law_kinds_n (ad := ad)) (ax_cons (dx_V 1) (ax_nil)))) (dx_E (ox_lst (ax_cons (dx_str) (ax_cons (dx_str) (ax_nil))))) (nomark _)) (wx_or1 (tx_cmp (cmp_ne hr.units) (dx_attr (ad := ad) (names := N_value) (dx_V 1) (fun c hc => xn_value T c hc)) (dx_V 0) (nomark _))))) (bx_one (sx_ret (ox_O (dx_bl)))) (bx_nil)))) (bx_cons (sx_for pw rfl (ix_seq' (dx_tup (ax_cons (dx_mk1 (mk_TooMany T) (hr.1.mono (by decide)) tk T.g_TooMany (fun _ _ _ hk => hb1_TooMany T hk) (dx_V 0)) (ax_cons (dx_mkK (mk_TooMany T) (hr.1.mono (by decide)) tk T.g_TooMany (fun _ _ _ hk => hbK_TooMany T hk) (dx_V 0)) (ax_nil))))) (gx_N (i := 1) nd (by decide)) (bx_one (sx_if (tx_W (wx_or (tx_cmp (cmp_ne hr.units) (dx_E (ox_call (ok__law_kinds T) (hr.mono (by decide)) (by rfl) T.g__law_kinds T.F__law_kinds.kp (bind__law_kinds T) tk (F__law_kinds_n (ad := ad)) (ax_cons (dx_V 1) (ax_nil)))) (dx_E (ox_lst (ax_cons (dx_str) (ax_cons (dx_str) (ax_nil))))) (nomark _)) (wx_or1 (tx_cmp (cmp_ne hr.units) (dx_attr (ad := ad) (names := N_most) (dx_V 1) (fun c hc => xn_most T c hc)) (dx_V 0) (nomark _))))) (bx_one (sx_ret (ox_O (dx_bl)))) (bx_nil)))) (bx_one (sx_ret (ox_O (dx_bl)))))))⟩
/-! law -/
def g_law (ad : Str → Addr) : FS := sSeq (sFor (iA iEn2 (fCons (fE (f2 addD (fE (fSl cutD (fV 0) (fNoPart) (fPart (fC (.int 4))))) (fE (fLst (fCons (fE (fN (N1 sumD) (fCons (fV 0) (fNil)))) (fNil)))))) fNil)) (gTn 2 (gsCons (gN 1) (gsCons (gN 2) (gsNil)))) (sSeq (sSet 3 (fCall (F__law_draw ad) (fCons (fV 2) (fCons (fV 1) (fNil))))) (sSeq (sSet 4 (fO (fE (fCallL 3 (F__law_digit ad) (fCons (fC (.int 100000)) (fNil)))))) (sSeq (sSet 5 (fO (fE (fLst (fCons (fV 4) (fCons (fE (f2 subD (fC (.int 0)) (fV 4))) (fCons (fE (f2 mulD (fC (.str "ab")) (fE (f2 modD (fV 4) (fC (.int 50)))))) (fCons (fTup (fCons (fC (.str "atom")) (fCons (fTup (fCons (fC (.int 0)) (fCons (fV 4) (fNil)))) (fNil)))) (fCons (fC .non) (fCons (fTup (fCons (fE (f2 powD (fC (.int 10)) (fC (.int 30)))) (fCons (fTup (fNil)) (fNil)))) (fCons (fE (f2 mulD (fTup (fCons (fV 4) (fNil))) (fC (.int 9)))) (fNil)))))))))))) (sIf (fOr (fNot (fTest (fE (fCall (F__law_right ad) (fCons (fE (f2 atD (fV 5) (fE (fCallL 3 (F__law_digit ad) (fCons (fC (.int 7)) (fNil)))))) (fNil)))))) (fNot (fTest (fE (fCall (F__law_right ad) (fCons (fE (f2 powD (fE (f2 powD (fE (f2 powD (fC (.int 10)) (fC (.int 50)))) (fC (.int 50)))) (fC (.int 2)))) (fNil))))))) (sRet (fO (fC (.bl false)))) (sNop))))) [1, 2, 3, 4]) (sSeq (sSet 5 (fO (fE (fLst (fCons (fMk (ad "BadNumber") "value" "no such number" (fC .non)) (fCons (fMk (ad "BadName") "value" "no such name" (fC .non)) (fCons (fMk (ad "BadFraction") "value" "no such fraction" (fC .non)) (fCons (fMk (ad "NoSuch") "value" "nothing so called" (fC .non)) (fNil))))))))) (sSeq (sSet 6 (fO (fE (fLst (fCons (fMk (ad "BadExpression") "place" "no such expression" (fC .non)) (fCons (fMk (ad "BadProgram") "place" "no such program" (fC .non)) (fCons (fMk (ad "BadTape") "place" "no such tape" (fC .non)) (fCons (fMk (ad "BadPoint") "place" "no such point" (fC .non)) (fCons (fMk (ad "BadText") "place" "no such text" (fC .non)) (fCons (fMk (ad "BadPaper") "place" "no such paper" (fC .non)) (fCons (fMk (ad "BadLinear") "place" "no such linear tape" (fC .non)) (fNil)))))))))))) (sSeq (sSet 6 (fO (fE (f2 addD (fV 6) (fE (fLst (fCons (fMk (ad "BadRule") "place" "no such rule" (fC .non)) (fCons (fMk (ad "BadChain") "place" "no such chain" (fC .non)) (fCons (fMk (ad "BadSchedule") "place" "no such schedule" (fC .non)) (fCons (fMk (ad "BadCode") "place" "no such code" (fC .non)) (fCons (fMk (ad "BadPattern") "place" "no such pattern" (fC .non)) (fCons (fMk (ad "BadGroups") "place" "no such groups" (fC .non)) (fCons (fMk (ad "BadStart") "place" "no such start" (fC .non)) (fCons (fMk (ad "BadMap") "place" "no such mapping" (fC .non)) (fCons (fMk (ad "BadDeed") "place" "no such deed" (fC .non)) (fNil)))))))))))))))) (sSeq (sIf (fOr (fTest (fE (f2 (neD) (fE (fLc 14 (fSeq (fV 5)) (gN 10) (fYes) (fO (fAttr ad N_value "value" (fV 10))) [10])) (fE (f2 mulD (fE (fLst (fCons (fC .non) (fNil)))) (fC (.int 4))))))) (fTest (fE (f2 (neD) (fE (fLc 14 (fSeq (fV 6)) (gN 10) (fYes) (fO (fAttr ad N_place "place" (fV 10))) [10])) (fE (f2 mulD (fE (fLst (fCons (fC .non) (fNil)))) (fC (.int 16)))))))) (sRet (fO (fC (.bl false)))) (sNop)) (sSeq (sSet 7 (fLst (fNil))) (sSeq (sFor (fSeq (fTup (fCons (fC (.str "zqzq")) (fCons (fE (f2 powD (fC (.int 10)) (fC (.int 30)))) (fCons (fC (.int 70707)) (fCons (fC (.str "")) (fCons (fC (.str "deed")) (fNil)))))))) (gN 8) (sSeq (sSet 9 (fO (fE (f2 addD (fE (fLc 14 (fSeq (fE (f2 addD (fE (fCall (F__law_valued ad) (fCons (fV 8) (fNil)))) (fE (fCall (F__law_placed ad) (fCons (fV 8) (fNil))))))) (gTn 3 (gsCons (gN 11) (gsCons (gN 12) (gsCons (gN 13) (gsNil))))) (fYes) (fO (fV 11)) [11, 12, 13])) (fE (fLst (fCons (fMk (ad "NoSuch") "value" "nothing so called" (fV 8)) (fCons (fMk (ad "TooMany") "most" "too many" (fV 8)) (fNil))))))))) (sExpr (fApp 7 (fO (fE (fLc 14 (fSeq (fV 9)) (gN 10) (fYes) (fN (N1 (strX ad XN)) (fCons (fV 10) (fNil))) [10])))))) [8, 9]) (sRet (fO (fE (f2 (eqD) (fV 7) (fE (f2 mulD (fE (fLst (fCons (fQ (qAt (qV 7) (qC (.int 0)))) (fNil)))) (fC (.int 5))))))))))))))
def F_law (ad : Str → Addr) : List D → Option FOut := fun ds => if ds.length = 1 then pOut (g_law ad (env0 13 ds)) else none
theorem F_law_n {ad : Str → Addr} : ∀ ds r, F_law ad ds = some r → ds.length = 1 := fun ds r h => by
  unfold F_law at h
  split at h
  · assumption
  · cases h
theorem sc_law : FnScope ["script", "k", "cell", "state", "number", "some", "others", "rows", "thing", "made", "e", "one", "other", "name"] ["script"] (defScope s_law) := ⟨rfl, rfl, rfl, by decide +kernel, rfl, by decide +kernel, by decide +kernel⟩
theorem bind_law (T : Txt w K mg cm ad ai fds fdi) : Binds K (fds "law") ["script"] [] := T.F_law.bindsN fun _ _ _ _ _ _ us hl => match us, hl with | [_], _ => rfl
theorem ok_law (T : Txt w K mg cm ad ai fds fdi) : FnG P w K mg base 5 (ad "law") (fds "law") ["script"] (spP K cm 1 (F_law ad)) := by
  refine fn_pure (g := (g_law ad)) T.F_law sc_law (fun ds r h => ?_) fun cdv A outer s H E hr tk => ?_
  · unfold F_law at h
    split at h
    · exact h
    · cases h
  · have nd := sc_law.nd
    have pw := passes_of (K := fun e s'' => L2.CX P w outer H s E e s'') (X := bodyX P w K mg base ["script", "k", "cell", "state", "number", "some", "others", "rows", "thing", "made", "e", "one", "other", "name"] "law" (defScope s_law) (ad "law") cdv A outer s H E) rfl
    exact ⟨_, bx_cons (sx_for pw rfl (ix_enum T.b_enumerate (dx_E (ox_add (dx_E (ox_slice (dx_V 0) (px_none) (px_some (dx_int)))) (dx_E (ox_lst (ax_cons (dx_E (ox_blt ((cr_sum rfl)) opN_sum (by rfl) T.b_sum (by decide +kernel) (ax_cons (dx_V 0) (ax_nil)))) (ax_nil))))))) (gx_T rfl (gsx_cons (gx_N (i := 1) nd (by decide)) (gsx_cons (gx_N (i := 2) nd (by decide)) (gsx_nil)))) (bx_cons (sx_set (i := 3) (ox_call (ok__law_draw T) (hr.mono (by decide)) (by rfl) T.g__law_draw T.F__law_draw.kp (bind__law_draw T) tk (F__law_draw_n (ad := ad)) (ax_cons (dx_V 2) (ax_cons (dx_V 1) (ax_nil)))) nd (by decide)) (bx_cons (sx_set (i := 4) (ox_O (dx_E (ox_callL (i := 3) (ok__law_digit T) (hr.mono (by decide)) (by rfl) T.g__law_digit T.F__law_digit.kp (bind__law_digit T) tk (F__law_digit_n (ad := ad)) (ax_cons (dx_int) (ax_nil))))) nd (by decide)) (bx_cons (sx_set (i := 5) (ox_O (dx_E (ox_lst (ax_cons (dx_V 4) (ax_cons (dx_E (ox_sub (dx_int) (dx_V 4))) (ax_cons (dx_E (ox_mul (dx_str) (dx_E (ox_mod (dx_V 4) (dx_int))))) (ax_cons (dx_tup (ax_cons (dx_str) (ax_cons (dx_tup (ax_cons (dx_int) (ax_cons (dx_V 4) (ax_nil)))) (ax_nil)))) (ax_cons (dx_non) (ax_cons (dx_tup (ax_cons (dx_E (ox_pow (dx_int) (dx_int))) (ax_cons (dx_tup (ax_nil)) (ax_nil)))) (ax_cons (dx_E (ox_mul (dx_tup (ax_cons (dx_V 4) (ax_nil))) (dx_int))) (ax_nil))))))))))) nd (by decide)) (bx_one (sx_if (tx_W (wx_or (tx_not (tx_val (dx_E (ox_call (ok__law_right T) (hr.mono (by decide)) (by rfl) T.g__law_right T.F__law_right.kp (bind__law_right T) tk (F__law_right_n (ad := ad)) (ax_cons (dx_ix (dx_V 5) (dx_E (ox_callL (i := 3) (ok__law_digit T) (hr.mono (by decide)) (by rfl) T.g__law_digit T.F__law_digit.kp (bind__law_digit T) tk (F__law_digit_n (ad := ad)) (ax_cons (dx_int) (ax_nil))))) (ax_nil)))))) (wx_or1 (tx_not (tx_val (dx_E (ox_call (ok__law_right T) (hr.mono (by decide)) (by rfl) T.g__law_right T.F__law_right.kp (bind__law_right T) tk (F__law_right_n (ad := ad)) (ax_cons (dx_E (ox_pow (dx_E (ox_pow (dx_E (ox_pow (dx_int) (dx_int))) (dx_int))) (dx_int))) (ax_nil))))))))) (bx_one (sx_ret (ox_O (dx_bl)))) (bx_nil))))))) (bx_cons (sx_set (i := 5) (ox_O (dx_E (ox_lst (ax_cons (dx_mk0 (mk_BadNumber T) (hr.1.mono (by decide)) tk T.g_BadNumber (fun _ _ hk => hb0_BadNumber T hk)) (ax_cons (dx_mk0 (mk_BadName T) (hr.1.mono (by decide)) tk T.g_BadName (fun _ _ hk => hb0_BadName T hk)) (ax_cons (dx_mk0 (mk_BadFraction T) (hr.1.mono (by decide)) tk T.g_BadFraction (fun _ _ hk => hb0_BadFraction T hk)) (ax_cons (dx_mk0 (mk_NoSuch T) (hr.1.mono (by decide)) tk T.g_NoSuch (fun _ _ hk => hb0_NoSuch T hk)) (ax_nil)))))))) nd (by decide)) (bx_cons (sx_set (i := 6) (ox_O (dx_E (ox_lst (ax_cons (dx_mk0 (mk_BadExpression T) (hr.1.mono (by decide)) tk T.g_BadExpression (fun _ _ hk => hb0_BadExpression T hk)) (ax_cons (dx_mk0 (mk_BadProgram T) (hr.1.mono (by decide)) tk T.g_BadProgram (fun _ _ hk => hb0_BadProgram T hk)) (ax_cons (dx_mk0 (mk_BadTape T) (hr.1.mono (by decide)) tk T.g_BadTape (fun _ _ hk => hb0_BadTape T hk)) (ax_cons (dx_mk0 (mk_BadPoint T) (hr.1.mono (by decide)) tk T.g_BadPoint (fun _ _ hk => hb0_BadPoint T hk)) (ax_cons (dx_mk0 (mk_BadText T) (hr.1.mono (by decide)) tk T.g_BadText (fun _ _ hk => hb0_BadText T hk)) (ax_cons (dx_mk0 (mk_BadPaper T) (hr.1.mono (by decide)) tk T.g_BadPaper (fun _ _ hk => hb0_BadPaper T hk)) (ax_cons (dx_mk0 (mk_BadLinear T) (hr.1.mono (by decide)) tk T.g_BadLinear (fun _ _ hk => hb0_BadLinear T hk)) (ax_nil))))))))))) nd (by decide)) (bx_cons (sx_set (i := 6) (ox_O (dx_E (ox_add (dx_V 6) (dx_E (ox_lst (ax_cons (dx_mk0 (mk_BadRule T) (hr.1.mono (by decide)) tk T.g_BadRule (fun _ _ hk => hb0_BadRule T hk)) (ax_cons (dx_mk0 (mk_BadChain T) (hr.1.mono (by decide)) tk T.g_BadChain (fun _ _ hk => hb0_BadChain T hk)) (ax_cons (dx_mk0 (mk_BadSchedule T) (hr.1.mono (by decide)) tk T.g_BadSchedule (fun _ _ hk => hb0_BadSchedule T hk)) (ax_cons (dx_mk0 (mk_BadCode T) (hr.1.mono (by decide)) tk T.g_BadCode (fun _ _ hk => hb0_BadCode T hk)) (ax_cons (dx_mk0 (mk_BadPattern T) (hr.1.mono (by decide)) tk T.g_BadPattern (fun _ _ hk => hb0_BadPattern T hk)) (ax_cons (dx_mk0 (mk_BadGroups T) (hr.1.mono (by decide)) tk T.g_BadGroups (fun _ _ hk => hb0_BadGroups T hk)) (ax_cons (dx_mk0 (mk_BadStart T) (hr.1.mono (by decide)) tk T.g_BadStart (fun _ _ hk => hb0_BadStart T hk)) (ax_cons (dx_mk0 (mk_BadMap T) (hr.1.mono (by decide)) tk T.g_BadMap (fun _ _ hk => hb0_BadMap T hk)) (ax_cons (dx_mk0 (mk_BadDeed T) (hr.1.mono (by decide)) tk T.g_BadDeed (fun _ _ hk => hb0_BadDeed T hk)) (ax_nil))))))))))))))) nd (by decide)) (bx_cons (sx_if (tx_W (wx_or (tx_cmp (cmp_ne hr.units) (dx_E (oxe (oe_comp [("e", 10)] rfl nd (blkOk_by (own := [("e", 10)]) (N := ["script", "k", "cell", "state", "number", "some", "others", "rows", "thing", "made", "e", "one", "other", "name"]) (sc := defScope s_law) (by decide +kernel)) rfl (ix_seq' (dx_V 5)) (fun _ _ _ _ _ => ge (gx_N (i := 10) nd (by decide))) (fun _ _ _ _ _ => tse (tsx_nil)) (fun _ _ _ _ _ => oe (ox_O (dx_attr (ad := ad) (names := N_value) (dx_V 10) (fun c hc => xn_value T c hc))))))) (dx_E (ox_mul (dx_E (ox_lst (ax_cons (dx_non) (ax_nil)))) (dx_int))) (nomark _)) (wx_or1 (tx_cmp (cmp_ne hr.units) (dx_E (oxe (oe_comp [("e", 10)] rfl nd (blkOk_by (own := [("e", 10)]) (N := ["script", "k", "cell", "state", "number", "some", "others", "rows", "thing", "made", "e", "one", "other", "name"]) (sc := defScope s_law) (by decide +kernel)) rfl (ix_seq' (dx_V 6)) (fun _ _ _ _ _ => ge (gx_N (i := 10) nd (by decide))) (fun _ _ _ _ _ => tse (tsx_nil)) (fun _ _ _ _ _ => oe (ox_O (dx_attr (ad := ad) (names := N_place) (dx_V 10) (fun c hc => xn_place T c hc))))))) (dx_E (ox_mul (dx_E (ox_lst (ax_cons (dx_non) (ax_nil)))) (dx_int))) (nomark _))))) (bx_one (sx_ret (ox_O (dx_bl)))) (bx_nil)) (bx_cons (sx_set (i := 7) (ox_lst (ax_nil)) nd (by decide)) (bx_cons (sx_for pw rfl (ix_seq' (dx_tup (ax_cons (dx_str) (ax_cons (dx_E (ox_pow (dx_int) (dx_int))) (ax_cons (dx_int) (ax_cons (dx_str) (ax_cons (dx_str) (ax_nil)))))))) (gx_N (i := 8) nd (by decide)) (bx_cons (sx_set (i := 9) (ox_O (dx_E (ox_add (dx_E (oxe (oe_comp [("one", 11), ("other", 12), ("name", 13)] rfl nd (blkOk_by (own := [("one", 11), ("other", 12), ("name", 13)]) (N := ["script", "k", "cell", "state", "number", "some", "others", "rows", "thing", "made", "e", "one", "other", "name"]) (sc := defScope s_law) (by decide +kernel)) rfl (ix_seq' (dx_E (ox_add (dx_E (ox_call (ok__law_valued T) (hr.mono (by decide)) (by rfl) T.g__law_valued T.F__law_valued.kp (bind__law_valued T) tk (F__law_valued_n (ad := ad)) (ax_cons (dx_V 8) (ax_nil)))) (dx_E (ox_call (ok__law_placed T) (hr.mono (by decide)) (by rfl) T.g__law_placed T.F__law_placed.kp (bind__law_placed T) tk (F__law_placed_n (ad := ad)) (ax_cons (dx_V 8) (ax_nil))))))) (fun _ _ _ _ _ => ge (gx_T rfl (gsx_cons (gx_N (i := 11) nd (by decide)) (gsx_cons (gx_N (i := 12) nd (by decide)) (gsx_cons (gx_N (i := 13) nd (by decide)) (gsx_nil)))))) (fun _ _ _ _ _ => tse (tsx_nil)) (fun _ _ _ _ _ => oe (ox_O (dx_V 11)))))) (dx_E (ox_lst (ax_cons (dx_mk1 (mk_NoSuch T) (hr.1.mono (by decide)) tk T.g_NoSuch (fun _ _ _ hk => hb1_NoSuch T hk) (dx_V 8)) (ax_cons (dx_mk1 (mk_TooMany T) (hr.1.mono (by decide)) tk T.g_TooMany (fun _ _ _ hk => hb1_TooMany T hk) (dx_V 8)) (ax_nil)))))))) nd (by decide)) (bx_one (sx_expr (ox_app (i := 7) (ox_O (dx_E (oxe (oe_comp [("e", 10)] rfl nd (blkOk_by (own := [("e", 10)]) (N := ["script", "k", "cell", "state", "number", "some", "others", "rows", "thing", "made", "e", "one", "other", "name"]) (sc := defScope s_law) (by decide +kernel)) rfl (ix_seq' (dx_V 9)) (fun _ _ _ _ _ => ge (gx_N (i := 10) nd (by decide))) (fun _ _ _ _ _ => tse (tsx_nil)) (fun _ _ _ _ _ => oe (ox_ty (call_strX (hu2 hr)) (opN_strX (xnA T)) (by rfl) T.b_str (by decide +kernel) (ax_cons (dx_V 10) (ax_nil))))))))))))) (bx_one (sx_ret (ox_O (dx_cmp (cmp_eq hr.units) (dx_V 7) (dx_E (ox_mul (dx_E (ox_lst (ax_cons (dx_Q (qx_ix (qx_V 7) (qx_int))) (ax_nil)))) (dx_int))) (nomark _)))))))))))⟩
end
end Wk

end
section
set_option Elab.async false
set_option linter.all false
set_option maxRecDepth 100000
set_option maxHeartbeats 4000000
namespace LD
open PySem PySem.Spec PyProof.Rows L2

/-! ### what the functions make, step by step -/
section
variable {ρ ρ1 ρ2 ρ3 : Envr} {d a b : D} {o o' : OV} {i : Nat} {f g : FE} {h k : FO} {ds : List D} {fa : FA} {op : D → D → Option OV} {op1 : D → Option OV} {opN : List D → Option OV} {α : Type} {c : Bool} {t u : FT} {r : Option SR} {s s2 : FS}
theorem eC : fC d ρ = some (.ok d ρ) := rfl
theorem eV (h : ρ[i]? = some (some (.fz d))) : fV i ρ = some (.ok d ρ) := by unfold fV; rw [h]
theorem eVo (h : ρ[i]? = some (some o)) (hn : ∀ d, o ≠ .fz d) : fV i ρ = some (.ok (erase o) (ρ.set i (some (.fz (erase o))))) := by
  unfold fV
  rw [h]
  cases o with
  | fz d => exact absurd rfl (hn d)
  | ls xs => rfl
  | dk kvs => rfl
theorem eE (w : h ρ = some (.ok o ρ1)) : fE h ρ = some (.ok (erase o) ρ1) := by unfold fE; rw [w]; rfl
theorem eO (w : f ρ = some (.ok d ρ1)) : fO f ρ = some (.ok (.fz d) ρ1) := by unfold fO; rw [w]; rfl
theorem e1 (w : f ρ = some (.ok d ρ1)) (h : op1 d = some o) : f1 op1 f ρ = some (.ok o ρ1) := by unfold f1; rw [w]; show (op1 d).map _ = _; rw [h]; rfl
theorem e2 (w : f ρ = some (.ok a ρ1)) (w' : g ρ1 = some (.ok b ρ2)) (h : op a b = some o) : f2 op f g ρ = some (.ok o ρ2) := by
  unfold f2; rw [w]; show rb (g ρ1) _ = _; rw [w']; show (op a b).map _ = _; rw [h]; rfl
theorem eN (w : fa ρ = some (.ok ds ρ1)) (h : opN ds = some o) : fN opN fa ρ = some (.ok o ρ1) := by unfold fN; rw [w]; show (opN ds).map _ = _; rw [h]; rfl
theorem eNil : fNil ρ = some (.ok [] ρ) := rfl
theorem eCons (w : f ρ = some (.ok d ρ1)) (w' : fa ρ1 = some (.ok ds ρ2)) : fCons f fa ρ = some (.ok (d :: ds) ρ2) := by unfold fCons; rw [w]; show rb (fa ρ1) _ = _; rw [w']; rfl
theorem eTup (w : fa ρ = some (.ok ds ρ1)) (hl : ds.length ≤ 100000) : fTup fa ρ = some (.ok (.tup ds) ρ1) := by unfold fTup; rw [w]; exact if_pos hl
theorem eLst (w : fa ρ = some (.ok ds ρ1)) (hl : ds.length ≤ 100000) : fLst fa ρ = some (.ok (.ls (ds.map .fz)) ρ1) := by unfold fLst; rw [w]; exact if_pos hl
theorem eTest (w : f ρ = some (.ok (.bl c) ρ1)) : fTest f ρ = some (.ok c ρ1) := by unfold fTest; rw [w]; rfl
theorem eBool (w : t ρ = some (.ok c ρ1)) : fBool t ρ = some (.ok (.bl c) ρ1) := by unfold fBool; rw [w]; rfl
theorem eNot (w : t ρ = some (.ok c ρ1)) : fNot t ρ = some (.ok (!c) ρ1) := by unfold fNot; rw [w]; rfl
theorem eAndT (w : t ρ = some (.ok true ρ1)) : fAnd t u ρ = u ρ1 := by unfold fAnd; rw [w]; rfl
theorem eAndF (w : t ρ = some (.ok false ρ1)) : fAnd t u ρ = some (.ok false ρ1) := by unfold fAnd; rw [w]; rfl
theorem eOrT (w : t ρ = some (.ok true ρ1)) : fOr t u ρ = some (.ok true ρ1) := by unfold fOr; rw [w]; rfl
theorem eOrF (w : t ρ = some (.ok false ρ1)) : fOr t u ρ = u ρ1 := by unfold fOr; rw [w]; rfl
theorem eIfT {x y : Envr → Option (R α)} (w : t ρ = some (.ok true ρ1)) : fIf t x y ρ = x ρ1 := by unfold fIf; rw [w]; rfl
theorem eIfF {x y : Envr → Option (R α)} (w : t ρ = some (.ok false ρ1)) : fIf t x y ρ = y ρ1 := by unfold fIf; rw [w]; rfl
theorem eCall {F : List D → Option FOut} (w : fa ρ = some (.ok ds ρ1)) (h : F ds = some (.ok o)) : fCall F fa ρ = some (.ok o ρ1) := by unfold fCall; rw [w]; show (match F ds with | some (.ok o) => _ | some (.ex k f d) => _ | none => _) = _; rw [h]
theorem eCallL {F : OV → List D → Option LOut} {o0 o1 : OV} {oi : OV} (w0 : ρ[i]? = some (some oi)) (w : fa ρ = some (.ok ds ρ1)) (w1 : ρ1[i]? = some (some o0)) (h : F o0 ds = some (.ok o o1)) : fCallL i F fa ρ = some (.ok o (ρ1.set i (some o1))) := by
  unfold fCallL
  rw [w0]
  show rb (fa ρ) _ = _
  rw [w]
  show (match ρ1[i]? with | some (some o0) => _ | _ => _) = _
  rw [w1]
  show (match F o0 ds with | some (.ok o o1) => _ | some (.ex k f d) => _ | none => _) = _
  rw [h]
theorem eQ {q : FQ} (h : q ρ = some (.fz d)) : fQ q ρ = some (.ok d ρ) := by unfold fQ; rw [h]
theorem eMk {C : Addr} {fn m : Str} (w : f ρ = some (.ok d ρ1)) : fMk C fn m f ρ = some (.ok (.exc C fn d m) ρ1) := by unfold fMk; rw [w]; rfl
theorem eAttr {ad : Str → Addr} {ns : List Str} {n m : Str} {C : Addr} (w : f ρ = some (.ok (.exc C n d m) ρ1)) (h : (whoX ad ns C).isSome = true) : fAttr ad ns n f ρ = some (.ok d ρ1) := by
  unfold fAttr
  rw [w]
  exact if_pos ⟨h, rfl⟩
theorem eDk {ks : List Str} (w : fa ρ = some (.ok ds ρ1)) (hl : ds.length = ks.length ∧ ks.length ≤ 15) : fDk ks fa ρ = some (.ok (.dk (mergeD [] ((ks.map Sum.inr).zip ds))) ρ1) := by unfold fDk; rw [w]; exact if_pos hl
theorem eSl {opS : D → Option Int → Option Int → Option OV} {x y : FP} {lo hi : Option Int} (w : f ρ = some (.ok d ρ1)) (wl : x ρ1 = some (.ok lo ρ2)) (wh : y ρ2 = some (.ok hi ρ3)) (h : opS d lo hi = some o) : fSl opS f x y ρ = some (.ok o ρ3) := by
  unfold fSl; rw [w]; show rb (x ρ1) _ = _; rw [wl]; show rb (y ρ2) _ = _; rw [wh]; show (opS d lo hi).map _ = _; rw [h]; rfl
/-! statements -/
theorem eSeq (w : s ρ = some (.nx ρ1)) (w' : s2 ρ1 = r) : sSeq s s2 ρ = r := by unfold sSeq; rw [w]; exact w'
theorem eSeqR (w : s ρ = some (.rt o ρ1)) : sSeq s s2 ρ = some (.rt o ρ1) := by unfold sSeq; rw [w]
theorem eSet (w : h ρ = some (.ok o ρ1)) (hl : i < ρ1.length) : sSet i h ρ = some (.nx (ρ1.set i (some o))) := by unfold sSet; rw [w]; exact if_pos hl
theorem eRet (w : h ρ = some (.ok o ρ1)) : sRet h ρ = some (.rt o ρ1) := by unfold sRet; rw [w]; rfl
theorem eExpr (w : h ρ = some (.ok o ρ1)) : sExpr h ρ = some (.nx ρ1) := by unfold sExpr; rw [w]; rfl
theorem eSIfT (w : t ρ = some (.ok true ρ1)) (w' : s ρ1 = r) : sIf t s s2 ρ = r := by unfold sIf; rw [w]; exact w'
theorem eSIfF (w : t ρ = some (.ok false ρ1)) (w' : s2 ρ1 = r) : sIf t s s2 ρ = r := by unfold sIf; rw [w]; exact w'
theorem eNop : sNop ρ = some (.nx ρ) := rfl
theorem eFor {it : FI} {tg : Tg} {dead : List Nat} (w : it ρ = some (.ok ds ρ1)) (w' : forL tg s dead ds ρ1 = r) : sFor it tg s dead ρ = r := by unfold sFor; rw [w]; exact w'
theorem eFnil {tg : Tg} {dead : List Nat} : forL tg s dead [] ρ = some (.nx ρ) := rfl
theorem eFcons {tg : Tg} {dead : List Nat} (wg : tg d ρ = some ρ1) (wb : s ρ1 = some (.nx ρ2)) (w : forL tg s dead ds (forg dead ρ2) = r) : forL tg s dead (d :: ds) ρ = r := by
  unfold forL; rw [wg]; show (match s ρ1 with | some (.nx ρ2) => _ | some (.ct ρ2) => _ | some (.bk ρ2) => _ | r => r) = _; rw [wb]; exact w
theorem eSeqD (w : f ρ = some (.ok d ρ1)) (h : d = .lst ds ∨ d = .tup ds) : fSeq f ρ = some (.ok ds ρ1) := by
  unfold fSeq; rw [w]; rcases h with rfl | rfl <;> rfl
theorem eiA {opI : List D → Option (List D)} {es : List D} (w : fa ρ = some (.ok ds ρ1)) (h : opI ds = some es) : iA opI fa ρ = some (.ok es ρ1) := by
  unfold iA; rw [w]; show (opI ds).map _ = _; rw [h]; rfl
end
theorem erase_ls {ds : List D} : erase (.ls (ds.map .fz)) = .lst ds := by show D.lst (eraseAll _) = _; rw [erase_fzs]
theorem eF {g : FS} {ds : List D} {n : Nat} {ρ ρ1 : Envr} {o : OV} (hl : ds.length = n) (w : g ρ = some (.rt o ρ1)) : (if ds.length = n then pOut (g ρ) else none) = some (.ok o) := by rw [if_pos hl, w]; rfl
theorem eFL {g : FS} {ds : List D} {n : Nat} {ρ : Envr} {ρ1 : Envr} {o o1 : OV} (hl : ds.length = n) (w : g ρ = some (.rt o (some o1 :: ρ1))) : (if ds.length = n then lOut (g ρ) else none) = some (.ok o o1) := by rw [if_pos hl, w]; rfl
end LD

end
section
set_option Elab.async false
set_option linter.all false
set_option maxRecDepth 100000
set_option maxHeartbeats 4000000
namespace Wk
open PySem PySem.Spec PyProof.Rows L2 LD PySem.HandSPX
variable {ad : Str → Addr}
theorem log2_b {i : Int} (h : -(2 ^ 100) < i ∧ i < 2 ^ 100) : i.natAbs.log2 < 100 := by
  by_cases z : i.natAbs = 0
  · rw [z]; decide
  · exact (Nat.log2_lt z).mpr (by omega)
theorem mul_b {i j : Int} (hi : -(2 ^ 100) < i ∧ i < 2 ^ 100) (hj : -(2 ^ 100) < j ∧ j < 2 ^ 100) : mulD (.int i) (.int j) = some (.fz (.int (i * j))) := by
  have h1 := log2_b hi
  have h2 := log2_b hj
  exact if_pos (by omega)
theorem mod_ex (x : Int) {c : Int} (h : 0 < c) : ∃ r, 0 ≤ r ∧ r < c ∧ modD (.int x) (.int c) = some (.fz (.int r)) := by
  refine ⟨x.fmod c, Int.fmod_nonneg_of_pos x h, Int.fmod_lt_of_pos x h, ?_⟩
  show ((if c ≠ 0 then some (x.fmod c) else none).map fun k => OV.fz (.int k)) = _
  rw [if_pos (by omega)]
  rfl
theorem mixed (cell k : Int) (h0 : 0 ≤ k) (h1 : k ≤ 1000000) : ∃ m, 0 ≤ m ∧ m < 2147483647 ∧ F__law_mixed ad [.int cell, .int k] = some (.ok (.fz (.int m))) := by
  have hc : ∃ c q, 0 < c ∧ c < 2147483648 ∧ modD (.int k) (.int 4) = some (.fz q) ∧ atD (.lst [D.int 1000000007, D.int 998244353, D.int 2147483629, D.int 1000000009]) q = some (.fz (D.int c)) := by
    obtain ⟨r, r0, r1, hr⟩ := mod_ex k (c := 4) (by decide)
    have h4 : r = 0 ∨ r = 1 ∨ r = 2 ∨ r = 3 := by omega
    rcases h4 with h | h | h | h
    · exact ⟨1000000007, _, by decide, by decide, hr, by rw [h]; rfl⟩
    · exact ⟨998244353, _, by decide, by decide, hr, by rw [h]; rfl⟩
    · exact ⟨2147483629, _, by decide, by decide, hr, by rw [h]; rfl⟩
    · exact ⟨1000000009, _, by decide, by decide, hr, by rw [h]; rfl⟩
  obtain ⟨c, q, c0, c1, hq, hc⟩ := hc
  obtain ⟨r, r0, r1, hr⟩ := mod_ex cell c0
  have hk : mulD (.int 7919) (.int k) = some (.fz (.int (7919 * k))) := mul_b (by omega) (by omega)
  have hn : mulD (.int (r + 7919 * k + 13)) (.int (r + 7919 * k + 13)) = some (.fz (.int ((r + 7919 * k + 13) * (r + 7919 * k + 13)))) := mul_b (by omega) (by omega)
  obtain ⟨s, s0, s1, hs⟩ := mod_ex ((r + 7919 * k + 13) * (r + 7919 * k + 13)) (c := 2147483647) (by decide)
  have hu : mulD (.int s) (.int 48271) = some (.fz (.int (s * 48271))) := mul_b (by omega) (by omega)
  obtain ⟨m, m0, m1, hm⟩ := mod_ex (s * 48271) (c := 2147483647) (by decide)
  refine ⟨m, m0, m1, eF rfl (ρ1 := [some (.fz (.int cell)), some (.fz (.int k)), some (.fz (.int (r + 7919 * k + 13)))]) ?_⟩
  show g__law_mixed ad [some (.fz (.int cell)), some (.fz (.int k)), none] = _
  unfold g__law_mixed
  repeat (first | exact hq | exact hc | exact hr | exact hk | exact hn | exact hs | exact hu | exact hm | with_reducible apply eC | with_reducible apply eV | with_reducible apply eE | with_reducible apply eO | with_reducible apply eNil | with_reducible apply eCons | with_reducible apply eTup | with_reducible apply eLst | with_reducible apply e2 | with_reducible apply e1 | with_reducible apply eN | with_reducible apply eMk | with_reducible apply eTest | with_reducible apply eBool | with_reducible apply eNot | with_reducible apply eQ | with_reducible apply eDk | with_reducible apply eSeq | with_reducible apply eSet | with_reducible apply eRet | with_reducible apply eNop | exact Nat.le_of_ble_eq_true rfl | rfl)
/-! the state of the draws -/
abbrev kvS (l c t : Int) : List (Key × D) := [(.inr "left", .int l), (.inr "cell", .int c), (.inr "turns", .int t)]
theorem key_l {l c t : Int} : keyD (kvS l c t) (.inr "left") = some (.int l) := by kernel_rfl
theorem key_c {l c t : Int} : keyD (kvS l c t) (.inr "cell") = some (.int c) := by kernel_rfl
theorem key_t {l c t : Int} : keyD (kvS l c t) (.inr "turns") = some (.int t) := by kernel_rfl
theorem put_l {l c t x : Int} : putD (kvS l c t) (.inr "left") (.int x) = kvS x c t := by kernel_rfl
theorem put_t {l c t x : Int} : putD (kvS l c t) (.inr "turns") (.int x) = kvS l c x := by kernel_rfl
theorem qk {ρ : Envr} {kvs : List (Key × D)} {s : Str} {d : D} (h : ρ[0]? = some (some (.dk kvs))) (hk : keyD kvs (.inr s) = some d) : fQ (qKey (qV 0) s) ρ = some (.ok d ρ) := by
  refine eQ ?_
  unfold qKey qV
  rw [h]
  show (keyD kvs (.inr s)).map OV.fz = _
  rw [hk]; rfl
theorem ePutK {ρ ρ1 : Envr} {s : Str} {f : FE} {d : D} {kvs kvs' : List (Key × D)} (w : f ρ = some (.ok d ρ1)) (h : ρ1[0]? = some (some (.dk kvs))) (hl : kvs.length < 100000) (hp : putD kvs (.inr s) d = kvs') : sPutK 0 s f ρ = some (.nx (ρ1.set 0 (some (.dk kvs')))) := by
  unfold sPutK
  rw [w]
  show (match ρ1[0]? with | some (some (.dk kvs)) => _ | _ => _) = _
  rw [h]
  show (if kvs.length < 100000 then _ else _) = _
  rw [if_pos hl, hp]
theorem eq_int (a b : Int) : eqD (.int a) (.int b) = some (.fz (.bl (decide (a = b)))) := by
  unfold eqD
  rw [if_pos ⟨plain_i, plain_i⟩]
  have e : PyData.eqv (toPy (.int a)) (toPy (.int b)) = decide (a = b) := by
    simp only [toPy, PyData.eqv]
    by_cases h : a = b
    · simp [h]
    · simp [h]
  rw [e]
theorem digit_step (l c t : Int) (b x : Option OV) (y : D) (hl : 0 ≤ l ∧ l < 2 ^ 99) (ht : 0 ≤ t ∧ t < 1000000) : ∃ m, 0 ≤ m ∧ m < 2147483647 ∧
    sSeq (sPutK 0 "turns" (fE (f2 addD (fQ (qKey (qV 0) "turns")) (fC (.int 1))))) (sPutK 0 "left" (fE (f2 addD (fE (f2 mulD (fQ (qKey (qV 0) "left")) (fC (.int 2147483647)))) (fE (fCall (F__law_mixed ad) (fCons (fQ (qKey (qV 0) "cell")) (fCons (fQ (qKey (qV 0) "turns")) (fNil)))))))) [some (.dk (kvS l c t)), b, some (.fz y), x] = some (.nx [some (.dk (kvS (l * 2147483647 + m) c (t + 1))), b, some (.fz y), x]) := by
  obtain ⟨m, m0, m1, hm⟩ := mixed (ad := ad) c (t + 1) (by omega) (by omega)
  refine ⟨m, m0, m1, ?_⟩
  refine eSeq (ePutK (eE (e2 (qk rfl key_t) eC rfl)) rfl (Nat.le_of_ble_eq_true rfl) put_t) ?_
  exact ePutK (eE (e2 (eE (e2 (qk rfl key_l) eC (mul_b (by omega) (by omega)))) (eE (eCall (eCons (qk rfl key_c) (eCons (qk rfl key_t) eNil)) hm)) rfl)) rfl (Nat.le_of_ble_eq_true rfl) put_l
theorem digit (l c t b : Int) (ht : 0 ≤ t ∧ t < 900000) (hb : 0 < b ∧ b < 2 ^ 100) : ∃ r l' t', 0 ≤ r ∧ r < b ∧ t ≤ t' ∧ t' ≤ t + 4 ∧ F__law_digit ad (.dk (kvS l c t)) [.int b] = some (.ok (.fz (.int r)) (.dk (kvS l' c t'))) := by
  have main : ∀ l1 t1, (sIf (fTest (fE (f2 eqD (fQ (qKey (qV 0) "left")) (fC (.int 0))))) (sFor (iA iR1 (fCons (fC (.int 4)) fNil)) (gN 2) (sSeq (sPutK 0 "turns" (fE (f2 addD (fQ (qKey (qV 0) "turns")) (fC (.int 1))))) (sPutK 0 "left" (fE (f2 addD (fE (f2 mulD (fQ (qKey (qV 0) "left")) (fC (.int 2147483647)))) (fE (fCall (F__law_mixed ad) (fCons (fQ (qKey (qV 0) "cell")) (fCons (fQ (qKey (qV 0) "turns")) (fNil))))))))) [2]) (sNop) [some (.dk (kvS l c t)), some (.fz (.int b)), none, none] = some (.nx [some (.dk (kvS l1 c t1)), some (.fz (.int b)), none, none])) →
      ∃ r l', 0 ≤ r ∧ r < b ∧ F__law_digit ad (.dk (kvS l c t)) [.int b] = some (.ok (.fz (.int r)) (.dk (kvS l' c t1))) := by
    intro l1 t1 h1
    obtain ⟨r, r0, r1, hr⟩ := mod_ex l1 hb.1
    have hd : divD (.int l1) (.int b) = some (.fz (.int (l1 / b))) := by
      show ((if 0 < b ∧ b.natAbs.log2 < 9000 then some (l1 / b) else none).map fun k => OV.fz (.int k)) = _
      rw [if_pos ⟨hb.1, by have := log2_b (i := b) (by omega); omega⟩]
      rfl
    refine ⟨r, l1 / b, r0, r1, eFL rfl (ρ1 := [some (.fz (.int b)), none, some (.fz (.int r))]) ?_⟩
    show g__law_digit ad [some (.dk (kvS l c t)), some (.fz (.int b)), none, none] = _
    unfold g__law_digit
    refine eSeq h1 (eSeq (eSet (eO (eE (e2 (qk rfl key_l) (eV rfl) hr))) (Nat.le_of_ble_eq_true rfl)) (eSeq (ePutK (eE (e2 (qk rfl key_l) (eV rfl) hd)) rfl (Nat.le_of_ble_eq_true rfl) put_l) (eRet (eO (eV rfl)))))
  by_cases hz : l = 0
  · subst hz
    have hi : iR1 [D.int 4] = some (rng 0 4) := by
      show (if -(2 ^ 62) ≤ (4 : Int) ∧ (4 : Int) < 2 ^ 62 then some (rng 0 (4 : Int).toNat) else none) = _
      exact if_pos (by decide)
    obtain ⟨m1, a1, b1, s1⟩ := digit_step (ad := ad) 0 c t (some (.fz (.int b))) none (.int 0) (by decide) (by omega)
    obtain ⟨m2, a2, b2, s2⟩ := digit_step (ad := ad) (0 * 2147483647 + m1) c (t + 1) (some (.fz (.int b))) none (.int 1) (by omega) (by omega)
    obtain ⟨m3, a3, b3, s3⟩ := digit_step (ad := ad) ((0 * 2147483647 + m1) * 2147483647 + m2) c (t + 1 + 1) (some (.fz (.int b))) none (.int 2) (by omega) (by omega)
    obtain ⟨m4, a4, b4, s4⟩ := digit_step (ad := ad) (((0 * 2147483647 + m1) * 2147483647 + m2) * 2147483647 + m3) c (t + 1 + 1 + 1) (some (.fz (.int b))) none (.int 3) (by omega) (by omega)
    obtain ⟨r, l', r0, r1, hF⟩ := main _ (t + 1 + 1 + 1 + 1) (eSIfT (eTest (eE (e2 (qk rfl key_l) eC (eq_int 0 0)))) (eFor (eiA (eCons eC eNil) hi) (eFcons rfl s1 (eFcons rfl s2 (eFcons rfl s3 (eFcons rfl s4 eFnil))))))
    exact ⟨r, l', _, r0, r1, by omega, by omega, hF⟩
  · have he : eqD (.int l) (.int 0) = some (.fz (.bl false)) := by rw [eq_int, decide_eq_false hz]
    obtain ⟨r, l', r0, r1, hF⟩ := main l t (eSIfF (eTest (eE (e2 (qk rfl key_l) eC he))) eNop)
    exact ⟨r, l', t, r0, r1, by omega, by omega, hF⟩
end Wk

end
section
set_option Elab.async false
set_option linter.all false
set_option maxRecDepth 100000
set_option maxHeartbeats 4000000
namespace Wk
open PySem PySem.Spec PyProof.Rows L2 LD PySem.HandSPX
variable {ad : Str → Addr}
abbrev Inj (ad : Str → Addr) : Prop := ∀ a ∈ XN, ∀ b ∈ XN, ad a = ad b → a = b
theorem who_ok {names : List Str} {c : Str} (inj : ∀ a ∈ names, ∀ b ∈ names, ad a = ad b → a = b) (hc : c ∈ names) : whoX ad names (ad c) = some c := by
  cases h : whoX ad names (ad c) with
  | some x =>
    obtain ⟨h1, h2⟩ := whoX_ok h
    rw [inj x h1 c hc h2]
  | none =>
    unfold whoX at h
    rw [List.find?_eq_none] at h
    exact absurd (decide_eq_true rfl) (h c hc)
theorem who_some {names : List Str} {c : Str} (hc : c ∈ names) : (whoX ad names (ad c)).isSome = true := by
  unfold whoX
  rw [List.find?_isSome]
  exact ⟨c, hc, decide_eq_true rfl⟩
theorem ne_self {d : D} (h : plain d = true) : neD d d = some (.fz (.bl false)) := by
  unfold neD
  rw [if_pos ⟨h, h⟩, SeqAt.eqv_refl _ (SeqAt.canLay_of_shaped (plain_sp h).2)]
  rfl
theorem addL {xs ys : List D} (h : xs.length + ys.length ≤ 1000) : addD (.lst xs) (.lst ys) = some (.ls ((xs ++ ys).map .fz)) := if_pos (Nat.le_trans h (by decide))
theorem e2L {ρ ρ1 ρ2 : Envr} {f g : FE} {xs ys : List D} (w : f ρ = some (.ok (.lst xs) ρ1)) (w' : g ρ1 = some (.ok (.lst ys) ρ2)) (h : xs.length + ys.length ≤ 1000) : fE (f2 addD f g) ρ = some (.ok (.lst (xs ++ ys)) ρ2) := by
  have z := eE (e2 w w' (addL h))
  rw [erase_ls] at z
  exact z
theorem eELst {ρ ρ1 : Envr} {fa : FA} {ds : List D} (w : fa ρ = some (.ok ds ρ1)) (h : ds.length ≤ 100000) : fE (fLst fa) ρ = some (.ok (.lst ds) ρ1) := by
  have z := eE (eLst w h)
  rw [erase_ls] at z
  exact z
/-! the kinds -/
abbrev WK : List (Str × Str) := [("BadChain", "BadChain"), ("BadCode", "BadCode"), ("BadDeed", "BadDeed"), ("BadExpression", "BadExpression"), ("BadFraction", "BadFraction"), ("BadGroups", "BadGroups"), ("BadLinear", "BadLinear"), ("BadMap", "BadMap"), ("BadName", "BadName"), ("BadNumber", "BadNumber"), ("BadPaper", "BadPaper"), ("BadPattern", "BadPattern"), ("BadPoint", "BadPoint"), ("BadProgram", "BadProgram"), ("BadRule", "BadRule"), ("BadSchedule", "BadSchedule"), ("BadStart", "BadStart"), ("BadTape", "BadTape"), ("BadText", "BadText"), ("NoSuch", "NoSuch"), ("TooMany", "TooMany"), ("base", "SlopeError"), ("value", "ValueError"), ("lookup", "LookupError"), ("overflow", "OverflowError")]
def psK (c : Str) : List (Str × Bool) := WK.map fun w => (w.1, kd w.2 c)
theorem lc_kinds {a b : Option OV} : ∀ (ps : List (Str × Bool)) (acc : List OV), acc.length + ps.length < 1000 → lcL (gTn 2 (gsCons (gN 2) (gsCons (gN 3) gsNil))) (fTest (fV 3)) (fO (fV 2)) [2, 3] (ps.map fun p => D.tup [.str p.1, .bl p.2]) acc [a, b, none, none] = some (acc ++ (ps.filter (·.2)).map (fun p => .fz (.str p.1)), [a, b, none, none])
  | [], acc, _ => by simp [lcL]
  | (w, true) :: ps, acc, h => by
    have ih := lc_kinds (a := a) (b := b) ps (acc ++ [.fz (.str w)]) (by simp at h ⊢; omega)
    have e : lcL (gTn 2 (gsCons (gN 2) (gsCons (gN 3) gsNil))) (fTest (fV 3)) (fO (fV 2)) [2, 3] (((w, true) :: ps).map fun p => D.tup [.str p.1, .bl p.2]) acc [a, b, none, none] = if acc.length < 100000 then lcL (gTn 2 (gsCons (gN 2) (gsCons (gN 3) gsNil))) (fTest (fV 3)) (fO (fV 2)) [2, 3] (ps.map fun p => D.tup [.str p.1, .bl p.2]) (acc ++ [.fz (.str w)]) [a, b, none, none] else none := rfl
    rw [e, if_pos (by simp at h; omega), ih]
    simp
  | (w, false) :: ps, acc, h => by
    have ih := lc_kinds (a := a) (b := b) ps acc (by simp at h ⊢; omega)
    have e : lcL (gTn 2 (gsCons (gN 2) (gsCons (gN 3) gsNil))) (fTest (fV 3)) (fO (fV 2)) [2, 3] (((w, false) :: ps).map fun p => D.tup [.str p.1, .bl p.2]) acc [a, b, none, none] = lcL (gTn 2 (gsCons (gN 2) (gsCons (gN 3) gsNil))) (fTest (fV 3)) (fO (fV 2)) [2, 3] (ps.map fun p => D.tup [.str p.1, .bl p.2]) acc [a, b, none, none] := rfl
    rw [e, ih]
    simp
theorem eLc {n : Nat} {it : FI} {g : Tg} {ft : FT} {fo : FO} {vs : List Nat} {ρ ρ1 ρ2 : Envr} {ds : List D} {acc : List OV} (w : it ρ = some (.ok ds ρ1)) (hl : ρ1.length = n) (h : lcL g ft fo vs ds [] (forg vs ρ1) = some (acc, ρ2)) : fLc n it g ft fo vs ρ = some (.ok (.ls acc) (rest ρ1 vs ρ2)) := by
  unfold fLc
  rw [w]
  show (if ρ1.length = n then _ else _) = _
  rw [if_pos hl, h]
section
variable {E : D} {L ys : List D}
abbrev rK (E : D) (L : List D) : Envr := [some (.fz E), some (.fz (.lst L)), none, none]
theorem pairK {w : Str} {k : Str → Bool} {b : Bool} {ρ : Envr} (h0 : ρ[0]? = some (some (.fz E))) (hx : isX ad XN k E = some (.fz (.bl b))) : fTup (fCons (fC (.str w)) (fCons (fE (f1 (isX ad XN k) (fV 0))) fNil)) ρ = some (.ok (.tup [.str w, .bl b]) ρ) :=
  eTup (eCons eC (eCons (eE (e1 (eV h0) hx)) eNil)) (Nat.le_of_ble_eq_true rfl)
theorem stepK {fa : FA} (w : fa (rK E L) = some (.ok ys (rK E L))) (h1 : ys.length ≤ 500) (h2 : L.length ≤ 500) : sSet 1 (fO (fE (f2 addD (fV 1) (fE (fLst fa))))) (rK E L) = some (.nx (rK E (L ++ ys))) :=
  eSet (eO (e2L (eV rfl) (eELst w (by omega)) (by omega))) (Nat.le_of_ble_eq_true rfl)
theorem stepK0 {fa : FA} (w : fa [some (.fz E), none, none, none] = some (.ok ys [some (.fz E), none, none, none])) (h1 : ys.length ≤ 500) : sSet 1 (fO (fE (fLst fa))) [some (.fz E), none, none, none] = some (.nx (rK E ys)) :=
  eSet (eO (eELst w (by omega))) (Nat.le_of_ble_eq_true rfl)
end
theorem kinds_ps (inj : Inj ad) {c : Str} (hc : c ∈ XN) (f m : Str) (d : D) : F__law_kinds ad [.exc (ad c) f d m] = some (.ok (.ls (((psK c).filter (·.2)).map fun p => .fz (.str p.1)))) := by
  have hx : ∀ kind : Str → Bool, isX ad XN kind (.exc (ad c) f d m) = some (.fz (.bl (kind c))) := fun kind => by
    show (whoX ad XN (ad c)).map _ = _
    rw [who_ok inj hc]; rfl
  refine eF rfl (ρ1 := rK (.exc (ad c) f d m) ((psK c).map fun p => D.tup [.str p.1, .bl p.2])) ?_
  show g__law_kinds ad [some (.fz (.exc (ad c) f d m)), none, none, none] = _
  unfold g__law_kinds
  have le : ∀ {n : Nat}, Nat.ble n 500 = true → n ≤ 500 := fun h => Nat.le_of_ble_eq_true h
  refine eSeq (stepK0 (eCons (pairK rfl (hx _)) (eCons (pairK rfl (hx _)) eNil)) (le rfl)) ?_
  refine eSeq (stepK (eCons (pairK rfl (hx _)) (eCons (pairK rfl (hx _)) eNil)) (le rfl) (le rfl)) ?_
  refine eSeq (stepK (eCons (pairK rfl (hx _)) (eCons (pairK rfl (hx _)) eNil)) (le rfl) (le rfl)) ?_
  refine eSeq (stepK (eCons (pairK rfl (hx _)) (eCons (pairK rfl (hx _)) eNil)) (le rfl) (le rfl)) ?_
  refine eSeq (stepK (eCons (pairK rfl (hx _)) (eCons (pairK rfl (hx _)) eNil)) (le rfl) (le rfl)) ?_
  refine eSeq (stepK (eCons (pairK rfl (hx _)) (eCons (pairK rfl (hx _)) eNil)) (le rfl) (le rfl)) ?_
  refine eSeq (stepK (eCons (pairK rfl (hx _)) (eCons (pairK rfl (hx _)) eNil)) (le rfl) (le rfl)) ?_
  refine eSeq (stepK (eCons (pairK rfl (hx _)) (eCons (pairK rfl (hx _)) eNil)) (le rfl) (le rfl)) ?_
  refine eSeq (stepK (eCons (pairK rfl (hx _)) (eCons (pairK rfl (hx _)) eNil)) (le rfl) (le rfl)) ?_
  refine eSeq (stepK (eCons (pairK rfl (hx _)) (eCons (pairK rfl (hx _)) eNil)) (le rfl) (le rfl)) ?_
  refine eSeq (stepK (eCons (pairK rfl (hx _)) eNil) (le rfl) (le rfl)) ?_
  refine eSeq (stepK (eCons (pairK rfl (hx _)) (eCons (pairK rfl (hx _)) eNil)) (le rfl) (le rfl)) ?_
  refine eSeq (stepK (eCons (pairK rfl (hx _)) (eCons (pairK rfl (hx _)) eNil)) (le rfl) (le rfl)) ?_
  show sRet (fLc 4 (fSeq (fV 1)) (gTn 2 (gsCons (gN 2) (gsCons (gN 3) (gsNil)))) (fTest (fV 3)) (fO (fV 2)) [2, 3]) (rK (.exc (ad c) f d m) ((psK c).map fun p => D.tup [.str p.1, .bl p.2])) = _
  refine eRet ?_
  have hl := lc_kinds (a := some (.fz (.exc (ad c) f d m))) (b := some (.fz (.lst ((psK c).map fun p => D.tup [.str p.1, .bl p.2])))) (psK c) [] (Nat.le_of_ble_eq_true rfl)
  rw [List.nil_append] at hl
  have hs : fSeq (fV 1) (rK (.exc (ad c) f d m) ((psK c).map fun p => D.tup [.str p.1, .bl p.2])) = some (.ok ((psK c).map fun p => D.tup [.str p.1, .bl p.2]) (rK (.exc (ad c) f d m) ((psK c).map fun p => D.tup [.str p.1, .bl p.2]))) := eSeqD (eV rfl) (.inl rfl)
  exact eLc hs rfl hl
def expK (c : Str) : List Str := if c = "NoSuch" then ["NoSuch", "lookup"] else if c = "TooMany" then ["TooMany", "overflow"] else [c, "base", "value"]
theorem exp_ok : ∀ c ∈ XN, ((psK c).filter (·.2)).map (·.1) = expK c := by decide +kernel
theorem kinds (inj : Inj ad) {c : Str} (hc : c ∈ XN) (f m : Str) (d : D) : F__law_kinds ad [.exc (ad c) f d m] = some (.ok (.ls (((expK c).map D.str).map .fz))) := by
  rw [kinds_ps inj hc, ← exp_ok c hc, List.map_map, List.map_map]
  rfl
end Wk

end
section
set_option Elab.async false
set_option linter.all false
set_option maxRecDepth 100000
set_option maxHeartbeats 4000000
namespace Wk
open PySem PySem.Spec PyProof.Rows L2 LD PySem.HandSPX
variable {ad : Str → Addr}
/-! what is made of a thing -/
def trip (ad : Str → Addr) (f : Str) (x : D) (p : Str × Str) : D := .tup [.exc (ad p.1) f x p.2, .exc (ad p.1) f x p.2, .str p.1]
abbrev VV : List (Str × Str) := [("BadNumber", "no such number"), ("BadName", "no such name"), ("BadFraction", "no such fraction")]
abbrev PP : List (Str × Str) := [("BadExpression", "no such expression"), ("BadProgram", "no such program"), ("BadTape", "no such tape"), ("BadPoint", "no such point"), ("BadText", "no such text"), ("BadPaper", "no such paper"), ("BadLinear", "no such linear tape"), ("BadRule", "no such rule"), ("BadChain", "no such chain"), ("BadSchedule", "no such schedule"), ("BadCode", "no such code"), ("BadPattern", "no such pattern"), ("BadGroups", "no such groups"), ("BadStart", "no such start"), ("BadMap", "no such mapping"), ("BadDeed", "no such deed")]
section
variable {x : D} {L ys : List D} {ρ : Envr} {c f m : Str}
abbrev rV (x : D) (L : List D) : Envr := [some (.fz x), some (.fz (.lst L))]
theorem tripE (h : ρ[0]? = some (some (.fz x))) : fTup (fCons (fMk (ad c) f m (fV 0)) (fCons (fMk (ad c) f m (fV 0)) (fCons (fC (.str c)) fNil))) ρ = some (.ok (trip ad f x (c, m)) ρ) :=
  eTup (eCons (eMk (eV h)) (eCons (eMk (eV h)) (eCons eC eNil))) (Nat.le_of_ble_eq_true rfl)
theorem stepV (h2 : L.length ≤ 500) : sSet 1 (fO (fE (f2 addD (fV 1) (fE (fLst (fCons (fTup (fCons (fMk (ad c) f m (fV 0)) (fCons (fMk (ad c) f m (fV 0)) (fCons (fC (.str c)) fNil)))) fNil)))))) (rV x L) = some (.nx (rV x (L ++ [trip ad f x (c, m)]))) :=
  eSet (eO (e2L (eV rfl) (eELst (eCons (tripE rfl) eNil) (Nat.le_of_ble_eq_true rfl)) (by simp; omega))) (Nat.le_of_ble_eq_true rfl)
theorem stepV0 : sSet 1 (fO (fE (fLst (fCons (fTup (fCons (fMk (ad c) f m (fV 0)) (fCons (fMk (ad c) f m (fV 0)) (fCons (fC (.str c)) fNil)))) fNil)))) [some (.fz x), none] = some (.nx (rV x [trip ad f x (c, m)])) :=
  eSet (eO (eELst (eCons (tripE rfl) eNil) (Nat.le_of_ble_eq_true rfl))) (Nat.le_of_ble_eq_true rfl)
theorem stepVR (h2 : L.length ≤ 500) : sRet (f2 addD (fV 1) (fE (fLst (fCons (fTup (fCons (fMk (ad c) f m (fV 0)) (fCons (fMk (ad c) f m (fV 0)) (fCons (fC (.str c)) fNil)))) fNil)))) (rV x L) = some (.rt (.ls ((L ++ [trip ad f x (c, m)]).map .fz)) (rV x L)) :=
  eRet (e2 (eV rfl) (eELst (eCons (tripE rfl) eNil) (Nat.le_of_ble_eq_true rfl)) (addL (by simp; omega)))
end
theorem valued (x : D) : F__law_valued ad [x] = some (.ok (.ls ((VV.map (trip ad "value" x)).map .fz))) := by
  refine eF rfl (ρ1 := rV x [trip ad "value" x ("BadNumber", "no such number"), trip ad "value" x ("BadName", "no such name")]) ?_
  show g__law_valued ad [some (.fz x), none] = _
  unfold g__law_valued
  exact eSeq stepV0 (eSeq (stepV (Nat.le_of_ble_eq_true rfl)) (stepVR (Nat.le_of_ble_eq_true rfl)))
theorem placed (x : D) : F__law_placed ad [x] = some (.ok (.ls ((PP.map (trip ad "place" x)).map .fz))) := by
  refine eF rfl (ρ1 := rV x ((PP.take 15).map (trip ad "place" x))) ?_
  show g__law_placed ad [some (.fz x), none] = _
  unfold g__law_placed
  refine eSeq stepV0 ?_
  refine eSeq (stepV (Nat.le_of_ble_eq_true rfl)) ?_
  refine eSeq (stepV (Nat.le_of_ble_eq_true rfl)) ?_
  refine eSeq (stepV (Nat.le_of_ble_eq_true rfl)) ?_
  refine eSeq (stepV (Nat.le_of_ble_eq_true rfl)) ?_
  refine eSeq (stepV (Nat.le_of_ble_eq_true rfl)) ?_
  refine eSeq (stepV (Nat.le_of_ble_eq_true rfl)) ?_
  refine eSeq (stepV (Nat.le_of_ble_eq_true rfl)) ?_
  refine eSeq (stepV (Nat.le_of_ble_eq_true rfl)) ?_
  refine eSeq (stepV (Nat.le_of_ble_eq_true rfl)) ?_
  refine eSeq (stepV (Nat.le_of_ble_eq_true rfl)) ?_
  refine eSeq (stepV (Nat.le_of_ble_eq_true rfl)) ?_
  refine eSeq (stepV (Nat.le_of_ble_eq_true rfl)) ?_
  refine eSeq (stepV (Nat.le_of_ble_eq_true rfl)) ?_
  refine eSeq (stepV (Nat.le_of_ble_eq_true rfl)) ?_
  exact stepVR (Nat.le_of_ble_eq_true rfl)
/-! right -/
theorem plain_exp : ∀ c ∈ XN, plain (.lst ((expK c).map D.str)) = true := by decide +kernel
section
variable {x : D} {ρ : Envr} {c f m : Str} {i : Nat}
theorem kindE (inj : Inj ad) (hc : c ∈ XN) (h : ρ[i]? = some (some (.fz (.exc (ad c) f x m)))) : fE (fCall (F__law_kinds ad) (fCons (fV i) fNil)) ρ = some (.ok (.lst ((expK c).map D.str)) ρ) := by
  have z := eE (eCall (eCons (eV h) eNil) (kinds inj hc f m x))
  rw [erase_ls] at z
  exact z
theorem neK (inj : Inj ad) (hc : c ∈ XN) (h : ρ[i]? = some (some (.fz (.exc (ad c) f x m)))) {fa : FA} (w : fa ρ = some (.ok ((expK c).map D.str) ρ)) : fTest (fE (f2 neD (fE (fCall (F__law_kinds ad) (fCons (fV i) fNil))) (fE (fLst fa)))) ρ = some (.ok false ρ) := by
  have hl : ((expK c).map D.str).length ≤ 100000 := by
    rw [List.length_map]
    unfold expK
    split
    · decide
    · split
      · decide
      · show 3 ≤ 100000; decide
  exact eTest (eE (e2 (kindE inj hc h) (eELst w hl) (ne_self (plain_exp c hc))))
theorem neA {NN : List Str} (hp : plain x = true) (hc : c ∈ NN) (h0 : ρ[0]? = some (some (.fz x))) (h : ρ[i]? = some (some (.fz (.exc (ad c) f x m)))) : fTest (fE (f2 neD (fAttr ad NN f (fV i)) (fV 0))) ρ = some (.ok false ρ) :=
  eTest (eE (e2 (eAttr (eV h) (who_some hc)) (eV h0) (ne_self hp)))
end
def bodyR (ad : Str → Addr) (NN : List Str) (f : Str) : FS := sSeq (sIf (fOr (fTest (fE (f2 (neD) (fE (fCall (F__law_kinds ad) (fCons (fV 1) (fNil)))) (fE (fLst (fCons (fV 3) (fCons (fC (.str "base")) (fCons (fC (.str "value")) (fNil))))))))) (fTest (fE (f2 (neD) (fE (fCall (F__law_kinds ad) (fCons (fV 2) (fNil)))) (fE (fLst (fCons (fV 3) (fCons (fC (.str "base")) (fCons (fC (.str "value")) (fNil)))))))))) (sRet (fO (fC (.bl false)))) (sNop)) (sIf (fOr (fTest (fE (f2 (neD) (fAttr ad NN f (fV 1)) (fV 0)))) (fTest (fE (f2 (neD) (fAttr ad NN f (fV 2)) (fV 0))))) (sRet (fO (fC (.bl false)))) (sNop))
theorem body_ok (inj : Inj ad) {NN : List Str} {x : D} {c f m : Str} (hp : plain x = true) (hc : c ∈ XN) (hn : c ∈ NN) (he : expK c = [c, "base", "value"]) : bodyR ad NN f [some (.fz x), some (.fz (.exc (ad c) f x m)), some (.fz (.exc (ad c) f x m)), some (.fz (.str c))] = some (.nx [some (.fz x), some (.fz (.exc (ad c) f x m)), some (.fz (.exc (ad c) f x m)), some (.fz (.str c))]) := by
  have hw : fCons (fV 3) (fCons (fC (.str "base")) (fCons (fC (.str "value")) fNil)) [some (.fz x), some (.fz (.exc (ad c) f x m)), some (.fz (.exc (ad c) f x m)), some (.fz (.str c))] = some (.ok ((expK c).map D.str) [some (.fz x), some (.fz (.exc (ad c) f x m)), some (.fz (.exc (ad c) f x m)), some (.fz (.str c))]) := by
    rw [he]
    exact eCons (eV rfl) (eCons eC (eCons eC eNil))
  refine eSeq (eSIfF ((eOrF (neK inj hc rfl hw)).trans (neK inj hc rfl hw)) eNop) ?_
  exact eSIfF ((eOrF (neA hp hn rfl rfl)).trans (neA hp hn rfl rfl)) eNop
theorem loopR (inj : Inj ad) {NN : List Str} {x : D} {f : Str} {dead : List Nat} (hd : dead = [] ∨ dead = [2, 3]) (hp : plain x = true) : ∀ (cs : List (Str × Str)), (∀ p ∈ cs, p.1 ∈ XN ∧ p.1 ∈ NN ∧ expK p.1 = [p.1, "base", "value"]) → ∀ a b c, ∃ a' b' c', forL (gTn 3 (gsCons (gN 1) (gsCons (gN 2) (gsCons (gN 3) gsNil)))) (bodyR ad NN f) dead (cs.map (trip ad f x)) [some (.fz x), a, b, c] = some (.nx [some (.fz x), a', b', c'])
  | [], _, a, b, c => ⟨a, b, c, rfl⟩
  | p :: cs, h, a, b, c => by
    obtain ⟨h1, h2, h3⟩ := h p (List.mem_cons_self ..)
    have hb := body_ok (x := x) (f := f) (m := p.2) inj hp h1 h2 h3
    rcases hd with rfl | rfl
    · obtain ⟨a', b', c', e⟩ := loopR inj (dead := []) (.inl rfl) hp cs (fun q hq => h q (List.mem_cons_of_mem _ hq)) (some (.fz (.exc (ad p.1) f x p.2))) (some (.fz (.exc (ad p.1) f x p.2))) (some (.fz (.str p.1)))
      exact ⟨a', b', c', eFcons rfl hb e⟩
    · obtain ⟨a', b', c', e⟩ := loopR inj (dead := [2, 3]) (.inr rfl) hp cs (fun q hq => h q (List.mem_cons_of_mem _ hq)) (some (.fz (.exc (ad p.1) f x p.2))) none none
      exact ⟨a', b', c', eFcons rfl hb e⟩
theorem VV_ok : ∀ p ∈ VV, p.1 ∈ XN ∧ p.1 ∈ N_value ∧ expK p.1 = [p.1, "base", "value"] := by decide +kernel
theorem PP_ok : ∀ p ∈ PP, p.1 ∈ XN ∧ p.1 ∈ N_place ∧ expK p.1 = [p.1, "base", "value"] := by decide +kernel
theorem right (inj : Inj ad) {x : D} (hp : plain x = true) : F__law_right ad [x] = some (.ok (.fz (.bl true))) := by
  obtain ⟨a1, b1, c1, e1⟩ := loopR (f := "value") (dead := []) inj (.inl rfl) hp VV VV_ok none none none
  obtain ⟨a2, b2, c2, e2⟩ := loopR (f := "place") (dead := [2, 3]) inj (.inr rfl) hp PP PP_ok a1 b1 c1
  have hv : fSeq (fE (fCall (F__law_valued ad) (fCons (fV 0) fNil))) [some (.fz x), none, none, none] = some (.ok (VV.map (trip ad "value" x)) [some (.fz x), none, none, none]) := by
    have z := eE (eCall (eCons (eV (i := 0) (ρ := [some (.fz x), none, none, none]) rfl) eNil) (valued (ad := ad) x))
    rw [erase_ls] at z
    exact eSeqD z (.inl rfl)
  have hq : fSeq (fE (fCall (F__law_placed ad) (fCons (fV 0) fNil))) [some (.fz x), a1, b1, c1] = some (.ok (PP.map (trip ad "place" x)) [some (.fz x), a1, b1, c1]) := by
    have z := eE (eCall (eCons (eV (i := 0) (ρ := [some (.fz x), a1, b1, c1]) rfl) eNil) (placed (ad := ad) x))
    rw [erase_ls] at z
    exact eSeqD z (.inl rfl)
  have hN : ("NoSuch" : Str) ∈ XN ∧ ("NoSuch" : Str) ∈ N_value ∧ ("TooMany" : Str) ∈ XN ∧ ("TooMany" : Str) ∈ N_most ∧ expK "NoSuch" = (["NoSuch", "lookup"] : List Str) ∧ expK "TooMany" = (["TooMany", "overflow"] : List Str) := by decide +kernel
  obtain ⟨n1, n2, n3, n4, n5, n6⟩ := hN
  have w3 : ∀ ρ : Envr, fCons (fC (.str "NoSuch")) (fCons (fC (.str "lookup")) fNil) ρ = some (.ok ((expK "NoSuch").map D.str) ρ) := fun ρ => by rw [n5]; exact eCons eC (eCons eC eNil)
  have w4 : ∀ ρ : Envr, fCons (fC (.str "TooMany")) (fCons (fC (.str "overflow")) fNil) ρ = some (.ok ((expK "TooMany").map D.str) ρ) := fun ρ => by rw [n6]; exact eCons eC (eCons eC eNil)
  have b3 : ∀ a b, sIf (fOr (fTest (fE (f2 (neD) (fE (fCall (F__law_kinds ad) (fCons (fV 1) (fNil)))) (fE (fLst (fCons (fC (.str "NoSuch")) (fCons (fC (.str "lookup")) (fNil)))))))) (fTest (fE (f2 (neD) (fAttr ad N_value "value" (fV 1)) (fV 0))))) (sRet (fO (fC (.bl false)))) (sNop) [some (.fz x), some (.fz (.exc (ad "NoSuch") "value" x "nothing so called")), a, b] = some (.nx [some (.fz x), some (.fz (.exc (ad "NoSuch") "value" x "nothing so called")), a, b]) := fun a b =>
    eSIfF ((eOrF (neK inj n1 rfl (w3 _))).trans (neA hp n2 rfl rfl)) eNop
  have b4 : ∀ a b, sIf (fOr (fTest (fE (f2 (neD) (fE (fCall (F__law_kinds ad) (fCons (fV 1) (fNil)))) (fE (fLst (fCons (fC (.str "TooMany")) (fCons (fC (.str "overflow")) (fNil)))))))) (fTest (fE (f2 (neD) (fAttr ad N_most "most" (fV 1)) (fV 0))))) (sRet (fO (fC (.bl false)))) (sNop) [some (.fz x), some (.fz (.exc (ad "TooMany") "most" x "too many")), a, b] = some (.nx [some (.fz x), some (.fz (.exc (ad "TooMany") "most" x "too many")), a, b]) := fun a b =>
    eSIfF ((eOrF (neK inj n3 rfl (w4 _))).trans (neA hp n4 rfl rfl)) eNop
  refine eF rfl (ρ1 := [some (.fz x), none, b2, c2]) ?_
  show g__law_right ad [some (.fz x), none, none, none] = _
  unfold g__law_right
  refine eSeq (eFor hv e1) (eSeq (eFor hq e2) (eSeq (eFor (eSeqD (eTup (eCons (eMk (eV rfl)) (eCons (eMk (eV rfl)) eNil)) (Nat.le_of_ble_eq_true rfl)) (.inr rfl)) (eFcons rfl (b3 b2 c2) (eFcons rfl (b3 b2 c2) eFnil))) (eSeq (eFor (eSeqD (eTup (eCons (eMk (eV rfl)) (eCons (eMk (eV rfl)) eNil)) (Nat.le_of_ble_eq_true rfl)) (.inr rfl)) (eFcons rfl (b4 b2 c2) (eFcons rfl (b4 b2 c2) eFnil))) (eRet (eO eC)))))
end Wk

end
section
set_option Elab.async false
set_option linter.all false
set_option maxRecDepth 100000
set_option maxHeartbeats 4000000
namespace Wk
open PySem PySem.Spec PyProof.Rows L2 LD PySem.HandSPX
variable {ad : Str → Addr}
theorem pow_b {i j : Int} (h0 : 0 ≤ j) (h : (Builtin.Int.intBits i : Int) * j ≤ 2 ^ 27) : powD (.int i) (.int j) = some (.fz (.int (i ^ j.toNat))) := by
  show ((if 0 ≤ j ∧ (Builtin.Int.intBits i : Int) * j ≤ 2 ^ 27 then some (i ^ j.toNat) else none).map fun k => OV.fz (.int k)) = _
  rw [if_pos ⟨h0, h⟩]
  rfl
theorem draw (cell k : Int) (h0 : 0 ≤ k) (h1 : k ≤ 100000) : ∃ l, F__law_draw ad [.int cell, .int k] = some (.ok (.dk (kvS l cell (1000 * k)))) := by
  have hp : powD (.int 10) (.int 18) = some (.fz (.int (10 ^ (18 : Int).toNat))) := pow_b (by decide) (by decide +kernel)
  have hm : mulD (.int 1000) (.int k) = some (.fz (.int (1000 * k))) := mul_b (by omega) (by omega)
  have hc : ∀ b : Bool, decide ((10 ^ (18 : Int).toNat : Int) ≤ cell) = b → ∃ l, fIf (fTest (fE (f2 (cmpD fun i j => decide (j ≤ i)) (fV 0) (fE (f2 powD (fC (.int 10)) (fC (.int 18))))))) (fV 0) (fC (.int 0)) [some (.fz (.int cell)), some (.fz (.int k))] = some (.ok (.int l) [some (.fz (.int cell)), some (.fz (.int k))]) := by
    intro b hb
    have ht : fTest (fE (f2 (cmpD fun i j => decide (j ≤ i)) (fV 0) (fE (f2 powD (fC (.int 10)) (fC (.int 18)))))) [some (.fz (.int cell)), some (.fz (.int k))] = some (.ok b [some (.fz (.int cell)), some (.fz (.int k))]) := by
      refine eTest (eE (o := .fz (.bl b)) (e2 (eV rfl) (eE (e2 eC eC hp)) ?_))
      show some (OV.fz (.bl (decide ((10 ^ (18 : Int).toNat : Int) ≤ cell)))) = _
      rw [hb]
    cases b with
    | true => exact ⟨cell, (eIfT ht).trans (eV rfl)⟩
    | false => exact ⟨0, (eIfF ht).trans eC⟩
  obtain ⟨l, hl⟩ := hc _ rfl
  refine ⟨l, eF rfl (ρ1 := [some (.fz (.int cell)), some (.fz (.int k))]) ?_⟩
  show g__law_draw ad [some (.fz (.int cell)), some (.fz (.int k))] = _
  unfold g__law_draw
  exact eRet (eDk (ks := ["left", "cell", "turns"]) (eCons hl (eCons (eV rfl) (eCons (eE (e2 eC (eV rfl) hm)) eNil))) ⟨rfl, Nat.le_of_ble_eq_true rfl⟩)
/-! one turn -/
theorem strmul {r : Int} (h0 : 0 ≤ r) (h1 : r < 50) : ∃ s, mulD (.str "ab") (.int r) = some (.fz (.str s)) ∧ plain (.str s) = true := by
  have key : ∀ n : Fin 50, (repStr (n.val : Int) "ab").length ≤ sizeLine ∧ plain (.str (repStr (n.val : Int) "ab")) = true := by decide +kernel
  obtain ⟨k1, k2⟩ := key ⟨r.toNat, by omega⟩
  have e : ((⟨r.toNat, by omega⟩ : Fin 50).val : Int) = r := by show (r.toNat : Int) = r; omega
  rw [e] at k1 k2
  refine ⟨repStr r "ab", ?_, k2⟩
  show (if -1000 ≤ r ∧ r ≤ 1000 ∧ ("ab" : Str).length ≤ 1000 ∧ (repStr r "ab").length ≤ sizeLine then _ else _) = _
  exact if_pos ⟨by omega, by omega, by decide +kernel, k1⟩
theorem tupmul (n : Int) : mulD (.tup [.int n]) (.int 9) = some (.fz (.tup [.int n, .int n, .int n, .int n, .int n, .int n, .int n, .int n, .int n])) := by
  simp only [mulD]
  rw [if_pos ⟨List.cons_ne_nil _ _, by decide, by decide, Nat.le_of_ble_eq_true rfl⟩]
  rfl
def itemsL (n : Int) (s : Str) (b : Int) : List D := [.int n, .int (0 - n), .str s, .tup [.str "atom", .tup [.int 0, .int n]], .non, .tup [.int b, .tup []], .tup [.int n, .int n, .int n, .int n, .int n, .int n, .int n, .int n, .int n]]
theorem items_plain {n b : Int} {s : Str} (hs : plain (.str s) = true) : ∀ d ∈ itemsL n s b, plain d = true := by
  intro d hd
  unfold itemsL at hd
  simp only [List.mem_cons, List.not_mem_nil, or_false] at hd
  rcases hd with rfl | rfl | rfl | rfl | rfl | rfl | rfl
  · exact plain_i
  · exact plain_i
  · exact hs
  · kernel_rfl
  · exact plain_n
  · kernel_rfl
  · kernel_rfl
theorem items_at {n b j : Int} {s : Str} (h0 : 0 ≤ j) (h1 : j < 7) : ∃ d, d ∈ itemsL n s b ∧ atD (.lst (itemsL n s b)) (.int j) = some (.fz d) := by
  have h : j = 0 ∨ j = 1 ∨ j = 2 ∨ j = 3 ∨ j = 4 ∨ j = 5 ∨ j = 6 := by omega
  rcases h with rfl | rfl | rfl | rfl | rfl | rfl | rfl
  · exact ⟨_, List.mem_of_getElem? (i := 0) rfl, rfl⟩
  · exact ⟨_, List.mem_of_getElem? (i := 1) rfl, rfl⟩
  · exact ⟨_, List.mem_of_getElem? (i := 2) rfl, rfl⟩
  · exact ⟨_, List.mem_of_getElem? (i := 3) rfl, rfl⟩
  · exact ⟨_, List.mem_of_getElem? (i := 4) rfl, rfl⟩
  · exact ⟨_, List.mem_of_getElem? (i := 5) rfl, rfl⟩
  · exact ⟨_, List.mem_of_getElem? (i := 6) rfl, rfl⟩
abbrev rL (S : D) (x1 x2 x3 x4 x5 : Option OV) : Envr := [some (.fz S), x1, x2, x3, x4, x5, none, none, none, none, none, none, none, none]
def bodyL (ad : Str → Addr) : FS := sSeq (sSet 3 (fCall (F__law_draw ad) (fCons (fV 2) (fCons (fV 1) (fNil))))) (sSeq (sSet 4 (fO (fE (fCallL 3 (F__law_digit ad) (fCons (fC (.int 100000)) (fNil)))))) (sSeq (sSet 5 (fO (fE (fLst (fCons (fV 4) (fCons (fE (f2 subD (fC (.int 0)) (fV 4))) (fCons (fE (f2 mulD (fC (.str "ab")) (fE (f2 modD (fV 4) (fC (.int 50)))))) (fCons (fTup (fCons (fC (.str "atom")) (fCons (fTup (fCons (fC (.int 0)) (fCons (fV 4) (fNil)))) (fNil)))) (fCons (fC .non) (fCons (fTup (fCons (fE (f2 powD (fC (.int 10)) (fC (.int 30)))) (fCons (fTup (fNil)) (fNil)))) (fCons (fE (f2 mulD (fTup (fCons (fV 4) (fNil))) (fC (.int 9)))) (fNil)))))))))))) (sIf (fOr (fNot (fTest (fE (fCall (F__law_right ad) (fCons (fE (f2 atD (fV 5) (fE (fCallL 3 (F__law_digit ad) (fCons (fC (.int 7)) (fNil)))))) (fNil)))))) (fNot (fTest (fE (fCall (F__law_right ad) (fCons (fE (f2 powD (fE (f2 powD (fE (f2 powD (fC (.int 10)) (fC (.int 50)))) (fC (.int 50)))) (fC (.int 2)))) (fNil))))))) (sRet (fO (fC (.bl false)))) (sNop))))
theorem turn (inj : Inj ad) (S : D) (cell k : Int) (x5 : Option OV) (h0 : 0 ≤ k) (h1 : k ≤ 100) : ∃ x3 x4 x5', bodyL ad (rL S (some (.fz (.int k))) (some (.fz (.int cell))) none none x5) = some (.nx (rL S (some (.fz (.int k))) (some (.fz (.int cell))) x3 x4 x5')) := by
  obtain ⟨l, hd⟩ := draw (ad := ad) cell k h0 (by omega)
  obtain ⟨n, l1, t1, n0, n1, t0, t2, hn⟩ := digit (ad := ad) l cell (1000 * k) 100000 (by omega) (by decide)
  obtain ⟨j, l2, t3, j0, j1, _, _, hj⟩ := digit (ad := ad) l1 cell t1 7 (by omega) (by decide)
  obtain ⟨r, r0, r1, hr⟩ := mod_ex n (c := 50) (by decide)
  obtain ⟨s, hs, ps⟩ := strmul r0 r1
  have hp : powD (.int 10) (.int 30) = some (.fz (.int (10 ^ (30 : Int).toNat))) := pow_b (by decide) (by decide +kernel)
  obtain ⟨d, dm, hat⟩ := items_at (n := n) (b := 10 ^ (30 : Int).toNat) (s := s) j0 j1
  have pd := items_plain ps d dm
  have q1 : powD (.int 10) (.int 50) = some (.fz (.int (10 ^ (50 : Int).toNat))) := pow_b (by decide) (by decide +kernel)
  have q2 : powD (.int (10 ^ (50 : Int).toNat)) (.int 50) = some (.fz (.int ((10 ^ (50 : Int).toNat) ^ (50 : Int).toNat))) := pow_b (by decide) (by decide +kernel)
  have q3 : powD (.int ((10 ^ (50 : Int).toNat) ^ (50 : Int).toNat)) (.int 2) = some (.fz (.int (((10 ^ (50 : Int).toNat) ^ (50 : Int).toNat) ^ (2 : Int).toNat))) := pow_b (by decide) (by decide +kernel)
  refine ⟨some (.dk (kvS l2 cell t3)), some (.fz (.int n)), some (.fz (.lst (itemsL n s (10 ^ (30 : Int).toNat)))), ?_⟩
  unfold bodyL
  refine eSeq (eSet (eCall (eCons (eV rfl) (eCons (eV rfl) eNil)) hd) (Nat.le_of_ble_eq_true rfl)) ?_
  refine eSeq (eSet (eO (eE (eCallL rfl (eCons eC eNil) rfl hn))) (Nat.le_of_ble_eq_true rfl)) ?_
  refine eSeq (ρ1 := rL S (some (.fz (.int k))) (some (.fz (.int cell))) (some (.dk (kvS l1 cell t1))) (some (.fz (.int n))) (some (.fz (.lst (itemsL n s (10 ^ (30 : Int).toNat)))))) (eSet (ρ1 := rL S (some (.fz (.int k))) (some (.fz (.int cell))) (some (.dk (kvS l1 cell t1))) (some (.fz (.int n))) x5) (eO (eELst (ds := itemsL n s (10 ^ (30 : Int).toNat)) ?_ (Nat.le_of_ble_eq_true rfl))) (Nat.le_of_ble_eq_true rfl)) ?_
  · exact eCons (eV rfl) (eCons (eE (o := .fz (.int (0 - n))) (e2 eC (eV rfl) rfl)) (eCons (eE (e2 eC (eE (e2 (eV rfl) eC hr)) hs)) (eCons (eTup (eCons eC (eCons (eTup (eCons eC (eCons (eV rfl) eNil)) (Nat.le_of_ble_eq_true rfl)) eNil)) (Nat.le_of_ble_eq_true rfl)) (eCons eC (eCons (eTup (eCons (eE (e2 eC eC hp)) (eCons (eTup eNil (Nat.le_of_ble_eq_true rfl)) eNil)) (Nat.le_of_ble_eq_true rfl)) (eCons (eE (e2 (eTup (eCons (eV rfl) eNil) (Nat.le_of_ble_eq_true rfl)) eC (tupmul n))) eNil))))))
  · have w := eNot (eTest (eE (eCall (eCons (eE (e2 (eV (i := 5) (ρ := rL S (some (.fz (.int k))) (some (.fz (.int cell))) (some (.dk (kvS l1 cell t1))) (some (.fz (.int n))) (some (.fz (.lst (itemsL n s (10 ^ (30 : Int).toNat)))))) rfl) (eE (eCallL (i := 3) rfl (eCons eC eNil) rfl hj)) hat)) eNil) (right inj pd))))
    exact eSIfF ((eOrF w).trans (eNot (eTest (eE (eCall (eCons (eE (e2 (eE (e2 (eE (e2 eC eC q1)) eC q2)) eC q3)) eNil) (right inj plain_i)))))) eNop
theorem turns (inj : Inj ad) (S : D) : ∀ (cs : List Int) (k : Nat) (x5 : Option OV), k + cs.length ≤ 100 → ∃ x5', forL (gTn 2 (gsCons (gN 1) (gsCons (gN 2) (gsNil)))) (bodyL ad) [1, 2, 3, 4] (enumD k (cs.map D.int)) (rL S none none none none x5) = some (.nx (rL S none none none none x5'))
  | [], k, x5, _ => ⟨x5, rfl⟩
  | c :: cs, k, x5, h => by
    obtain ⟨x3, x4, x5', e⟩ := turn inj S c k x5 (by omega) (by simp at h; omega)
    obtain ⟨y, e'⟩ := turns inj S cs (k + 1) x5' (by simp at h; omega)
    exact ⟨y, eFcons rfl e e'⟩
end Wk

end
section
set_option Elab.async false
set_option linter.all false
set_option maxRecDepth 100000
set_option maxHeartbeats 4000000
namespace Wk
open PySem PySem.Spec PyProof.Rows L2 LD PySem.HandSPX
variable {ad : Str → Addr}
/-! the comprehensions -/
section
variable {ρ : Envr}
theorem set_back (i : Nat) (h : ρ[i]? = some none) (x : Option OV) : (ρ.set i x).set i none = ρ := by
  rw [List.set_set]
  apply List.ext_getElem?
  intro j
  by_cases e : j = i
  · rw [e, List.getElem?_set_self (List.getElem?_eq_some_iff.mp h).1, h]
  · rw [List.getElem?_set_ne (Ne.symm e)]
theorem lc_attr {NN : List Str} {f : Str} {x : D} (h : ρ[10]? = some none) : ∀ (ps : List (Str × Str)), (∀ p ∈ ps, p.1 ∈ NN) → ∀ acc : List OV, acc.length + ps.length < 1000 → lcL (gN 10) fYes (fO (fAttr ad NN f (fV 10))) [10] (ps.map fun p => D.exc (ad p.1) f x p.2) acc ρ = some (acc ++ ps.map (fun _ => .fz x), ρ)
  | [], _, acc, _ => by simp [lcL]
  | p :: ps, hn, acc, ha => by
    have hl : 10 < ρ.length := (List.getElem?_eq_some_iff.mp h).1
    have ih := lc_attr (f := f) (x := x) h ps (fun q hq => hn q (List.mem_cons_of_mem _ hq)) (acc ++ [.fz x]) (by simp at ha ⊢; omega)
    rw [List.map_cons]
    unfold lcL
    have hg : gN 10 (D.exc (ad p.1) f x p.2) ρ = some (ρ.set 10 (some (.fz (D.exc (ad p.1) f x p.2)))) := if_pos hl
    rw [hg]
    show (match fO (fAttr ad NN f (fV 10)) (ρ.set 10 (some (.fz (D.exc (ad p.1) f x p.2)))) with | some (.ok o ρ3) => _ | _ => _) = _
    rw [eO (eAttr (eV (List.getElem?_set_self hl)) (who_some (hn p (List.mem_cons_self ..))))]
    show (if acc.length < 100000 then lcL (gN 10) fYes (fO (fAttr ad NN f (fV 10))) [10] (ps.map fun p => D.exc (ad p.1) f x p.2) (acc ++ [.fz x]) ((ρ.set 10 (some (.fz (D.exc (ad p.1) f x p.2)))).set 10 none) else none) = _
    rw [if_pos (by simp at ha; omega), set_back 10 h, ih]
    simp
abbrev Q3 := Str × Str × Str
def excQ (ad : Str → Addr) (x : D) (q : Q3) : D := .exc (ad q.1) q.2.1 x q.2.2
def tripQ (ad : Str → Addr) (x : D) (q : Q3) : D := .tup [excQ ad x q, excQ ad x q, .str q.1]
theorem lc_str {x : D} (h : ρ[10]? = some none) : ∀ (ps : List Q3), (∀ p ∈ ps, p.1 ∈ XN) → ∀ acc : List OV, acc.length + ps.length < 1000 → lcL (gN 10) fYes (fN (N1 (strX ad XN)) (fCons (fV 10) fNil)) [10] (ps.map (excQ ad x)) acc ρ = some (acc ++ ps.map (fun q => .fz (.str q.2.2)), ρ)
  | [], _, acc, _ => by simp [lcL]
  | p :: ps, hn, acc, ha => by
    have hl : 10 < ρ.length := (List.getElem?_eq_some_iff.mp h).1
    have ih := lc_str (x := x) h ps (fun q hq => hn q (List.mem_cons_of_mem _ hq)) (acc ++ [.fz (.str p.2.2)]) (by simp at ha ⊢; omega)
    rw [List.map_cons]
    unfold lcL
    have hg : gN 10 (excQ ad x p) ρ = some (ρ.set 10 (some (.fz (excQ ad x p)))) := if_pos hl
    rw [hg]
    have hs : N1 (strX ad XN) [excQ ad x p] = some (.fz (.str p.2.2)) := if_pos (who_some (hn p (List.mem_cons_self ..)))
    show (match fN (N1 (strX ad XN)) (fCons (fV 10) fNil) (ρ.set 10 (some (.fz (excQ ad x p)))) with | some (.ok o ρ3) => _ | _ => _) = _
    rw [eN (eCons (eV (List.getElem?_set_self hl)) eNil) hs]
    show (if acc.length < 100000 then lcL (gN 10) fYes (fN (N1 (strX ad XN)) (fCons (fV 10) fNil)) [10] (ps.map (excQ ad x)) (acc ++ [.fz (.str p.2.2)]) ((ρ.set 10 (some (.fz (excQ ad x p)))).set 10 none) else none) = _
    rw [if_pos (by simp at ha; omega), set_back 10 h, ih]
    simp
end
abbrev rM (S : D) (x5 x6 x7 x8 x9 : Option OV) : Envr := [some (.fz S), none, none, none, none, x5, x6, x7, x8, x9, none, none, none, none]
theorem lc_one {S x : D} {x5 x6 x7 x8 x9 : Option OV} : ∀ (ps : List Q3) (acc : List OV), acc.length + ps.length < 1000 → lcL (gTn 3 (gsCons (gN 11) (gsCons (gN 12) (gsCons (gN 13) (gsNil))))) fYes (fO (fV 11)) [11, 12, 13] (ps.map (tripQ ad x)) acc (rM S x5 x6 x7 x8 x9) = some (acc ++ ps.map (fun q => .fz (excQ ad x q)), rM S x5 x6 x7 x8 x9)
  | [], acc, _ => by simp [lcL]
  | p :: ps, acc, ha => by
    have ih := lc_one (S := S) (x := x) (x5 := x5) (x6 := x6) (x7 := x7) (x8 := x8) (x9 := x9) ps (acc ++ [.fz (excQ ad x p)]) (by simp at ha ⊢; omega)
    have e : lcL (gTn 3 (gsCons (gN 11) (gsCons (gN 12) (gsCons (gN 13) (gsNil))))) fYes (fO (fV 11)) [11, 12, 13] ((p :: ps).map (tripQ ad x)) acc (rM S x5 x6 x7 x8 x9) = if acc.length < 100000 then lcL (gTn 3 (gsCons (gN 11) (gsCons (gN 12) (gsCons (gN 13) (gsNil))))) fYes (fO (fV 11)) [11, 12, 13] (ps.map (tripQ ad x)) (acc ++ [.fz (excQ ad x p)]) (rM S x5 x6 x7 x8 x9) else none := rfl
    rw [e, if_pos (by simp at ha; omega), ih]
    simp
/-! the rows -/
def QQ : List Q3 := VV.map (fun p => (p.1, ("value" : Str), p.2)) ++ PP.map (fun p => (p.1, ("place" : Str), p.2))
def QS : List Q3 := QQ ++ ([("NoSuch", "value", "nothing so called"), ("TooMany", "most", "too many")] : List (Str × Str × Str))
theorem QS_ok : ∀ q ∈ QS, q.1 ∈ XN := by decide +kernel
def rowD : D := .lst (QS.map fun q => .str q.2.2)
def bodyW (ad : Str → Addr) : FS := sSeq (sSet 9 (fO (fE (f2 addD (fE (fLc 14 (fSeq (fE (f2 addD (fE (fCall (F__law_valued ad) (fCons (fV 8) (fNil)))) (fE (fCall (F__law_placed ad) (fCons (fV 8) (fNil))))))) (gTn 3 (gsCons (gN 11) (gsCons (gN 12) (gsCons (gN 13) (gsNil))))) (fYes) (fO (fV 11)) [11, 12, 13])) (fE (fLst (fCons (fMk (ad "NoSuch") "value" "nothing so called" (fV 8)) (fCons (fMk (ad "TooMany") "most" "too many" (fV 8)) (fNil))))))))) (sExpr (fApp 7 (fO (fE (fLc 14 (fSeq (fV 9)) (gN 10) (fYes) (fN (N1 (strX ad XN)) (fCons (fV 10) (fNil))) [10])))))
theorem row_ok (S x : D) (x5 x6 : Option OV) (rs : List OV) (hr : rs.length < 50) : bodyW ad (rM S x5 x6 (some (.ls rs)) (some (.fz x)) none) = some (.nx (rM S x5 x6 (some (.ls (rs ++ [.fz rowD]))) (some (.fz x)) (some (.fz (.lst (QS.map (excQ ad x))))))) := by
  have hv : fE (fCall (F__law_valued ad) (fCons (fV 8) fNil)) (rM S x5 x6 (some (.ls rs)) (some (.fz x)) none) = some (.ok (.lst (VV.map (trip ad "value" x))) (rM S x5 x6 (some (.ls rs)) (some (.fz x)) none)) := by
    have z := eE (eCall (eCons (eV (i := 8) (ρ := rM S x5 x6 (some (.ls rs)) (some (.fz x)) none) rfl) eNil) (valued (ad := ad) x))
    rw [erase_ls] at z
    exact z
  have hp : fE (fCall (F__law_placed ad) (fCons (fV 8) fNil)) (rM S x5 x6 (some (.ls rs)) (some (.fz x)) none) = some (.ok (.lst (PP.map (trip ad "place" x))) (rM S x5 x6 (some (.ls rs)) (some (.fz x)) none)) := by
    have z := eE (eCall (eCons (eV (i := 8) (ρ := rM S x5 x6 (some (.ls rs)) (some (.fz x)) none) rfl) eNil) (placed (ad := ad) x))
    rw [erase_ls] at z
    exact z
  have hit : fSeq (fE (f2 addD (fE (fCall (F__law_valued ad) (fCons (fV 8) (fNil)))) (fE (fCall (F__law_placed ad) (fCons (fV 8) (fNil)))))) (rM S x5 x6 (some (.ls rs)) (some (.fz x)) none) = some (.ok (QQ.map (tripQ ad x)) (rM S x5 x6 (some (.ls rs)) (some (.fz x)) none)) :=
    eSeqD (e2L hv hp (Nat.le_of_ble_eq_true rfl)) (.inl rfl)
  have hone := lc_one (ad := ad) (S := S) (x := x) (x5 := x5) (x6 := x6) (x7 := some (.ls rs)) (x8 := some (.fz x)) (x9 := none) QQ [] (Nat.le_of_ble_eq_true rfl)
  have hc1 := eLc hit rfl hone
  have hc2 := eE hc1
  have e1 : erase (.ls ([] ++ QQ.map fun q => OV.fz (excQ ad x q))) = .lst (QQ.map (excQ ad x)) := by
    rw [List.nil_append]
    have : (QQ.map fun q => OV.fz (excQ ad x q)) = (QQ.map (excQ ad x)).map .fz := by rw [List.map_map]; rfl
    rw [this, erase_ls]
  rw [e1] at hc2
  have hstr := lc_str (ad := ad) (x := x) (ρ := rM S x5 x6 (some (.ls rs)) (some (.fz x)) (some (.fz (.lst (QS.map (excQ ad x)))))) rfl QS QS_ok [] (Nat.le_of_ble_eq_true rfl)
  have hit2 : fSeq (fV 9) (rM S x5 x6 (some (.ls rs)) (some (.fz x)) (some (.fz (.lst (QS.map (excQ ad x)))))) = some (.ok (QS.map (excQ ad x)) (rM S x5 x6 (some (.ls rs)) (some (.fz x)) (some (.fz (.lst (QS.map (excQ ad x))))))) := eSeqD (eV rfl) (.inl rfl)
  have hc3 := eE (eLc (n := 14) hit2 rfl hstr)
  have e2' : erase (.ls ([] ++ QS.map fun q => OV.fz (.str q.2.2))) = rowD := by
    rw [List.nil_append]
    have : (QS.map fun q => OV.fz (.str q.2.2)) = (QS.map fun q => D.str q.2.2).map .fz := by rw [List.map_map]; rfl
    rw [this, erase_ls]
    rfl
  rw [e2'] at hc3
  unfold bodyW
  refine eSeq (ρ1 := rM S x5 x6 (some (.ls rs)) (some (.fz x)) (some (.fz (.lst (QS.map (excQ ad x)))))) ?_ ?_
  · exact eSet (eO (e2L hc2 (eELst (eCons (eMk (eV rfl)) (eCons (eMk (eV rfl)) eNil)) (Nat.le_of_ble_eq_true rfl)) (Nat.le_of_ble_eq_true rfl))) (Nat.le_of_ble_eq_true rfl)
  · refine eExpr (o := .fz .non) ?_
    unfold fApp
    show (match (some (some (OV.ls rs)) : Option (Option OV)) with | some (some (.ls _)) => rb _ _ | _ => none) = _
    show rb (fO (fE (fLc 14 (fSeq (fV 9)) (gN 10) fYes (fN (N1 (strX ad XN)) (fCons (fV 10) fNil)) [10])) (rM S x5 x6 (some (.ls rs)) (some (.fz x)) (some (.fz (.lst (QS.map (excQ ad x))))))) _ = _
    rw [eO hc3]
    show (if rs.length < 100000 then some (R.ok (OV.fz .non) ((rM S x5 x6 (some (.ls rs)) (some (.fz x)) (some (.fz (.lst (QS.map (excQ ad x)))))).set 7 (some (.ls (rs ++ [.fz rowD]))))) else none) = _
    rw [if_pos (by omega)]
    rfl
end Wk

end
section
set_option Elab.async false
set_option linter.all false
set_option maxRecDepth 100000
set_option maxHeartbeats 4000000
namespace Wk
open PySem PySem.Spec PyProof.Rows L2 LD PySem.HandSPX
variable {ad : Str → Addr}
abbrev V4 : List (Str × Str) := VV ++ ([("NoSuch", "nothing so called")] : List (Str × Str))
theorem V4_ok : ∀ p ∈ V4, p.1 ∈ N_value := by decide +kernel
theorem P16_ok : ∀ p ∈ PP, p.1 ∈ N_place := by decide +kernel
theorem mulnon (k : Int) (h0 : 0 ≤ k) (h1 : k ≤ 100) : mulD (.lst [.non]) (.int k) = some (.ls ((rep k [.non]).map .fz)) := by
  simp only [mulD]
  rw [if_pos ⟨by omega, by omega, Nat.le_trans (show 1 * k.toNat ≤ 100 by omega) (by decide)⟩]
theorem mulrow (d : D) : mulD (.lst [d]) (.int 5) = some (.ls (([d, d, d, d, d] : List D).map .fz)) := by
  simp only [mulD]
  rw [if_pos ⟨by decide, by decide, Nat.le_trans (show 1 * (5 : Int).toNat ≤ 100 by decide) (by decide)⟩]
  rfl
theorem cmpNon {S : D} {x5 x6 : Option OV} {i : Nat} {NN : List Str} {f : Str} {k : Int} (ps : List (Str × Str)) (hps : ∀ p ∈ ps, p.1 ∈ NN) (hl : 0 + ps.length < 1000) (hi : (rM S x5 x6 none none none)[i]? = some (some (.fz (.lst (ps.map fun p => D.exc (ad p.1) f .non p.2))))) (h0 : 0 ≤ k) (h1 : k ≤ 100) (he : rep k [D.non] = ps.map fun _ => D.non) (hpl : plain (.lst (ps.map fun _ => D.non)) = true) :
    fTest (fE (f2 (neD) (fE (fLc 14 (fSeq (fV i)) (gN 10) (fYes) (fO (fAttr ad NN f (fV 10))) [10])) (fE (f2 mulD (fE (fLst (fCons (fC .non) (fNil)))) (fC (.int k)))))) (rM S x5 x6 none none none) = some (.ok false (rM S x5 x6 none none none)) := by
  have hc := lc_attr (ad := ad) (f := f) (x := .non) (ρ := rM S x5 x6 none none none) rfl ps hps [] hl
  have w := eE (eLc (n := 14) (eSeqD (eV hi) (.inl rfl)) rfl hc)
  have e1 : erase (.ls ([] ++ ps.map fun _ => OV.fz .non)) = .lst (ps.map fun _ => D.non) := by
    rw [List.nil_append]
    have : (ps.map fun _ => OV.fz .non) = (ps.map fun _ => D.non).map .fz := by rw [List.map_map]; rfl
    rw [this, erase_ls]
  rw [e1] at w
  have w2 := eE (e2 (eELst (eCons eC eNil) (Nat.le_of_ble_eq_true rfl)) (eC (ρ := rM S x5 x6 none none none)) (mulnon k h0 h1))
  rw [erase_ls, he] at w2
  exact eTest (eE (e2 w w2 (ne_self hpl)))
theorem law_ok (inj : Inj ad) (ns : List Int) (hl : ns.length ≤ 63) : F_law ad [.scr ns] = some (.ok (.fz (.bl true))) := by
  have hcut : fE (fSl cutD (fV 0) (fNoPart) (fPart (fC (.int 4)))) (rL (.scr ns) none none none none none) = some (.ok (.lst ((cutL ns none (some 4)).map D.int)) (rL (.scr ns) none none none none none)) := by
    have z := eE (eSl (opS := cutD) (x := fNoPart) (y := fPart (fC (.int 4))) (o := .ls (((cutL ns none (some 4)).map D.int).map .fz)) (eV (i := 0) (ρ := rL (.scr ns) none none none none none) rfl) rfl rfl (by rw [List.map_map]; rfl))
    rw [erase_ls] at z
    exact z
  have hsum : fE (fLst (fCons (fE (fN (N1 sumD) (fCons (fV 0) (fNil)))) (fNil))) (rL (.scr ns) none none none none none) = some (.ok (.lst [.int ns.sum]) (rL (.scr ns) none none none none none)) :=
    eELst (eCons (eE (o := .fz (.int ns.sum)) (eN (eCons (eV rfl) eNil) rfl)) eNil) (Nat.le_of_ble_eq_true rfl)
  have hcl : (cutL ns none (some 4)).length ≤ 63 := by
    unfold cutL
    rw [List.length_take, List.length_drop]
    omega
  have hit : (iA iEn2 (fCons (fE (f2 addD (fE (fSl cutD (fV 0) (fNoPart) (fPart (fC (.int 4))))) (fE (fLst (fCons (fE (fN (N1 sumD) (fCons (fV 0) (fNil)))) (fNil)))))) fNil)) (rL (.scr ns) none none none none none) = some (.ok (enumD 0 ((cutL ns none (some 4) ++ [ns.sum]).map D.int)) (rL (.scr ns) none none none none none)) := by
    refine eiA (eCons (e2L hcut hsum (by rw [List.length_map]; simp; omega)) eNil) ?_
    rw [List.map_append]
    rfl
  obtain ⟨x5, ht⟩ := turns inj (.scr ns) (cutL ns none (some 4) ++ [ns.sum]) 0 none (by rw [List.length_append]; simp; omega)
  have hp : powD (.int 10) (.int 30) = some (.fz (.int (10 ^ (30 : Int).toNat))) := pow_b (by decide) (by decide +kernel)
  refine eF (n := 1) rfl (ρ1 := rM (.scr ns) (some (.fz (.lst (V4.map fun p => D.exc (ad p.1) "value" .non p.2)))) (some (.fz (.lst (PP.map fun p => D.exc (ad p.1) "place" .non p.2)))) (some (.fz (.lst [rowD, rowD, rowD, rowD, rowD]))) none none) ?_
  show g_law ad (rL (.scr ns) none none none none none) = _
  unfold g_law
  refine eSeq (eFor hit ht) ?_
  refine eSeq (ρ1 := rM (.scr ns) (some (.fz (.lst (V4.map fun p => D.exc (ad p.1) "value" .non p.2)))) none none none none) (eSet (eO (eELst (eCons (eMk eC) (eCons (eMk eC) (eCons (eMk eC) (eCons (eMk eC) eNil)))) (Nat.le_of_ble_eq_true rfl))) (Nat.le_of_ble_eq_true rfl)) ?_
  refine eSeq (ρ1 := rM (.scr ns) (some (.fz (.lst (V4.map fun p => D.exc (ad p.1) "value" .non p.2)))) (some (.fz (.lst ((PP.take 7).map fun p => D.exc (ad p.1) "place" .non p.2)))) none none none) (eSet (eO (eELst (eCons (eMk eC) (eCons (eMk eC) (eCons (eMk eC) (eCons (eMk eC) (eCons (eMk eC) (eCons (eMk eC) (eCons (eMk eC) eNil))))))) (Nat.le_of_ble_eq_true rfl))) (Nat.le_of_ble_eq_true rfl)) ?_
  refine eSeq (ρ1 := rM (.scr ns) (some (.fz (.lst (V4.map fun p => D.exc (ad p.1) "value" .non p.2)))) (some (.fz (.lst (PP.map fun p => D.exc (ad p.1) "place" .non p.2)))) none none none) (eSet (eO (e2L (xs := (PP.take 7).map fun p => D.exc (ad p.1) "place" .non p.2) (eV rfl) (eELst (eCons (eMk eC) (eCons (eMk eC) (eCons (eMk eC) (eCons (eMk eC) (eCons (eMk eC) (eCons (eMk eC) (eCons (eMk eC) (eCons (eMk eC) (eCons (eMk eC) eNil))))))))) (Nat.le_of_ble_eq_true rfl)) (Nat.le_of_ble_eq_true rfl))) (Nat.le_of_ble_eq_true rfl)) ?_
  refine eSeq (eSIfF ((eOrF (cmpNon V4 V4_ok (Nat.le_of_ble_eq_true rfl) rfl (by decide) (by decide) rfl (by decide +kernel))).trans (cmpNon PP P16_ok (Nat.le_of_ble_eq_true rfl) rfl (by decide) (by decide) rfl (by decide +kernel))) eNop) ?_
  refine eSeq (ρ1 := rM (.scr ns) (some (.fz (.lst (V4.map fun p => D.exc (ad p.1) "value" .non p.2)))) (some (.fz (.lst (PP.map fun p => D.exc (ad p.1) "place" .non p.2)))) (some (.ls [])) none none) (eSet (eLst eNil (Nat.le_of_ble_eq_true rfl)) (Nat.le_of_ble_eq_true rfl)) ?_
  have things : fSeq (fTup (fCons (fC (.str "zqzq")) (fCons (fE (f2 powD (fC (.int 10)) (fC (.int 30)))) (fCons (fC (.int 70707)) (fCons (fC (.str "")) (fCons (fC (.str "deed")) (fNil))))))) (rM (.scr ns) (some (.fz (.lst (V4.map fun p => D.exc (ad p.1) "value" .non p.2)))) (some (.fz (.lst (PP.map fun p => D.exc (ad p.1) "place" .non p.2)))) (some (.ls [])) none none) = some (.ok [.str "zqzq", .int (10 ^ (30 : Int).toNat), .int 70707, .str "", .str "deed"] _) :=
    eSeqD (eTup (eCons eC (eCons (eE (e2 eC eC hp)) (eCons eC (eCons eC (eCons eC eNil))))) (Nat.le_of_ble_eq_true rfl)) (.inr rfl)
  refine eSeq (eFor things (eFcons rfl (row_ok _ _ _ _ _ (Nat.le_of_ble_eq_true rfl)) (eFcons rfl (row_ok _ _ _ _ _ (Nat.le_of_ble_eq_true rfl)) (eFcons rfl (row_ok _ _ _ _ _ (Nat.le_of_ble_eq_true rfl)) (eFcons rfl (row_ok _ _ _ _ _ (Nat.le_of_ble_eq_true rfl)) (eFcons rfl (row_ok _ _ _ _ _ (Nat.le_of_ble_eq_true rfl)) eFnil)))))) ?_
  have h7 := eVo (i := 7) (ρ := rM (.scr ns) (some (.fz (.lst (V4.map fun p => D.exc (ad p.1) "value" .non p.2)))) (some (.fz (.lst (PP.map fun p => D.exc (ad p.1) "place" .non p.2)))) (some (.ls [.fz rowD, .fz rowD, .fz rowD, .fz rowD, .fz rowD])) none none) rfl (fun d h => by cases h)
  have hmul := eE (e2 (eELst (ρ := rM (.scr ns) (some (.fz (.lst (V4.map fun p => D.exc (ad p.1) "value" .non p.2)))) (some (.fz (.lst (PP.map fun p => D.exc (ad p.1) "place" .non p.2)))) (some (.fz (.lst [rowD, rowD, rowD, rowD, rowD]))) none none) (eCons (eQ (d := rowD) (q := qAt (qV 7) (qC (.int 0))) rfl) eNil) (Nat.le_of_ble_eq_true rfl)) eC (mulrow rowD))
  rw [erase_ls] at hmul
  have heq : eqD (.lst [rowD, rowD, rowD, rowD, rowD]) (.lst [rowD, rowD, rowD, rowD, rowD]) = some (.fz (.bl true)) := by
    have hpl : plain (.lst [rowD, rowD, rowD, rowD, rowD]) = true := by decide +kernel
    unfold eqD
    rw [if_pos ⟨hpl, hpl⟩, SeqAt.eqv_refl _ (SeqAt.canLay_of_shaped (plain_sp hpl).2)]
  exact eRet (eO (eE (e2 h7 hmul heq)))
end Wk

end
section
set_option Elab.async false
set_option linter.all false
set_option maxRecDepth 100000
set_option maxHeartbeats 4000000
namespace LD
open PySem PySem.Spec PyProof.Rows L2

/-! ### the law's def is run -/
section
variable {P : Program} {w : World} {K : PySem.W.Frag} {mg mb : Str → Option Value} {k : Nat} {fa a : Addr} {fd : FuncData} {x : Str} {sp : Sp} {s1 : Shared} {us : List Value} {ns : List Int}
theorem run_law (KX : K.In s1.heap) (hns : s1.heap.Ns mainGlobals mg) (hb : s1.heap.Ns builtinsNs mb) (hbb : ∀ x : Str, x ≠ "__name__" → mb x = bootBuiltins x) (hlim : s1.heap.NoLimit) (hg : s1.gens = #[]) (ha : s1.heap.get? a = some { cls := .type "list", data := .seq us.toArray })
    (hi : IntsAre us ns) (hl : ns.length ≤ sizeLine) (hr : Room k callerA) (F : ∀ base, K.In base → base.Ns mainGlobals mg → FnG P w K mg base k fa fd [x] sp) (hbind : ∀ s u, BindsTo s fd ⟨[u], []⟩ [(x, u)])
    (hsp : ∀ H, Only H → SqL K H a (ns.map V.int) → sp [.ref a] H (fun v _ => v = .bl true) fun _ _ _ => False) (hCX : ∀ H e s', L2.CX P w [] H s1 (fun _ _ _ => False) e s' → False) :
    codeAny (model P w) callerA (.call (.ref fa) ⟨[.ref a], []⟩) (fun r s' => r = .ok (.ret (.bool true)) ∧ OldK s1.heap s'.heap ∧ s'.os = s1.os ∧ AllBare s'.gens) s1 := by
  have relv := vals_ints hi
  have llen := hi.length
  suffices core : ∀ H : Hp, Only H → SqL K H a (ns.map V.int) → HOk P w H s1.heap → (∀ b u, H b = some u → b = a ∧ K.lookup a = none) → codeAny (model P w) callerA (.call (.ref fa) ⟨[.ref a], []⟩) (fun r s' => r = .ok (.ret (.bool true)) ∧ OldK s1.heap s'.heap ∧ s'.os = s1.os ∧ AllBare s'.gens) s1 by
    cases hk : K.lookup a with
    | some o =>
      have e := KX a o hk
      rw [ha] at e
      cases e
      exact core (fun _ => none) (fun _ => .inl rfl) (.inr ⟨_, us.toArray, _, hk, rfl, rfl, rfl, by rw [List.size_toArray, llen]; exact hl, by simpa using relv⟩) (fun _ _ z => nomatch z) fun _ _ z => nomatch z
    | none =>
      let T : Hp := fun b => if b = a then some (.frz { cls := .type "list", data := .seq us.toArray } (.lst (ns.map V.int))) else none
      have Ta : T a = some (.frz { cls := .type "list", data := .seq us.toArray } (.lst (ns.map V.int))) := if_pos rfl
      have Tn : ∀ {b}, b ≠ a → T b = none := fun hb => if_neg hb
      refine core T (fun b => ?_) (.inl (.inr ⟨_, Ta⟩)) (fun b u z => ?_) fun b u z => ⟨?_, hk⟩
      · by_cases hb : b = a
        · exact .inr ⟨_, _, by rw [hb]; exact Ta⟩
        · exact .inl (Tn hb)
      · by_cases hb : b = a
        · subst hb
          rw [Ta] at z
          cases z
          exact ⟨ha, by rw [List.length_map]; exact hl, us, _, relv, ha⟩
        · rw [Tn hb] at z; cases z
      · by_cases hb : b = a
        · exact hb
        · rw [Tn hb] at z; cases z
  intro H only seq hok one
  have free : ∀ {b o}, s1.heap.get? b = some o → (∀ c, o ≠ { cls := .type "list", data := .seq us.toArray } → H b = c → c = none) := fun {b o} e c ne hc => by
    cases c with
    | none => rfl
    | some u =>
      obtain ⟨rfl, _⟩ := one b u hc
      rw [ha] at e
      exact absurd (Option.some.inj e).symm ne
  have nsOf : ∀ {b : Addr} {m : Str → Option Value}, s1.heap.Ns b m → (hidT s1.heap H).Ns b m := fun {b m} ⟨o, es, ep, e, d, r⟩ => by
    refine ⟨o, es, ep, hidT_get e (free e _ (fun z => ?_) rfl), d, r⟩
    rw [z] at d
    cases d
  have inB : K.In (hidT s1.heap H) := fun b o e => hidT_get (KX b o e) (by
    cases q : H b with
    | none => rfl
    | some u =>
      obtain ⟨rfl, z⟩ := one b u q
      rw [z] at e; cases e)
  have hM : Mod K mg (hidT s1.heap H) := by
    obtain ⟨mc, q1, q2⟩ := hlim
    exact ⟨inB, nsOf hns, ⟨mb, nsOf hb, hbb⟩, mc, nsOf q1, q2⟩
  have env : Env0 P w K mg (hidT s1.heap H) callerA [] s1 H := ⟨rfl, hM, fun b o e => of_hidT e, Nat.le_of_eq (hidT_size _ _), trivial, fun b z => absurd (show b ∈ ([] : List Addr) from z) (by simp), hok, .of_eq hg⟩
  refine codeAny_mono ((F _ inB (nsOf hns)).run callerA [] s1 H ⟨[.ref a], []⟩ [.ref a] [.ref a] _ _ ⟨hr, rfl⟩ env (hbind s1 (.ref a)) (.cons rfl .nil) (hsp H only seq)) fun r s' h => ?_
  match r, h with
  | .error e, h => exact (hCX H e s' h).elim
  | .ok .next, h => exact h.elim
  | .ok .brk, h => exact h.elim
  | .ok .cont, h => exact h.elim
  | .ok (.ret u), ⟨v, H', os, bare, un, hok', rv, ev⟩ =>
    have ev : v = .bl true := ev
    subst ev
    obtain rfl : u = Value.bool true := rv
    refine ⟨rfl, OldK.of_keep fun b o e => ?_, os, bare⟩
    rcases only b with z | ⟨ob, xs, z⟩
    · exact un.keep b o e z (fun q => absurd (show b ∈ ([] : List Addr) from q) (by simp)) (by simp)
    · obtain ⟨e1, _⟩ := hok b _ z
      obtain ⟨e2, _⟩ := hok' b _ (un.frzs b ob _ z)
      rw [e] at e1
      cases e1
      exact e2
end
theorem walk_ofG {l : PySem.W.OpenLaw} {n k : Nat} {q : Program} {loose : List Str} {XP : (Str → Option Value) → Heap → Prop} {YP : World → Heap → Prop} {d : DefRec} {x : Str} (hn : l.most = some n) (hn2 : n ≤ sizeLine) (hdf : d.params.defaults = []) (hr : Room k callerA)
    (F : ∀ (w : World) (mg : Str → Option Value) (fa : Addr) (h : Heap), YP w h → h.Ns mainGlobals mg → mg d.name = some (.ref fa) → ∃ (K : PySem.W.Frag) (fd : FuncData) (sp : Sp), K.In h ∧ (∀ (s : Shared) (u : Value), BindsTo s fd ⟨[u], []⟩ [(x, u)]) ∧
      (∀ (H : Hp) (a : Addr) (ns : List Int), ns.length ≤ n → Only H → SqL K H a (ns.map V.int) → sp [.ref a] H (fun v _ => v = .bl true) fun _ _ _ => False) ∧ ∀ base : Heap, K.In base → base.Ns mainGlobals mg → FnG l.prog w K mg base k fa fd [x] sp)
    (hCX : ∀ w (H : Hp) (s : Shared) (e : Value) (s' : Shared), L2.CX l.prog w [] H s (fun _ _ _ => False) e s' → False) : PySem.W.WalkO q loose XP YP l.row.toRowW d [] (fun f vs => PySem.call f vs) := by
  refine Att.attach_call hn hdf fun w s0 s1 mg mb fa o pm cd doc a us ns G Y ho hd hcd hmg hobj hints hlen hg => ?_
  obtain ⟨K, fd, sp, KX, hb, hsp, hF⟩ := F w mg fa _ Y G.T.g hmg
  exact run_law KX G.T.g G.T.b G.T.builtins G.T.nolimit hg hobj hints (Nat.le_trans hlen hn2) hr hF hb (fun H hO hS => hsp H a ns hlen hO hS) fun H e s' => hCX w H s1 e s'
/-! ### the head's hook, facts of one's own besides -/
section
variable {n : Nat} {fa : List He.Fa} {fn : List He.DefD} {more : List (PySem.W.Frag → Bool)} {K : PySem.W.Frag}
def obsM (fa : List He.Fa) (fn : List He.DefD) (more : List (PySem.W.Frag → Bool)) (K : PySem.W.Frag) : He.AlD := ((He.obsD fa fn K).1 && more.all fun p => p K, (He.obsD fa fn K).2)
def obsMG (n : Nat) (fa : List He.Fa) (fn : List He.DefD) (more : List (PySem.W.Frag → Bool)) (g : Addr → Option Obj) : He.AlD := obsM fa fn more (He.frG g (cStatics :: He.asD g n))
def hookM (n : Nat) (fa : List He.Fa) (fn : List He.DefD) (more : List (PySem.W.Frag → Bool)) : PySem.W.Hook where
  α := He.AlD
  obs := fun s => obsMG n fa fn more s.heap.get?
  val := fun _ => He.valD fn
  says := fun _ h => ∃ K : PySem.W.Frag, K.In h ∧ obsM fa fn more K = He.valD fn
  of := fun _ _ e => ⟨_, He.frG_in, e⟩
  keeps := fun _ _ _ ⟨K, hK, c⟩ k => ⟨K, PySem.W.Frag.In.keeps hK k, c⟩
theorem obsMG_eq {g : Addr → Option Obj} {s : Shared} (h : ∀ a, g a = s.heap.get? a) : obsMG n fa fn more g = (hookM n fa fn more).obs s := by
  have e : g = s.heap.get? := funext h
  rw [e]; rfl
theorem saysM (c : obsM fa fn more K = He.valD fn) : He.SaysD fa fn K ∧ ∀ p ∈ more, p K = true := by
  have c1 : ((He.obsD fa fn K).1 && more.all fun p => p K) = true := congrArg (fun z : He.AlD => z.1) c
  have c2 : (He.obsD fa fn K).2 = fn.map He.DefD.val := congrArg (fun z : He.AlD => z.2) c
  obtain ⟨h1, h2⟩ := Bool.and_eq_true_iff.mp c1
  exact ⟨Prod.ext h1 c2, List.all_eq_true.mp h2⟩
end
end LD

end
section
set_option Elab.async false
set_option linter.all false
set_option maxRecDepth 100000
set_option maxHeartbeats 0
namespace Wk
open PySem PySem.Spec PyProof.Rows L2 LD PySem.HandSPX
def dD__law_mixed : He.DefD := ⟨("_law_mixed", none), "_law_mixed", "_law_mixed", defArgs s__law_mixed, defBody s__law_mixed, defScope s__law_mixed, [], []⟩
def dD__law_draw : He.DefD := ⟨("_law_draw", none), "_law_draw", "_law_draw", defArgs s__law_draw, defBody s__law_draw, defScope s__law_draw, [], []⟩
def dD__law_digit : He.DefD := ⟨("_law_digit", none), "_law_digit", "_law_digit", defArgs s__law_digit, defBody s__law_digit, defScope s__law_digit, [], []⟩
def dD__law_kinds : He.DefD := ⟨("_law_kinds", none), "_law_kinds", "_law_kinds", defArgs s__law_kinds, defBody s__law_kinds, defScope s__law_kinds, [], []⟩
def dD__law_valued : He.DefD := ⟨("_law_valued", none), "_law_valued", "_law_valued", defArgs s__law_valued, defBody s__law_valued, defScope s__law_valued, [], []⟩
def dD__law_placed : He.DefD := ⟨("_law_placed", none), "_law_placed", "_law_placed", defArgs s__law_placed, defBody s__law_placed, defScope s__law_placed, [], []⟩
def dD__law_right : He.DefD := ⟨("_law_right", none), "_law_right", "_law_right", defArgs s__law_right, defBody s__law_right, defScope s__law_right, [], []⟩
def dD_law : He.DefD := ⟨("law", none), "law", "law", defArgs s_law, defBody s_law, defScope s_law, [], []⟩
def dI_BadNumber : He.DefD := ⟨("BadNumber", some "__init__"), "__init__", "BadNumber.__init__", defArgs i_BadNumber, defBody i_BadNumber, defScope i_BadNumber, [.non], []⟩
def dI_BadName : He.DefD := ⟨("BadName", some "__init__"), "__init__", "BadName.__init__", defArgs i_BadName, defBody i_BadName, defScope i_BadName, [.non], []⟩
def dI_BadFraction : He.DefD := ⟨("BadFraction", some "__init__"), "__init__", "BadFraction.__init__", defArgs i_BadFraction, defBody i_BadFraction, defScope i_BadFraction, [.non], []⟩
def dI_BadExpression : He.DefD := ⟨("BadExpression", some "__init__"), "__init__", "BadExpression.__init__", defArgs i_BadExpression, defBody i_BadExpression, defScope i_BadExpression, [.non], []⟩
def dI_BadProgram : He.DefD := ⟨("BadProgram", some "__init__"), "__init__", "BadProgram.__init__", defArgs i_BadProgram, defBody i_BadProgram, defScope i_BadProgram, [.non], []⟩
def dI_BadTape : He.DefD := ⟨("BadTape", some "__init__"), "__init__", "BadTape.__init__", defArgs i_BadTape, defBody i_BadTape, defScope i_BadTape, [.non], []⟩
def dI_BadPoint : He.DefD := ⟨("BadPoint", some "__init__"), "__init__", "BadPoint.__init__", defArgs i_BadPoint, defBody i_BadPoint, defScope i_BadPoint, [.non], []⟩
def dI_BadText : He.DefD := ⟨("BadText", some "__init__"), "__init__", "BadText.__init__", defArgs i_BadText, defBody i_BadText, defScope i_BadText, [.non], []⟩
def dI_BadPaper : He.DefD := ⟨("BadPaper", some "__init__"), "__init__", "BadPaper.__init__", defArgs i_BadPaper, defBody i_BadPaper, defScope i_BadPaper, [.non], []⟩
def dI_BadLinear : He.DefD := ⟨("BadLinear", some "__init__"), "__init__", "BadLinear.__init__", defArgs i_BadLinear, defBody i_BadLinear, defScope i_BadLinear, [.non], []⟩
def dI_BadRule : He.DefD := ⟨("BadRule", some "__init__"), "__init__", "BadRule.__init__", defArgs i_BadRule, defBody i_BadRule, defScope i_BadRule, [.non], []⟩
def dI_BadChain : He.DefD := ⟨("BadChain", some "__init__"), "__init__", "BadChain.__init__", defArgs i_BadChain, defBody i_BadChain, defScope i_BadChain, [.non], []⟩
def dI_BadSchedule : He.DefD := ⟨("BadSchedule", some "__init__"), "__init__", "BadSchedule.__init__", defArgs i_BadSchedule, defBody i_BadSchedule, defScope i_BadSchedule, [.non], []⟩
def dI_BadCode : He.DefD := ⟨("BadCode", some "__init__"), "__init__", "BadCode.__init__", defArgs i_BadCode, defBody i_BadCode, defScope i_BadCode, [.non], []⟩
def dI_BadPattern : He.DefD := ⟨("BadPattern", some "__init__"), "__init__", "BadPattern.__init__", defArgs i_BadPattern, defBody i_BadPattern, defScope i_BadPattern, [.non], []⟩
def dI_BadGroups : He.DefD := ⟨("BadGroups", some "__init__"), "__init__", "BadGroups.__init__", defArgs i_BadGroups, defBody i_BadGroups, defScope i_BadGroups, [.non], []⟩
def dI_BadStart : He.DefD := ⟨("BadStart", some "__init__"), "__init__", "BadStart.__init__", defArgs i_BadStart, defBody i_BadStart, defScope i_BadStart, [.non], []⟩
def dI_BadMap : He.DefD := ⟨("BadMap", some "__init__"), "__init__", "BadMap.__init__", defArgs i_BadMap, defBody i_BadMap, defScope i_BadMap, [.non], []⟩
def dI_BadDeed : He.DefD := ⟨("BadDeed", some "__init__"), "__init__", "BadDeed.__init__", defArgs i_BadDeed, defBody i_BadDeed, defScope i_BadDeed, [.non], []⟩
def dI_TooMany : He.DefD := ⟨("TooMany", some "__init__"), "__init__", "TooMany.__init__", defArgs i_TooMany, defBody i_TooMany, defScope i_TooMany, [], []⟩
def dI_NoSuch : He.DefD := ⟨("NoSuch", some "__init__"), "__init__", "NoSuch.__init__", defArgs i_NoSuch, defBody i_NoSuch, defScope i_NoSuch, [.non], []⟩
def fnL : List He.DefD := [dD__law_mixed, dD__law_draw, dD__law_digit, dD__law_kinds, dD__law_valued, dD__law_placed, dD__law_right, dD_law, dI_BadNumber, dI_BadName, dI_BadFraction, dI_BadExpression, dI_BadProgram, dI_BadTape, dI_BadPoint, dI_BadText, dI_BadPaper, dI_BadLinear, dI_BadRule, dI_BadChain, dI_BadSchedule, dI_BadCode, dI_BadPattern, dI_BadGroups, dI_BadStart, dI_BadMap, dI_BadDeed, dI_TooMany, dI_NoSuch]
def faL : List He.Fa := [.glo "_law_mixed", .glo "_law_draw", .glo "_law_digit", .glo "_law_kinds", .glo "_law_valued", .glo "_law_placed", .glo "_law_right", .glo "law", .glo "SlopeError", .glo "BadNumber", .glo "BadName", .glo "BadFraction", .glo "BadExpression", .glo "BadProgram", .glo "BadTape", .glo "BadPoint", .glo "BadText", .glo "BadPaper", .glo "BadLinear", .glo "BadRule", .glo "BadChain", .glo "BadSchedule", .glo "BadCode", .glo "BadPattern", .glo "BadGroups", .glo "BadStart", .glo "BadMap", .glo "BadDeed", .glo "TooMany", .glo "NoSuch", .free "LookupError", .free "OverflowError", .free "ValueError", .free "enumerate", .free "isinstance", .free "range", .free "str", .free "sum"]
def aiK (K : PySem.W.Frag) (c : Str) : Addr := He.ma K (He.ga K c) "__init__"
def pCls (c : Str) (bm : List Value) (nid : String) (f : Str) : PySem.W.Frag → Bool := fun K => xcB K (He.ga K c) bm nid f && decide (PySem.W.findIn K (.ref (He.ga K c)) "__init__" = some (some (.ref (aiK K c)))) && decide (PySem.W.typeIn K (.ref (aiK K c)) = some (.type "function"))
def pRd (c : Str) : PySem.W.Frag → Bool := fun K => PySem.W.readsIn K (He.ga K c) (.type "type") && decide (PySem.W.specialIn K (.ref (He.ga K c)) "__getattribute__" = some (some (.builtin "type.__getattribute__")))
def isB (r : Option PySem.W.CFound) (n : String) : Bool := match r with | some (.val (.builtin m)) => decide (m = n) | _ => false
theorem isB_ok {r : Option PySem.W.CFound} {n : String} (h : isB r n = true) : r = some (.val (.builtin n)) := by
  unfold isB at h
  split at h
  · rw [of_decide_eq_true h]
  · cases h
def pFc (v : PySem.W.Frag → Value) (n : String) : PySem.W.Frag → Bool := fun K => isB (PySem.W.findCls K (v K) (.type "type") "__init__") n
def pK (cv : PySem.W.Frag → Value) (k : Str) : PySem.W.Frag → Bool := fun K => XN.all fun n => decide (PySem.W.kitOne K (.ref (He.ga K n)) (cv K) = some (kd k n))
def injB (K : PySem.W.Frag) : Bool := decide ((XN.map (He.ga K)).Nodup)
def more1 : List (PySem.W.Frag → Bool) := [pCls "BadNumber" [.type "ValueError", .type "Exception", .type "BaseException", .type "object"] "ValueError.__new__" "value", pCls "BadName" [.type "ValueError", .type "Exception", .type "BaseException", .type "object"] "ValueError.__new__" "value", pCls "BadFraction" [.type "ValueError", .type "Exception", .type "BaseException", .type "object"] "ValueError.__new__" "value", pCls "BadExpression" [.type "ValueError", .type "Exception", .type "BaseException", .type "object"] "ValueError.__new__" "place", pCls "BadProgram" [.type "ValueError", .type "Exception", .type "BaseException", .type "object"] "ValueError.__new__" "place", pCls "BadTape" [.type "ValueError", .type "Exception", .type "BaseException", .type "object"] "ValueError.__new__" "place", pCls "BadPoint" [.type "ValueError", .type "Exception", .type "BaseException", .type "object"] "ValueError.__new__" "place", pCls "BadText" [.type "ValueError", .type "Exception", .type "BaseException", .type "object"] "ValueError.__new__" "place", pCls "BadPaper" [.type "ValueError", .type "Exception", .type "BaseException", .type "object"] "ValueError.__new__" "place", pCls "BadLinear" [.type "ValueError", .type "Exception", .type "BaseException", .type "object"] "ValueError.__new__" "place", pCls "BadRule" [.type "ValueError", .type "Exception", .type "BaseException", .type "object"] "ValueError.__new__" "place", pCls "BadChain" [.type "ValueError", .type "Exception", .type "BaseException", .type "object"] "ValueError.__new__" "place", pCls "BadSchedule" [.type "ValueError", .type "Exception", .type "BaseException", .type "object"] "ValueError.__new__" "place", pCls "BadCode" [.type "ValueError", .type "Exception", .type "BaseException", .type "object"] "ValueError.__new__" "place", pCls "BadPattern" [.type "ValueError", .type "Exception", .type "BaseException", .type "object"] "ValueError.__new__" "place", pCls "BadGroups" [.type "ValueError", .type "Exception", .type "BaseException", .type "object"] "ValueError.__new__" "place", pCls "BadStart" [.type "ValueError", .type "Exception", .type "BaseException", .type "object"] "ValueError.__new__" "place", pCls "BadMap" [.type "ValueError", .type "Exception", .type "BaseException", .type "object"] "ValueError.__new__" "place", pCls "BadDeed" [.type "ValueError", .type "Exception", .type "BaseException", .type "object"] "ValueError.__new__" "place", pCls "TooMany" [.type "OverflowError", .type "ArithmeticError", .type "Exception", .type "BaseException", .type "object"] "OverflowError.__new__" "most", pCls "NoSuch" [.type "LookupError", .type "Exception", .type "BaseException", .type "object"] "LookupError.__new__" "value"]
def more2 : List (PySem.W.Frag → Bool) := [pRd "SlopeError", pFc (fun K => .ref (He.ga K "SlopeError")) "ValueError.__init__", pFc (fun _ => .type "OverflowError") "OverflowError.__init__", pFc (fun _ => .type "LookupError") "LookupError.__init__"]
def more3 : List (PySem.W.Frag → Bool) := [pK (fun K => .ref (He.ga K "BadChain")) "BadChain", pK (fun K => .ref (He.ga K "BadCode")) "BadCode", pK (fun K => .ref (He.ga K "BadDeed")) "BadDeed", pK (fun K => .ref (He.ga K "BadExpression")) "BadExpression", pK (fun K => .ref (He.ga K "BadFraction")) "BadFraction", pK (fun K => .ref (He.ga K "BadGroups")) "BadGroups", pK (fun K => .ref (He.ga K "BadLinear")) "BadLinear", pK (fun K => .ref (He.ga K "BadMap")) "BadMap", pK (fun K => .ref (He.ga K "BadName")) "BadName", pK (fun K => .ref (He.ga K "BadNumber")) "BadNumber", pK (fun K => .ref (He.ga K "BadPaper")) "BadPaper", pK (fun K => .ref (He.ga K "BadPattern")) "BadPattern", pK (fun K => .ref (He.ga K "BadPoint")) "BadPoint", pK (fun K => .ref (He.ga K "BadProgram")) "BadProgram", pK (fun K => .ref (He.ga K "BadRule")) "BadRule", pK (fun K => .ref (He.ga K "BadSchedule")) "BadSchedule", pK (fun K => .ref (He.ga K "BadStart")) "BadStart", pK (fun K => .ref (He.ga K "BadTape")) "BadTape", pK (fun K => .ref (He.ga K "BadText")) "BadText", pK (fun _ => .type "LookupError") "LookupError", pK (fun K => .ref (He.ga K "NoSuch")) "NoSuch", pK (fun _ => .type "OverflowError") "OverflowError", pK (fun K => .ref (He.ga K "SlopeError")) "SlopeError", pK (fun K => .ref (He.ga K "TooMany")) "TooMany", pK (fun _ => .type "ValueError") "ValueError", injB]
def moreL : List (PySem.W.Frag → Bool) := more1 ++ (more2 ++ more3)
def fdAt (K : PySem.W.Frag) (f : Addr) : FuncData := match K.lookup f with
  | some ⟨_, _, .func fd, _⟩ => fd
  | _ => PySem.W.fnOf "" "" (defArgs (.Pass ⟨0, 0, 0, 0⟩)) [] (defScope (.Pass ⟨0, 0, 0, 0⟩)) .none .none .none .none none .none .none
theorem fd_at {K : PySem.W.Frag} {x qual : Str} {params : Arguments} {body : List Stmt} {scope : Scope} {dvs : List V} {kws : List (Str × V)} {f : Addr} (h : ∃ fd, FunD K x qual params body scope dvs kws f fd) : FunD K x qual params body scope dvs kws f (fdAt K f) := by
  obtain ⟨fd, F⟩ := h
  have e : fdAt K f = fd := by
    obtain ⟨oc, od, dV, kV, doc, pm, an, cdv, ct, osl, e0, lk, _⟩ := F.ex
    unfold fdAt
    rw [lk]
  rw [e]
  exact F
theorem nodup_inj {α β : Type} {f : α → β} : ∀ {l : List α}, (l.map f).Nodup → ∀ {a b : α}, a ∈ l → b ∈ l → f a = f b → a = b
  | [], _, _, _, ha, _, _ => nomatch ha
  | x :: l, nd, a, b, ha, hb, e => by
    rw [List.map_cons, List.nodup_cons] at nd
    rcases List.mem_cons.mp ha with q | ha
    · rcases List.mem_cons.mp hb with r | hb
      · rw [q, r]
      · have z := List.mem_map_of_mem (f := f) hb
        rw [← e, q] at z
        exact absurd z nd.1
    · rcases List.mem_cons.mp hb with r | hb
      · have z := List.mem_map_of_mem (f := f) ha
        rw [e, r] at z
        exact absurd z nd.1
      · exact nodup_inj nd.2 ha hb e
theorem txt {w : World} {K : PySem.W.Frag} {h : Heap} {mg : Str → Option Value} (X : K.In h) (G : h.Ns mainGlobals mg) (c : obsM faL fnL moreL K = He.valD fnL) :
    Txt w K mg (He.ga K) (He.ga K) (aiK K) (fun x => fdAt K (He.ga K x)) (fun x => fdAt K (aiK K x)) := by
  obtain ⟨c1, c2⟩ := saysM c
  have m1 : ∀ (i : Nat) (p : PySem.W.Frag → Bool), more1[i]? = some p → p K = true := fun i p e => c2 p (List.mem_append_left _ (List.mem_of_getElem? e))
  have m2 : ∀ (i : Nat) (p : PySem.W.Frag → Bool), more2[i]? = some p → p K = true := fun i p e => c2 p (List.mem_append_right _ (List.mem_append_left _ (List.mem_of_getElem? e)))
  have m3 : ∀ (i : Nat) (p : PySem.W.Frag → Bool), more3[i]? = some p → p K = true := fun i p e => c2 p (List.mem_append_right _ (List.mem_append_right _ (List.mem_of_getElem? e)))
  have cls : ∀ {c : Str} {bm : List Value} {nid : String} {f : Str}, pCls c bm nid f K = true → XC K (He.ga K c) bm nid f ∧ PySem.W.findIn K (.ref (He.ga K c)) "__init__" = some (some (.ref (aiK K c))) ∧ PySem.W.typeIn K (.ref (aiK K c)) = some (.type "function") := fun h => by
    unfold pCls at h
    simp only [Bool.and_eq_true, decide_eq_true_eq] at h
    exact ⟨xc_ok h.1.1, h.1.2, h.2⟩
  obtain ⟨x_BadNumber, ii_BadNumber, it_BadNumber⟩ := cls (m1 0 _ rfl)
  obtain ⟨x_BadName, ii_BadName, it_BadName⟩ := cls (m1 1 _ rfl)
  obtain ⟨x_BadFraction, ii_BadFraction, it_BadFraction⟩ := cls (m1 2 _ rfl)
  obtain ⟨x_BadExpression, ii_BadExpression, it_BadExpression⟩ := cls (m1 3 _ rfl)
  obtain ⟨x_BadProgram, ii_BadProgram, it_BadProgram⟩ := cls (m1 4 _ rfl)
  obtain ⟨x_BadTape, ii_BadTape, it_BadTape⟩ := cls (m1 5 _ rfl)
  obtain ⟨x_BadPoint, ii_BadPoint, it_BadPoint⟩ := cls (m1 6 _ rfl)
  obtain ⟨x_BadText, ii_BadText, it_BadText⟩ := cls (m1 7 _ rfl)
  obtain ⟨x_BadPaper, ii_BadPaper, it_BadPaper⟩ := cls (m1 8 _ rfl)
  obtain ⟨x_BadLinear, ii_BadLinear, it_BadLinear⟩ := cls (m1 9 _ rfl)
  obtain ⟨x_BadRule, ii_BadRule, it_BadRule⟩ := cls (m1 10 _ rfl)
  obtain ⟨x_BadChain, ii_BadChain, it_BadChain⟩ := cls (m1 11 _ rfl)
  obtain ⟨x_BadSchedule, ii_BadSchedule, it_BadSchedule⟩ := cls (m1 12 _ rfl)
  obtain ⟨x_BadCode, ii_BadCode, it_BadCode⟩ := cls (m1 13 _ rfl)
  obtain ⟨x_BadPattern, ii_BadPattern, it_BadPattern⟩ := cls (m1 14 _ rfl)
  obtain ⟨x_BadGroups, ii_BadGroups, it_BadGroups⟩ := cls (m1 15 _ rfl)
  obtain ⟨x_BadStart, ii_BadStart, it_BadStart⟩ := cls (m1 16 _ rfl)
  obtain ⟨x_BadMap, ii_BadMap, it_BadMap⟩ := cls (m1 17 _ rfl)
  obtain ⟨x_BadDeed, ii_BadDeed, it_BadDeed⟩ := cls (m1 18 _ rfl)
  obtain ⟨x_TooMany, ii_TooMany, it_TooMany⟩ := cls (m1 19 _ rfl)
  obtain ⟨x_NoSuch, ii_NoSuch, it_NoSuch⟩ := cls (m1 20 _ rfl)
  have xnK : ∀ n ∈ XN, ∃ bmB newId g, XC K (He.ga K n) bmB newId g := by
    intro n hn
    simp only [List.mem_cons, List.not_mem_nil, or_false] at hn
    rcases hn with rfl | rfl | rfl | rfl | rfl | rfl | rfl | rfl | rfl | rfl | rfl | rfl | rfl | rfl | rfl | rfl | rfl | rfl | rfl | rfl | rfl
    · exact ⟨_, _, _, x_BadNumber⟩
    · exact ⟨_, _, _, x_BadName⟩
    · exact ⟨_, _, _, x_BadFraction⟩
    · exact ⟨_, _, _, x_BadExpression⟩
    · exact ⟨_, _, _, x_BadProgram⟩
    · exact ⟨_, _, _, x_BadTape⟩
    · exact ⟨_, _, _, x_BadPoint⟩
    · exact ⟨_, _, _, x_BadText⟩
    · exact ⟨_, _, _, x_BadPaper⟩
    · exact ⟨_, _, _, x_BadLinear⟩
    · exact ⟨_, _, _, x_BadRule⟩
    · exact ⟨_, _, _, x_BadChain⟩
    · exact ⟨_, _, _, x_BadSchedule⟩
    · exact ⟨_, _, _, x_BadCode⟩
    · exact ⟨_, _, _, x_BadPattern⟩
    · exact ⟨_, _, _, x_BadGroups⟩
    · exact ⟨_, _, _, x_BadStart⟩
    · exact ⟨_, _, _, x_BadMap⟩
    · exact ⟨_, _, _, x_BadDeed⟩
    · exact ⟨_, _, _, x_TooMany⟩
    · exact ⟨_, _, _, x_NoSuch⟩
  have kt : ∀ {cv : PySem.W.Frag → Value} {k : Str}, pK cv k K = true → ∀ n ∈ XN, (∃ bmB newId g, XC K (He.ga K n) bmB newId g) ∧ PySem.W.kitOne K (.ref (He.ga K n)) (cv K) = some (kd k n) := fun h n hn => ⟨xnK n hn, of_decide_eq_true (List.all_eq_true.mp h n hn)⟩
  have inj : ∀ a ∈ XN, ∀ b ∈ XN, He.ga K a = He.ga K b → a = b := by
    have nd : (XN.map (He.ga K)).Nodup := of_decide_eq_true (m3 25 injB rfl)
    exact fun a ha b hb e => nodup_inj nd ha hb e
  exact {
    b_LookupError := He.free_ok X G (c1.fact 30 (f := .free "LookupError") rfl)
    b_OverflowError := He.free_ok X G (c1.fact 31 (f := .free "OverflowError") rfl)
    b_ValueError := He.free_ok X G (c1.fact 32 (f := .free "ValueError") rfl)
    b_enumerate := He.free_ok X G (c1.fact 33 (f := .free "enumerate") rfl)
    b_isinstance := He.free_ok X G (c1.fact 34 (f := .free "isinstance") rfl)
    b_range := He.free_ok X G (c1.fact 35 (f := .free "range") rfl)
    b_str := He.free_ok X G (c1.fact 36 (f := .free "str") rfl)
    b_sum := He.free_ok X G (c1.fact 37 (f := .free "sum") rfl)
    g__law_mixed := He.glo_ok X G (c1.fact 0 (f := .glo "_law_mixed") rfl)
    g__law_draw := He.glo_ok X G (c1.fact 1 (f := .glo "_law_draw") rfl)
    g__law_digit := He.glo_ok X G (c1.fact 2 (f := .glo "_law_digit") rfl)
    g__law_kinds := He.glo_ok X G (c1.fact 3 (f := .glo "_law_kinds") rfl)
    g__law_valued := He.glo_ok X G (c1.fact 4 (f := .glo "_law_valued") rfl)
    g__law_placed := He.glo_ok X G (c1.fact 5 (f := .glo "_law_placed") rfl)
    g__law_right := He.glo_ok X G (c1.fact 6 (f := .glo "_law_right") rfl)
    g_law := He.glo_ok X G (c1.fact 7 (f := .glo "law") rfl)
    g_SlopeError := He.glo_ok X G (c1.fact 8 (f := .glo "SlopeError") rfl)
    g_BadNumber := He.glo_ok X G (c1.fact 9 (f := .glo "BadNumber") rfl)
    g_BadName := He.glo_ok X G (c1.fact 10 (f := .glo "BadName") rfl)
    g_BadFraction := He.glo_ok X G (c1.fact 11 (f := .glo "BadFraction") rfl)
    g_BadExpression := He.glo_ok X G (c1.fact 12 (f := .glo "BadExpression") rfl)
    g_BadProgram := He.glo_ok X G (c1.fact 13 (f := .glo "BadProgram") rfl)
    g_BadTape := He.glo_ok X G (c1.fact 14 (f := .glo "BadTape") rfl)
    g_BadPoint := He.glo_ok X G (c1.fact 15 (f := .glo "BadPoint") rfl)
    g_BadText := He.glo_ok X G (c1.fact 16 (f := .glo "BadText") rfl)
    g_BadPaper := He.glo_ok X G (c1.fact 17 (f := .glo "BadPaper") rfl)
    g_BadLinear := He.glo_ok X G (c1.fact 18 (f := .glo "BadLinear") rfl)
    g_BadRule := He.glo_ok X G (c1.fact 19 (f := .glo "BadRule") rfl)
    g_BadChain := He.glo_ok X G (c1.fact 20 (f := .glo "BadChain") rfl)
    g_BadSchedule := He.glo_ok X G (c1.fact 21 (f := .glo "BadSchedule") rfl)
    g_BadCode := He.glo_ok X G (c1.fact 22 (f := .glo "BadCode") rfl)
    g_BadPattern := He.glo_ok X G (c1.fact 23 (f := .glo "BadPattern") rfl)
    g_BadGroups := He.glo_ok X G (c1.fact 24 (f := .glo "BadGroups") rfl)
    g_BadStart := He.glo_ok X G (c1.fact 25 (f := .glo "BadStart") rfl)
    g_BadMap := He.glo_ok X G (c1.fact 26 (f := .glo "BadMap") rfl)
    g_BadDeed := He.glo_ok X G (c1.fact 27 (f := .glo "BadDeed") rfl)
    g_TooMany := He.glo_ok X G (c1.fact 28 (f := .glo "TooMany") rfl)
    g_NoSuch := He.glo_ok X G (c1.fact 29 (f := .glo "NoSuch") rfl)
    F__law_mixed := fd_at (c1.def_ 0 (d := dD__law_mixed) rfl)
    F__law_draw := fd_at (c1.def_ 1 (d := dD__law_draw) rfl)
    F__law_digit := fd_at (c1.def_ 2 (d := dD__law_digit) rfl)
    F__law_kinds := fd_at (c1.def_ 3 (d := dD__law_kinds) rfl)
    F__law_valued := fd_at (c1.def_ 4 (d := dD__law_valued) rfl)
    F__law_placed := fd_at (c1.def_ 5 (d := dD__law_placed) rfl)
    F__law_right := fd_at (c1.def_ 6 (d := dD__law_right) rfl)
    F_law := fd_at (c1.def_ 7 (d := dD_law) rfl)
    x_BadNumber := x_BadNumber
    ii_BadNumber := ii_BadNumber
    it_BadNumber := it_BadNumber
    I_BadNumber := fd_at (c1.def_ 8 (d := dI_BadNumber) rfl)
    x_BadName := x_BadName
    ii_BadName := ii_BadName
    it_BadName := it_BadName
    I_BadName := fd_at (c1.def_ 9 (d := dI_BadName) rfl)
    x_BadFraction := x_BadFraction
    ii_BadFraction := ii_BadFraction
    it_BadFraction := it_BadFraction
    I_BadFraction := fd_at (c1.def_ 10 (d := dI_BadFraction) rfl)
    x_BadExpression := x_BadExpression
    ii_BadExpression := ii_BadExpression
    it_BadExpression := it_BadExpression
    I_BadExpression := fd_at (c1.def_ 11 (d := dI_BadExpression) rfl)
    x_BadProgram := x_BadProgram
    ii_BadProgram := ii_BadProgram
    it_BadProgram := it_BadProgram
    I_BadProgram := fd_at (c1.def_ 12 (d := dI_BadProgram) rfl)
    x_BadTape := x_BadTape
    ii_BadTape := ii_BadTape
    it_BadTape := it_BadTape
    I_BadTape := fd_at (c1.def_ 13 (d := dI_BadTape) rfl)
    x_BadPoint := x_BadPoint
    ii_BadPoint := ii_BadPoint
    it_BadPoint := it_BadPoint
    I_BadPoint := fd_at (c1.def_ 14 (d := dI_BadPoint) rfl)
    x_BadText := x_BadText
    ii_BadText := ii_BadText
    it_BadText := it_BadText
    I_BadText := fd_at (c1.def_ 15 (d := dI_BadText) rfl)
    x_BadPaper := x_BadPaper
    ii_BadPaper := ii_BadPaper
    it_BadPaper := it_BadPaper
    I_BadPaper := fd_at (c1.def_ 16 (d := dI_BadPaper) rfl)
    x_BadLinear := x_BadLinear
    ii_BadLinear := ii_BadLinear
    it_BadLinear := it_BadLinear
    I_BadLinear := fd_at (c1.def_ 17 (d := dI_BadLinear) rfl)
    x_BadRule := x_BadRule
    ii_BadRule := ii_BadRule
    it_BadRule := it_BadRule
    I_BadRule := fd_at (c1.def_ 18 (d := dI_BadRule) rfl)
    x_BadChain := x_BadChain
    ii_BadChain := ii_BadChain
    it_BadChain := it_BadChain
    I_BadChain := fd_at (c1.def_ 19 (d := dI_BadChain) rfl)
    x_BadSchedule := x_BadSchedule
    ii_BadSchedule := ii_BadSchedule
    it_BadSchedule := it_BadSchedule
    I_BadSchedule := fd_at (c1.def_ 20 (d := dI_BadSchedule) rfl)
    x_BadCode := x_BadCode
    ii_BadCode := ii_BadCode
    it_BadCode := it_BadCode
    I_BadCode := fd_at (c1.def_ 21 (d := dI_BadCode) rfl)
    x_BadPattern := x_BadPattern
    ii_BadPattern := ii_BadPattern
    it_BadPattern := it_BadPattern
    I_BadPattern := fd_at (c1.def_ 22 (d := dI_BadPattern) rfl)
    x_BadGroups := x_BadGroups
    ii_BadGroups := ii_BadGroups
    it_BadGroups := it_BadGroups
    I_BadGroups := fd_at (c1.def_ 23 (d := dI_BadGroups) rfl)
    x_BadStart := x_BadStart
    ii_BadStart := ii_BadStart
    it_BadStart := it_BadStart
    I_BadStart := fd_at (c1.def_ 24 (d := dI_BadStart) rfl)
    x_BadMap := x_BadMap
    ii_BadMap := ii_BadMap
    it_BadMap := it_BadMap
    I_BadMap := fd_at (c1.def_ 25 (d := dI_BadMap) rfl)
    x_BadDeed := x_BadDeed
    ii_BadDeed := ii_BadDeed
    it_BadDeed := it_BadDeed
    I_BadDeed := fd_at (c1.def_ 26 (d := dI_BadDeed) rfl)
    x_TooMany := x_TooMany
    ii_TooMany := ii_TooMany
    it_TooMany := it_TooMany
    I_TooMany := fd_at (c1.def_ 27 (d := dI_TooMany) rfl)
    x_NoSuch := x_NoSuch
    ii_NoSuch := ii_NoSuch
    it_NoSuch := it_NoSuch
    I_NoSuch := fd_at (c1.def_ 28 (d := dI_NoSuch) rfl)
    rd_SlopeError := (Bool.and_eq_true_iff.mp (m2 0 (pRd "SlopeError") rfl)).1
    sg_SlopeError := of_decide_eq_true (Bool.and_eq_true_iff.mp (m2 0 (pRd "SlopeError") rfl)).2
    fc_SlopeError := isB_ok (m2 1 _ rfl)
    fc_OverflowError := isB_ok (m2 2 _ rfl)
    fc_LookupError := isB_ok (m2 3 _ rfl)
    kt_BadChain := kt (cv := (fun K => .ref (He.ga K "BadChain"))) (k := "BadChain") (m3 0 _ rfl)
    kt_BadCode := kt (cv := (fun K => .ref (He.ga K "BadCode"))) (k := "BadCode") (m3 1 _ rfl)
    kt_BadDeed := kt (cv := (fun K => .ref (He.ga K "BadDeed"))) (k := "BadDeed") (m3 2 _ rfl)
    kt_BadExpression := kt (cv := (fun K => .ref (He.ga K "BadExpression"))) (k := "BadExpression") (m3 3 _ rfl)
    kt_BadFraction := kt (cv := (fun K => .ref (He.ga K "BadFraction"))) (k := "BadFraction") (m3 4 _ rfl)
    kt_BadGroups := kt (cv := (fun K => .ref (He.ga K "BadGroups"))) (k := "BadGroups") (m3 5 _ rfl)
    kt_BadLinear := kt (cv := (fun K => .ref (He.ga K "BadLinear"))) (k := "BadLinear") (m3 6 _ rfl)
    kt_BadMap := kt (cv := (fun K => .ref (He.ga K "BadMap"))) (k := "BadMap") (m3 7 _ rfl)
    kt_BadName := kt (cv := (fun K => .ref (He.ga K "BadName"))) (k := "BadName") (m3 8 _ rfl)
    kt_BadNumber := kt (cv := (fun K => .ref (He.ga K "BadNumber"))) (k := "BadNumber") (m3 9 _ rfl)
    kt_BadPaper := kt (cv := (fun K => .ref (He.ga K "BadPaper"))) (k := "BadPaper") (m3 10 _ rfl)
    kt_BadPattern := kt (cv := (fun K => .ref (He.ga K "BadPattern"))) (k := "BadPattern") (m3 11 _ rfl)
    kt_BadPoint := kt (cv := (fun K => .ref (He.ga K "BadPoint"))) (k := "BadPoint") (m3 12 _ rfl)
    kt_BadProgram := kt (cv := (fun K => .ref (He.ga K "BadProgram"))) (k := "BadProgram") (m3 13 _ rfl)
    kt_BadRule := kt (cv := (fun K => .ref (He.ga K "BadRule"))) (k := "BadRule") (m3 14 _ rfl)
    kt_BadSchedule := kt (cv := (fun K => .ref (He.ga K "BadSchedule"))) (k := "BadSchedule") (m3 15 _ rfl)
    kt_BadStart := kt (cv := (fun K => .ref (He.ga K "BadStart"))) (k := "BadStart") (m3 16 _ rfl)
    kt_BadTape := kt (cv := (fun K => .ref (He.ga K "BadTape"))) (k := "BadTape") (m3 17 _ rfl)
    kt_BadText := kt (cv := (fun K => .ref (He.ga K "BadText"))) (k := "BadText") (m3 18 _ rfl)
    kt_LookupError := kt (cv := (fun _ => .type "LookupError")) (k := "LookupError") (m3 19 _ rfl)
    kt_NoSuch := kt (cv := (fun K => .ref (He.ga K "NoSuch"))) (k := "NoSuch") (m3 20 _ rfl)
    kt_OverflowError := kt (cv := (fun _ => .type "OverflowError")) (k := "OverflowError") (m3 21 _ rfl)
    kt_SlopeError := kt (cv := (fun K => .ref (He.ga K "SlopeError"))) (k := "SlopeError") (m3 22 _ rfl)
    kt_TooMany := kt (cv := (fun K => .ref (He.ga K "TooMany"))) (k := "TooMany") (m3 23 _ rfl)
    kt_ValueError := kt (cv := (fun _ => .type "ValueError")) (k := "ValueError") (m3 24 _ rfl)
    inj := inj }
end Wk

end
section
set_option Elab.async false
set_option linter.all false
set_option maxRecDepth 100000
set_option maxHeartbeats 0
namespace Wk
open PySem PySem.Spec PyProof.Rows L2 LD
def loose0 : List PySem.Str := ["__name__", "SlopeError", "BadNumber", "BadName", "BadFraction", "BadExpression", "BadProgram", "BadTape", "BadPoint", "BadText", "BadPaper", "BadLinear", "BadRule", "BadChain", "BadSchedule", "BadCode", "BadPattern", "BadGroups", "BadStart", "BadMap", "BadDeed", "TooMany", "NoSuch", "_law_mixed", "_law_draw", "_law_digit", "_law_kinds", "_law_valued", "_law_placed", "_law_right"]
abbrev loose : List PySem.Str := loose0
abbrev R : PySem.W.OpenRow := PySem.W.OpenLaw.row PySem.Challenge.rw_allslopes_k99_errors_by_hand
abbrev hk : PySem.W.Hook := hookM 6 faL fnL moreL
def ob (s : PySem.W.SharedT) : He.AlD := obsMG 6 faL fnL moreL (HandSHeadRun.getT s)
theorem ob_eq (s : PySem.W.SharedT) : ob s = hk.obs s.abs := obsMG_eq (HandSHeadRun.getT_eq s)
theorem run (w : World) : HandSHeadRun.RunEq R (PySem.W.view R.prog [31]) hk ob 6000 loose w := by
  intro os
  kernel_rfl
theorem noCX {P : Program} (w : World) (H : Hp) (s : Shared) (e : Value) (s' : Shared) (h : L2.CX P w [] H s (fun _ _ _ => False) e s') : False := by
  obtain ⟨_, _, _, _, _, _, _, _, _, _, _, _, z⟩ := h
  exact z
theorem sp_law {K : PySem.W.Frag} (inj : Inj (He.ga K)) (H : Hp) (a : Addr) (ns : List Int) (hl : ns.length ≤ 63) (hS : SqL K H a (ns.map V.int)) : spP K (He.ga K) 1 (F_law (He.ga K)) [.ref a] H (fun v _ => v = .bl true) fun _ _ _ => False :=
  ⟨H, [.scr ns], .ok (.fz (.bl true)), rfl, Ex.refl H, .cons (.scr hS) .nil, law_ok inj ns hl, fun v G' H' Fv hx ho hf => by
    cases ho with
    | fz r => cases r; rfl⟩
abbrev spLaw (K : PySem.W.Frag) : Sp := spP K (He.ga K) 1 (F_law (He.ga K))
end Wk
open PySem PySem.W PySem.Calls PyProof.Rows
theorem PySem.Challenge.cw_allslopes_k99_errors_by_hand_holds : PySem.Challenge.rw_allslopes_k99_errors_by_hand.Holds := by
  w_on; o_law
  refine HandSHeadRun.head_any (r := OpenLaw.row PySem.Challenge.rw_allslopes_k99_errors_by_hand) (q := view (OpenLaw.row PySem.Challenge.rw_allslopes_k99_errors_by_hand).prog [31]) (H := Wk.hk) (ob := Wk.ob) (M := 6000) (loose := Wk.loose) (d := HandSHeadRun.topDef (OpenLaw.row PySem.Challenge.rw_allslopes_k99_errors_by_hand).prog 31) (kwd := []) Wk.ob_eq
    (by kernel_rfl) (fun s => by kernel_rfl) Wk.run (by kernel_rfl) (by kernel_rfl) (by kernel_rfl) (by rfl) (by first | assumption | decide +kernel) (by decide +kernel) ⟨rfl, rfl, rfl, rfl, rfl, by decide +kernel⟩ ?hw ?hc
  case hw => w_witness2
  case hc =>
    refine LD.walk_ofG (l := PySem.Challenge.rw_allslopes_k99_errors_by_hand) (n := 63) (k := 5) (x := "script") rfl (by decide) (by kernel_rfl) ⟨rfl, by decide, by decide⟩ ?F (fun w H s e s' => Wk.noCX w H s e s')
    intro w mg fa h Y G hmg0
    obtain ⟨K, KX, c⟩ := Y
    have hmg : mg ("law" : PySem.Str) = some (.ref fa) := by
      have e : (HandSHeadRun.topDef (OpenLaw.row PySem.Challenge.rw_allslopes_k99_errors_by_hand).prog 31).name = ("law" : PySem.Str) := by kernel_rfl
      rw [← e]
      exact hmg0
    have X := Wk.txt (w := w) KX G c
    have e := hmg.symm.trans X.g_law
    cases e
    have b := L2.FunD.bindsA (ps := ["script"]) X.F_law fun _ _ _ _ _ _ us hl => match us, hl with | [_], _ => rfl
    exact ⟨K, _, Wk.spLaw K, KX, fun s v => b s [v] rfl, fun H a ns hl _ hS => Wk.sp_law X.inj H a ns hl hS, fun base KB GB => Wk.ok_law X⟩

end
