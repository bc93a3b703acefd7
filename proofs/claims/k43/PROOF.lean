import PyProof.Rows.All
import Wide.All
import OpenK.AllK
import Wide.FinOn
import HandS.ForMost
import HandS.Flow
import HandS.TupAny
import HandS.TupMul
import HandS.Deep
import HandS.Style
import HandS.StrMore
import HandS.Replace
import HandS.IsInst
import HandS.Conv
import HandS.Walk
import HandS.Codes
import PyProof.Rows.StrPadFill
import KE.GoesEnum
import KE.DataMinMax
import HandS.SortKw
import HandS.Defaults
import HandS.WordsExc
import HandS.Head0
import HandS.Head1
import HandS.Head2
import HandS.HeadEnd
import HandS.HeadHook1
import HandS.HeadHook2
import HandS.Text
import KE.KStateDown
import Lean
import HandS.More
import HandS.Words
import PySem.Challenge.RW_roadsmeet_k43_frames_cut_anywhere
set_option Elab.async false
set_option linter.all false
set_option maxRecDepth 100000
set_option maxHeartbeats 4000000
/-! R0: deep values D, what a value of the layer stands for, the frame's relation. -/
namespace Rm
open PySem PySem.Spec L2

inductive D where
  | non | bl (b : Bool) | int (i : Int) | str (s : List Nat) | tup (xs : List D) | lst (xs : List D) | lk (ns : List Int)

abbrev SZ : Nat := 16777216
theorem sz_eq : sizeLine = SZ := sizeLine_eq
def mkS (s : List Nat) : Str := ⟨s.toArray⟩
def okS (s : List Nat) : Bool := decide (s.length ≤ SZ) && s.all fun c => decide (c < 128)
theorem mkS_len (s : List Nat) : (mkS s).length = s.length := by
  show s.toArray.size = s.length
  exact List.size_toArray
theorem mkS_inj {s t : List Nat} (h : mkS s = mkS t) : s = t := by
  have e : s.toArray = t.toArray := by injection h
  simpa using congrArg Array.toList e
theorem mkS_dec (s t : List Nat) : decide (mkS s = mkS t) = decide (s = t) := by
  by_cases h : s = t
  · subst h; simp
  · rw [decide_eq_false h, decide_eq_false (fun q => h (mkS_inj q))]
theorem mkS_eta (x : Str) : mkS x.cps.toList = x := by cases x; simp [mkS]
theorem okS_len {s : List Nat} (h : okS s = true) : s.length ≤ SZ := by
  have := (Bool.and_eq_true_iff.mp h).1
  exact of_decide_eq_true this
theorem okS_lt {s : List Nat} (h : okS s = true) : ∀ c ∈ s, c < 128 := fun c hc => of_decide_eq_true (List.all_eq_true.mp (Bool.and_eq_true_iff.mp h).2 c hc)
theorem okS_mk {s : List Nat} (h1 : s.length ≤ SZ) (h2 : ∀ c ∈ s, c < 128) : okS s = true :=
  Bool.and_eq_true_iff.mpr ⟨decide_eq_true h1, List.all_eq_true.mpr fun c hc => decide_eq_true (h2 c hc)⟩

abbrev Fz := Addr → Prop
def TupF (K : PySem.W.Frag) (F : Fz) (H : Hp) (a : Addr) (vs : List V) : Prop := (F a ∧ H a = some (.tup vs)) ∨ SqT K (fun _ => none) a vs
theorem TupF.sq {K F H a vs} (h : TupF K F H a vs) : SqT K H a vs := by
  rcases h with h | h
  · exact .inl (.inl h.2)
  · rcases h with (h | ⟨o, h⟩) | h
    · cases h
    · cases h
    · exact .inr h

/-- the script: locked, or written -/
def LkF (K : PySem.W.Frag) (F : Fz) (H : Hp) (a : Addr) (vs : List V) : Prop := (F a ∧ Rd H a (.lst vs)) ∨ SqL K (fun _ => none) a vs
theorem LkF.sq {K F H a vs} (h : LkF K F H a vs) : SqL K H a vs := by
  rcases h with h | h
  · exact .inl h.2
  · rcases h with (h | ⟨o, h⟩) | h
    · cases h
    · cases h
    · exact .inr h
mutual
def Rep (K : PySem.W.Frag) (F : Fz) (H : Hp) : D → V → Prop
  | .non, v => v = .non
  | .bl b, v => v = .bl b
  | .int i, v => v = .int i
  | .str s, v => v = .str (mkS s) ∧ okS s = true
  | .tup ds, v => ∃ a vs, v = .ref a ∧ TupF K F H a vs ∧ ds.length ≤ SZ ∧ RepL K F H ds vs
  | .lst ds, v => ∃ a vs, v = .ref a ∧ F a ∧ H a = some (.lst vs) ∧ ds.length ≤ SZ ∧ RepL K F H ds vs
  | .lk ns, v => ∃ a, v = .ref a ∧ LkF K F H a (ns.map V.int) ∧ ns.length ≤ SZ
def RepL (K : PySem.W.Frag) (F : Fz) (H : Hp) : List D → List V → Prop
  | [], vs => vs = []
  | d :: ds, vs => ∃ v r, vs = v :: r ∧ Rep K F H d v ∧ RepL K F H ds r
end

/-- frozen things stay -/
structure Le (F : Fz) (H : Hp) (F' : Fz) (H' : Hp) : Prop where
  keep : ∀ a, F a → H' a = H a
  sub : ∀ a, F a → F' a
theorem Le.refl {F H} : Le F H F H := ⟨fun _ _ => rfl, fun _ h => h⟩
theorem Le.trans {F H F1 H1 F2 H2} (a : Le F H F1 H1) (b : Le F1 H1 F2 H2) : Le F H F2 H2 :=
  ⟨fun x h => (b.keep x (a.sub x h)).trans (a.keep x h), fun x h => b.sub x (a.sub x h)⟩
theorem sqL_eq {K : PySem.W.Frag} {H H' : Hp} {a : Addr} {xs} (e : H' a = H a) (h : SqL K H a xs) : SqL K H' a xs := by
  rcases h with (h | ⟨o, h⟩) | h
  · exact .inl (.inl (e.trans h))
  · exact .inl (.inr ⟨o, e.trans h⟩)
  · exact .inr h
theorem LkF.le {K F H F' H' a vs} (l : Le F H F' H') (h : LkF K F H a vs) : LkF K F' H' a vs := by
  rcases h with ⟨f, q⟩ | h
  · refine .inl ⟨l.sub a f, ?_⟩
    rcases q with q | ⟨o, q⟩
    · exact .inl ((l.keep a f).trans q)
    · exact .inr ⟨o, (l.keep a f).trans q⟩
  · exact .inr h
mutual
theorem Rep.le {K F H F' H'} (l : Le F H F' H') : ∀ {d : D} {v : V}, Rep K F H d v → Rep K F' H' d v
  | .non, _, h => h
  | .bl _, _, h => h
  | .int _, _, h => h
  | .str _, _, h => h
  | .tup ds, _, ⟨a, vs, e, t, z, r⟩ => by
    refine ⟨a, vs, e, ?_, z, RepL.le l r⟩
    rcases t with ⟨f, q⟩ | t
    · exact .inl ⟨l.sub a f, (l.keep a f).trans q⟩
    · exact .inr t
  | .lst ds, _, ⟨a, vs, e, f, q, z, r⟩ => ⟨a, vs, e, l.sub a f, (l.keep a f).trans q, z, RepL.le l r⟩
  | .lk ns, _, ⟨a, e, q, z⟩ => ⟨a, e, q.le l, z⟩
theorem RepL.le {K F H F' H'} (l : Le F H F' H') : ∀ {ds : List D} {vs : List V}, RepL K F H ds vs → RepL K F' H' ds vs
  | [], _, h => h
  | _ :: _, _, ⟨v, r, e, h, t⟩ => ⟨v, r, e, Rep.le l h, RepL.le l t⟩
end

section
variable {K : PySem.W.Frag} {F : Fz} {H : Hp}
theorem RepL.length : ∀ {ds : List D} {vs : List V}, RepL K F H ds vs → vs.length = ds.length
  | [], _, h => by rw [show _ = [] from h]; rfl
  | _ :: ds, _, ⟨v, r, e, _, t⟩ => by rw [e, List.length_cons, List.length_cons, RepL.length t]
theorem RepL.get : ∀ {ds : List D} {vs : List V} {i : Nat} {d : D}, RepL K F H ds vs → ds[i]? = some d → ∃ v, vs[i]? = some v ∧ Rep K F H d v
  | [], _, _, _, _, e => by simp at e
  | _ :: _, _, 0, d, ⟨v, r, e, h, _⟩, q => by simp at q; subst q; exact ⟨v, by rw [e]; rfl, h⟩
  | _ :: ds, _, i + 1, d, ⟨v, r, e, _, t⟩, q => by
    obtain ⟨w, h1, h2⟩ := RepL.get (i := i) (d := d) t (by simpa using q)
    exact ⟨w, by rw [e]; simpa using h1, h2⟩
theorem RepL.get' : ∀ {ds : List D} {vs : List V} {i : Nat} {v : V}, RepL K F H ds vs → vs[i]? = some v → ∃ d, ds[i]? = some d ∧ Rep K F H d v := fun {ds vs i v} h e => by
  have hi : i < vs.length := (List.getElem?_eq_some_iff.mp e).1
  rw [h.length] at hi
  obtain ⟨w, h1, h2⟩ := h.get (List.getElem?_eq_getElem hi)
  rw [e] at h1; cases h1
  exact ⟨_, List.getElem?_eq_getElem hi, h2⟩
theorem RepL.append : ∀ {ds es : List D} {vs ws : List V}, RepL K F H ds vs → RepL K F H es ws → RepL K F H (ds ++ es) (vs ++ ws)
  | [], _, _, _, h, t => by rw [show _ = [] from h]; exact t
  | _ :: ds, _, _, _, ⟨v, r, e, h, t⟩, s => ⟨v, r ++ _, by rw [e]; rfl, h, RepL.append t s⟩
theorem RepL.one {d : D} {v : V} (h : Rep K F H d v) : RepL K F H [d] [v] := ⟨v, [], rfl, h, rfl⟩
theorem RepL.set : ∀ {ds : List D} {vs : List V} {d : D} {v : V} (i : Nat), RepL K F H ds vs → Rep K F H d v → RepL K F H (ds.set i d) (vs.set i v)
  | [], _, _, _, _, h, _ => by rw [show _ = [] from h]; rfl
  | _ :: _, _, _, _, 0, ⟨_, r, e, _, t⟩, q => ⟨_, r, by rw [e]; rfl, q, t⟩
  | _ :: _, _, _, _, i + 1, ⟨w, r, e, h, t⟩, q => ⟨w, r.set i _, by rw [e]; rfl, h, RepL.set i t q⟩
theorem RepL.take : ∀ {ds : List D} {vs : List V} (n : Nat), RepL K F H ds vs → RepL K F H (ds.take n) (vs.take n)
  | _, _, 0, _ => by simp [RepL]
  | [], _, n + 1, h => by rw [show _ = [] from h]; simp [RepL]
  | _ :: _, _, n + 1, ⟨v, r, e, h, t⟩ => ⟨v, r.take n, by rw [e]; rfl, h, RepL.take n t⟩
theorem RepL.drop : ∀ {ds : List D} {vs : List V} (n : Nat), RepL K F H ds vs → RepL K F H (ds.drop n) (vs.drop n)
  | _, _, 0, h => h
  | [], _, n + 1, h => by rw [show _ = [] from h]; simp [RepL]
  | _ :: _, _, n + 1, ⟨v, r, e, _, t⟩ => by rw [e]; exact RepL.drop n t
theorem RepL.ints : ∀ {ns : List Int} {vs : List V}, RepL K F H (ns.map D.int) vs → vs = ns.map V.int
  | [], _, h => h
  | n :: ns, _, ⟨v, r, e, h, t⟩ => by rw [e, show v = .int n from h, RepL.ints t]; rfl
theorem RepL.bls : ∀ {ns : List Bool} {vs : List V}, RepL K F H (ns.map D.bl) vs → vs = ns.map V.bl
  | [], _, h => h
  | n :: ns, _, ⟨v, r, e, h, t⟩ => by rw [e, show v = .bl n from h, RepL.bls t]; rfl
theorem RepL.strs : ∀ {ns : List (List Nat)} {vs : List V}, RepL K F H (ns.map D.str) vs → vs = ns.map (fun s => V.str (mkS s)) ∧ ∀ s ∈ ns, okS s = true
  | [], _, h => ⟨h, by simp⟩
  | n :: ns, _, ⟨v, r, e, ⟨h, h2⟩, t⟩ => by
    obtain ⟨a, b⟩ := RepL.strs t
    refine ⟨by rw [e, h, a]; rfl, fun s hs => ?_⟩
    rcases List.mem_cons.mp hs with rfl | hs
    · exact h2
    · exact b s hs
theorem repL_ints : ∀ (ns : List Int), RepL K F H (ns.map D.int) (ns.map V.int)
  | [] => rfl
  | n :: ns => ⟨_, _, rfl, rfl, repL_ints ns⟩
end

/-! ### what an expression gives -/
inductive R where
  | d (v : D) | fr (xs : List D)
def R.toD : R → D
  | .d v => v
  | .fr xs => .lst xs
inductive SV where
  | un | d (v : D) | own (xs : List D) | io (xs : List D)
abbrev En := List SV
def SV.isOwn : SV → Bool
  | .own _ => true
  | .io _ => true
  | _ => false
def ownAt (ρ : En) (i : Nat) : Prop := ∃ s, ρ[i]? = some s ∧ s.isOwn = true

/-- a list at a that one alone may write -/
structure Ow (K : PySem.W.Frag) (O F : Fz) (H : Hp) (a : Addr) (xs : List D) : Prop where
  nf : ¬ F a
  no : ¬ O a
  ln : xs.length ≤ SZ
  at_ : ∃ vs, H a = some (.lst vs) ∧ RepL K F H xs vs
def SlotOk (K : PySem.W.Frag) (J : List (Nat × Addr)) (O F : Fz) (H : Hp) (σ : St) (i : Nat) : SV → Prop
  | .un => True
  | .d d => ∃ v, σ[i]? = some (some v) ∧ Rep K F H d v
  | .own xs => ∃ a, σ[i]? = some (some (.ref a)) ∧ Ow K O F H a xs
  | .io xs => ∃ a, σ[i]? = some (some (.ref a)) ∧ (i, a) ∈ J ∧ Ow K O F H a xs
structure Rel (K : PySem.W.Frag) (J : List (Nat × Addr)) (O F : Fz) (H : Hp) (σ : St) (ρ : En) : Prop where
  len : σ.length = ρ.length
  tr : ∀ a, F a ∨ O a → H a ≠ none
  dj : ∀ a, O a → ¬ F a
  slot : ∀ i s, ρ[i]? = some s → SlotOk K J O F H σ i s
  sep : ∀ i j a, i ≠ j → ownAt ρ i → ownAt ρ j → σ[i]? = some (some (.ref a)) → σ[j]? = some (some (.ref a)) → False
/-- what stands behind a step: frozen and foreign things stay -/
structure Stp (O F : Fz) (H : Hp) (F' : Fz) (H' : Hp) : Prop where
  keep : ∀ a, F a ∨ O a → H' a = H a
  sub : ∀ a, F a → F' a
theorem Stp.le {O F H F' H'} (s : Stp O F H F' H') : Le F H F' H' := ⟨fun a h => s.keep a (.inl h), s.sub⟩
theorem Stp.refl {O F H} : Stp O F H F H := ⟨fun _ _ => rfl, fun _ h => h⟩
theorem Stp.trans {O F H F1 H1 F2 H2} (a : Stp O F H F1 H1) (b : Stp O F1 H1 F2 H2) : Stp O F H F2 H2 :=
  ⟨fun x h => (b.keep x (h.imp (a.sub x) id)).trans (a.keep x h), fun x h => b.sub x (a.sub x h)⟩
def RepR (K : PySem.W.Frag) (O F : Fz) (H : Hp) (σ : St) (ρ : En) : R → V → Prop
  | .d d, v => Rep K F H d v
  | .fr xs, v => ∃ a, v = .ref a ∧ Ow K O F H a xs ∧ ∀ j, ownAt ρ j → σ[j]? ≠ some (some (.ref a))
/-- what may be read now: frozen, or a list of one's own -/
def RepW (K : PySem.W.Frag) (F : Fz) (H : Hp) (d : D) (v : V) : Prop :=
  Rep K F H d v ∨ ∃ a vs xs, d = .lst xs ∧ v = .ref a ∧ H a = some (.lst vs) ∧ xs.length ≤ SZ ∧ RepL K F H xs vs
/-- a pure result: what was tracked stands -/
structure PRes (K : PySem.W.Frag) (F : Fz) (H : Hp) (r : R) (v : V) (F' : Fz) (H' : Hp) : Prop where
  same : ∀ a, H a ≠ none → H' a = H a
  sub : ∀ a, F a → F' a
  new : ∀ a, F' a → F a ∨ (H a = none ∧ H' a ≠ none)
  rep : match r with
    | .d d => Rep K F' H' d v
    | .fr xs => ∃ a vs, v = .ref a ∧ H a = none ∧ ¬ F' a ∧ H' a = some (.lst vs) ∧ xs.length ≤ SZ ∧ RepL K F' H' xs vs

section
variable {K : PySem.W.Frag} {J : List (Nat × Addr)} {O F F' : Fz} {H H' : Hp} {σ : St} {ρ : En}
theorem Ow.keep {a xs} (o : Ow K O F H a xs) (l : Le F H F' H') (e : H' a = H a) (nf : ¬ F' a) : Ow K O F' H' a xs := by
  obtain ⟨vs, h, r⟩ := o.at_
  exact ⟨nf, o.no, o.ln, vs, e.trans h, r.le l⟩
/-- a slot's address of one's own -/
theorem Rel.ownA (r : Rel K J O F H σ ρ) {i : Nat} (h : ownAt ρ i) : ∃ a xs, σ[i]? = some (some (.ref a)) ∧ Ow K O F H a xs ∧ (ρ[i]? = some (.own xs) ∨ (ρ[i]? = some (.io xs) ∧ (i, a) ∈ J)) := by
  obtain ⟨s, e, h⟩ := h
  have q := r.slot i s e
  cases s with
  | un => cases h
  | d d => cases h
  | own xs => obtain ⟨a, e1, o⟩ := q; exact ⟨a, xs, e1, o, .inl e⟩
  | io xs => obtain ⟨a, e1, m, o⟩ := q; exact ⟨a, xs, e1, o, .inr ⟨e, m⟩⟩
/-- everything tracked ahead is kept, new frozen things were not tracked -/
theorem Rel.grow (r : Rel K J O F H σ ρ) (l : Le F H F' H') (same : ∀ a, H a ≠ none → H' a = H a) (new : ∀ a, F' a → F a ∨ (H a = none ∧ H' a ≠ none)) : Rel K J O F' H' σ ρ := by
  have trk : ∀ {a}, F a ∨ O a → H' a = H a := fun {a} h => same a (r.tr a h)
  have ow : ∀ {a xs}, Ow K O F H a xs → Ow K O F' H' a xs := fun {a xs} o => by
    obtain ⟨vs, h, q⟩ := o.at_
    have ha : H a ≠ none := by rw [h]; intro z; cases z
    refine o.keep l (same a ha) fun z => ?_
    rcases new a z with z | ⟨z, _⟩
    · exact o.nf z
    · exact ha z
  refine ⟨r.len, fun a h => ?_, fun a h z => ?_, fun i s e => ?_, r.sep⟩
  · rcases h with h | h
    · rcases new a h with h | ⟨_, h⟩
      · rw [trk (.inl h)]; exact r.tr a (.inl h)
      · exact h
    · rw [trk (.inr h)]; exact r.tr a (.inr h)
  · rcases new a z with z | ⟨z, _⟩
    · exact r.dj a h z
    · exact r.tr a (.inr h) z
  · have q := r.slot i s e
    cases s with
    | un => trivial
    | d d => obtain ⟨v, e1, q⟩ := q; exact ⟨v, e1, q.le l⟩
    | own xs => obtain ⟨a, e1, q⟩ := q; exact ⟨a, e1, ow q⟩
    | io xs => obtain ⟨a, e1, m, q⟩ := q; exact ⟨a, e1, m, ow q⟩
theorem PRes.le {r v} (p : PRes K F H r v F' H') (tr : ∀ a, F a → H a ≠ none) : Le F H F' H' := ⟨fun a h => p.same a (tr a h), p.sub⟩
theorem Rel.pure {r : R} {v : V} (q : Rel K J O F H σ ρ) (p : PRes K F H r v F' H') : Stp O F H F' H' ∧ Rel K J O F' H' σ ρ ∧ RepR K O F' H' σ ρ r v := by
  have l := p.le fun a h => q.tr a (.inl h)
  refine ⟨⟨fun a h => p.same a (q.tr a h), p.sub⟩, q.grow l p.same p.new, ?_⟩
  cases r with
  | d d => exact p.rep
  | fr xs =>
    obtain ⟨a, vs, e, n, nf, h, z, rl⟩ := p.rep
    refine ⟨a, e, ⟨nf, fun o => q.tr a (.inr o) n, z, vs, h, rl⟩, fun j hj e1 => ?_⟩
    obtain ⟨b, xs', e2, o, _⟩ := q.ownA hj
    rw [e1] at e2; cases e2
    obtain ⟨ws, h', _⟩ := o.at_
    rw [n] at h'; cases h'
theorem PRes.val {d : D} {v : V} (h : Rep K F H d v) : PRes K F H (.d d) v F H := ⟨fun _ _ => rfl, fun _ h => h, fun _ h => .inl h, h⟩
theorem upd_of_none {H : Hp} {p a : Addr} {o : HO} (n : H p = none) (h : H a ≠ none) : upd H p o a = H a := upd_ne fun e => h (by rw [e]; exact n)
def addF (F : Fz) (p : Addr) : Fz := fun a => F a ∨ a = p
/-- a new tuple -/
theorem PRes.newTup {ds : List D} {vs : List V} {p : Addr} (tr : ∀ a, F a → H a ≠ none) (n : H p = none) (z : ds.length ≤ SZ) (r : RepL K F H ds vs) : PRes K F H (.d (.tup ds)) (.ref p) (addF F p) (upd H p (.tup vs)) := by
  have l : Le F H (addF F p) (upd H p (.tup vs)) := ⟨fun a h => upd_of_none n (tr a h), fun a h => .inl h⟩
  refine ⟨fun a h => upd_of_none n h, fun a h => .inl h, fun a h => ?_, p, vs, rfl, .inl ⟨.inr rfl, upd_same⟩, z, r.le l⟩
  rcases h with h | rfl
  · exact .inl h
  · exact .inr ⟨n, by rw [upd_same]; intro z; cases z⟩
/-- a new list -/
theorem PRes.newLst {ds : List D} {vs : List V} {p : Addr} (tr : ∀ a, F a → H a ≠ none) (n : H p = none) (z : ds.length ≤ SZ) (r : RepL K F H ds vs) : PRes K F H (.fr ds) (.ref p) F (upd H p (.lst vs)) := by
  have l : Le F H F (upd H p (.lst vs)) := ⟨fun a h => upd_of_none n (tr a h), fun a h => h⟩
  exact ⟨fun a h => upd_of_none n h, fun a h => h, fun a h => .inl h, p, vs, rfl, n, fun h => tr p h n, upd_same, z, r.le l⟩
/-- a fresh list is frozen -/
theorem Rel.freeze (q : Rel K J O F H σ ρ) {r : R} {v : V} (p : RepR K O F H σ ρ r v) : ∃ F', Stp O F H F' H ∧ Rel K J O F' H σ ρ ∧ Rep K F' H r.toD v := by
  cases r with
  | d d => exact ⟨F, .refl, q, p⟩
  | fr xs =>
    obtain ⟨a, e, o, nj⟩ := p
    obtain ⟨vs, h, rl⟩ := o.at_
    have l : Le F H (addF F a) H := ⟨fun _ _ => rfl, fun _ h => .inl h⟩
    have ha : H a ≠ none := by rw [h]; intro z; cases z
    have ow : ∀ {i b ys}, ownAt ρ i → σ[i]? = some (some (.ref b)) → Ow K O F H b ys → Ow K O (addF F a) H b ys := fun {i b ys} hi e1 ob =>
      ob.keep l rfl fun z => by
        rcases z with z | rfl
        · exact ob.nf z
        · exact nj i hi e1
    refine ⟨addF F a, ⟨fun _ _ => rfl, fun _ h => .inl h⟩, ⟨q.len, fun b hb => ?_, fun b ob z => ?_, fun i s e1 => ?_, q.sep⟩, a, vs, e, .inr rfl, h, o.ln, rl.le l⟩
    · rcases hb with (hb | rfl) | hb
      · exact q.tr b (.inl hb)
      · exact ha
      · exact q.tr b (.inr hb)
    · rcases z with z | rfl
      · exact q.dj b ob z
      · exact o.no ob
    · have t := q.slot i s e1
      cases s with
      | un => trivial
      | d d => obtain ⟨w, e2, t⟩ := t; exact ⟨w, e2, t.le l⟩
      | own ys => obtain ⟨b, e2, t⟩ := t; exact ⟨b, e2, ow ⟨_, e1, rfl⟩ e2 t⟩
      | io ys => obtain ⟨b, e2, m, t⟩ := t; exact ⟨b, e2, m, ow ⟨_, e1, rfl⟩ e2 t⟩
end
end Rm

set_option Elab.async false
set_option linter.all false
set_option maxRecDepth 100000
set_option maxHeartbeats 4000000
/-! R1: operators upon deep values. -/
namespace Rm
open PySem PySem.Spec L2

/-! ### equality -/
mutual
def D.py : D → PyData
  | .non => .none
  | .bl b => .bool b
  | .int i => .int i
  | .str s => .str (mkS s)
  | .tup xs => .tuple (pys xs)
  | .lst xs => .list (pys xs)
  | .lk ns => .list (ns.map .int)
def pys : List D → List PyData
  | [] => []
  | x :: xs => x.py :: pys xs
end
mutual
def D.dep : D → Nat
  | .tup xs => deps xs + 1
  | .lst xs => deps xs + 1
  | .lk _ => 1
  | _ => 0
def deps : List D → Nat
  | [] => 0
  | x :: xs => max x.dep (deps xs)
end
mutual
def D.eqb : D → D → Bool
  | .non, e => (match e with | .non => true | _ => false)
  | .bl a, e => (match e with | .bl b => a == b | .int j => (if a then 1 else 0) == j | _ => false)
  | .int i, e => (match e with | .bl b => i == (if b then 1 else 0) | .int j => decide (i = j) | _ => false)
  | .str s, e => (match e with | .str t => decide (s = t) | _ => false)
  | .tup xs, e => (match e with | .tup ys => eqbs xs ys | _ => false)
  | .lst xs, e => (match e with | .lst ys => eqbs xs ys | _ => false)
  | .lk _, _ => false
def eqbs : List D → List D → Bool
  | [], e => (match e with | [] => true | _ :: _ => false)
  | x :: xs, e => (match e with | [] => false | y :: ys => x.eqb y && eqbs xs ys)
end
mutual
def D.noLk : D → Bool
  | .tup xs => noLks xs
  | .lst xs => noLks xs
  | .lk _ => false
  | _ => true
def noLks : List D → Bool
  | [] => true
  | x :: xs => x.noLk && noLks xs
end
mutual
theorem eqb_py : ∀ d e : D, d.noLk = true → e.noLk = true → PyData.eqv d.py e.py = d.eqb e
  | .non, e, _, h => by cases e <;> first | rfl | (simp [D.noLk] at h)
  | .bl a, e, _, h => by cases e <;> first | rfl | (simp [D.noLk] at h)
  | .int a, e, _, h => by
    cases e with
    | int j => simp [D.py, PyData.eqv, D.eqb, Bool.beq_eq_decide_eq]
    | lk _ => simp [D.noLk] at h
    | _ => rfl
  | .str s, e, _, h => by
    cases e with
    | str t =>
      simp only [D.py, PyData.eqv, D.eqb]
      rw [← mkS_dec s t, Bool.beq_eq_decide_eq]
    | lk _ => simp [D.noLk] at h
    | _ => rfl
  | .tup xs, e, h1, h => by
    cases e with
    | tup ys =>
      simp only [D.py, PyData.eqv, D.eqb]
      exact eqbs_py xs ys (by simpa [D.noLk] using h1) (by simpa [D.noLk] using h)
    | lk _ => simp [D.noLk] at h
    | _ => rfl
  | .lst xs, e, h1, h => by
    cases e with
    | lst ys =>
      simp only [D.py, PyData.eqv, D.eqb]
      exact eqbs_py xs ys (by simpa [D.noLk] using h1) (by simpa [D.noLk] using h)
    | lk _ => simp [D.noLk] at h
    | _ => rfl
  | .lk _, _, h, _ => by simp [D.noLk] at h
theorem eqbs_py : ∀ xs ys : List D, noLks xs = true → noLks ys = true → PyData.eqvAll (pys xs) (pys ys) = eqbs xs ys
  | [], [], _, _ => rfl
  | [], _ :: _, _, _ => rfl
  | _ :: _, [], _, _ => rfl
  | x :: xs, y :: ys, h1, h2 => by
    have a := Bool.and_eq_true_iff.mp (show (x.noLk && noLks xs) = true from h1)
    have b := Bool.and_eq_true_iff.mp (show (y.noLk && noLks ys) = true from h2)
    simp only [pys, PyData.eqvAll, eqbs]
    rw [eqb_py x y a.1 b.1, eqbs_py xs ys a.2 b.2]
end
mutual
theorem dep_py : ∀ d : D, d.noLk = true → d.py.depth = d.dep
  | .non, _ => rfl
  | .bl _, _ => rfl
  | .int _, _ => rfl
  | .str _, _ => rfl
  | .tup xs, h => by simp only [D.py, PyData.depth, D.dep]; rw [deps_py xs (by simpa [D.noLk] using h)]
  | .lst xs, h => by simp only [D.py, PyData.depth, D.dep]; rw [deps_py xs (by simpa [D.noLk] using h)]
  | .lk _, h => by simp [D.noLk] at h
theorem deps_py : ∀ xs : List D, noLks xs = true → PyData.depthAll (pys xs) = deps xs
  | [], _ => rfl
  | x :: xs, h => by
    have a := Bool.and_eq_true_iff.mp (show (x.noLk && noLks xs) = true from h)
    simp only [pys, PyData.depthAll, deps]
    rw [dep_py x a.1, deps_py xs a.2]
end
section
variable {K : PySem.W.Frag} {F : Fz} {H : Hp}
mutual
theorem Rep.lay : ∀ {d : D} {v : V}, d.noLk = true → Rep K F H d v → d.py.canLay0 = true
  | .non, _, _, _ => rfl
  | .bl _, _, _, _ => rfl
  | .int _, _, _, _ => rfl
  | .str s, _, _, h => by
    show PyData.strOk (mkS s) = true
    unfold PyData.strOk mkS
    rw [← Array.all_toList]
    exact List.all_eq_true.mpr fun c hc => decide_eq_true (Nat.lt_trans (okS_lt h.2 c (by simpa using hc)) (by decide))
  | .tup ds, _, n, ⟨_, _, _, _, _, r⟩ => by simp only [D.py, PyData.canLay0]; exact RepL.lay (by simpa [D.noLk] using n) r
  | .lst ds, _, n, ⟨_, _, _, _, _, _, r⟩ => by simp only [D.py, PyData.canLay0]; exact RepL.lay (by simpa [D.noLk] using n) r
  | .lk _, _, n, _ => by simp [D.noLk] at n
theorem RepL.lay : ∀ {ds : List D} {vs : List V}, noLks ds = true → RepL K F H ds vs → PyData.canLayAll0 (pys ds) = true
  | [], _, _, _ => rfl
  | d :: ds, _, n, ⟨_, _, _, h, t⟩ => by
    have a := Bool.and_eq_true_iff.mp (show (d.noLk && noLks ds) = true from n)
    simp only [pys, PyData.canLayAll0, Rep.lay a.1 h, RepL.lay a.2 t, Bool.and_self]
end
mutual
theorem Rep.dp : ∀ {d : D} {v : V}, d.noLk = true → Rep K F H d v → Dp K H v d.py
  | .non, _, _, h => by rw [show _ = V.non from h]; exact .non
  | .bl b, _, _, h => by rw [show _ = V.bl b from h]; exact .bl b
  | .int i, _, _, h => by rw [show _ = V.int i from h]; exact .int i
  | .str s, _, _, h => by rw [h.1]; exact .str _
  | .tup ds, _, n, ⟨a, vs, e, t, _, r⟩ => by rw [e]; exact .tup t.sq (RepL.dp (by simpa [D.noLk] using n) r)
  | .lst ds, _, n, ⟨a, vs, e, f, t, _, r⟩ => by rw [e]; exact .lst (SqL.of t) (RepL.dp (by simpa [D.noLk] using n) r)
  | .lk _, _, n, _ => by simp [D.noLk] at n
theorem RepL.dp : ∀ {ds : List D} {vs : List V}, noLks ds = true → RepL K F H ds vs → DpAll K H vs (pys ds)
  | [], _, _, h => by rw [show _ = [] from h]; exact .nil
  | d :: ds, _, n, ⟨_, _, e, h, t⟩ => by
    have a := Bool.and_eq_true_iff.mp (show (d.noLk && noLks ds) = true from n)
    rw [e]
    exact .cons (Rep.dp a.1 h) (RepL.dp a.2 t)
end
def D.eqOk (d : D) : Bool := d.noLk && decide (d.dep ≤ 64)
theorem RepW.eqD {d : D} {v : V} (o : d.eqOk = true) (h : RepW K F H d v) : Dp K H v d.py ∧ SeqAt.shaped d.py = true := by
  have o' := Bool.and_eq_true_iff.mp o
  have sh : d.py.canLay0 = true → SeqAt.shaped d.py = true := fun q => by
    unfold SeqAt.shaped
    rw [q, dep_py d o'.1, o'.2]; rfl
  rcases h with h | ⟨a, vs, xs, rfl, rfl, q, _, r⟩
  · exact ⟨h.dp o'.1, sh (h.lay o'.1)⟩
  · have n : noLks xs = true := by simpa [D.noLk] using o'.1
    exact ⟨.lst (SqL.of q) (r.dp n), sh (by simp only [D.py, PyData.canLay0]; exact r.lay n)⟩
end

/-! ### rules by deep values -/
abbrev Trk (F : Fz) (H : Hp) : Prop := ∀ a, F a → H a ≠ none
def OpS (K : PySem.W.Frag) (rule : R2) (f : D → D → Option R) : Prop := ∀ (F : Fz) (H : Hp) (x y : V) (a b : D) (r : R) (Q : VK), Trk F H → RepW K F H a x → RepW K F H b y → f a b = some r →
  (∀ v F' H', PRes K F H r v F' H' → Q v H') → rule x y H Q
def OpB (K : PySem.W.Frag) (rule : R2) (f : D → D → Option Bool) : Prop := ∀ (F : Fz) (H : Hp) (x y : V) (a b : D) (r : Bool) (Q : VK), Trk F H → RepW K F H a x → RepW K F H b y → f a b = some r →
  Q (.bl r) H → rule x y H Q
section
variable {K : PySem.W.Frag} {F : Fz} {H : Hp}
theorem RepW.int {i : Int} {v : V} (h : RepW K F H (.int i) v) : v = .int i := by
  rcases h with h | ⟨_, _, _, e, _⟩
  · exact h
  · cases e
theorem RepW.bl {i : Bool} {v : V} (h : RepW K F H (.bl i) v) : v = .bl i := by
  rcases h with h | ⟨_, _, _, e, _⟩
  · exact h
  · cases e
theorem RepW.non {v : V} (h : RepW K F H .non v) : v = .non := by
  rcases h with h | ⟨_, _, _, e, _⟩
  · exact h
  · cases e
theorem RepW.str {s : List Nat} {v : V} (h : RepW K F H (.str s) v) : v = .str (mkS s) ∧ okS s = true := by
  rcases h with h | ⟨_, _, _, e, _⟩
  · exact h
  · cases e
theorem RepW.tup {ds : List D} {v : V} (h : RepW K F H (.tup ds) v) : ∃ a vs, v = .ref a ∧ TupF K F H a vs ∧ ds.length ≤ SZ ∧ RepL K F H ds vs := by
  rcases h with h | ⟨_, _, _, e, _⟩
  · exact h
  · cases e
theorem RepW.lst {ds : List D} {v : V} (h : RepW K F H (.lst ds) v) : ∃ a vs, v = .ref a ∧ H a = some (.lst vs) ∧ ds.length ≤ SZ ∧ RepL K F H ds vs := by
  rcases h with ⟨a, vs, e, _, q, z, r⟩ | ⟨a, vs, xs, e, e2, q, z, r⟩
  · exact ⟨a, vs, e, q, z, r⟩
  · cases e; exact ⟨a, vs, e2, q, z, r⟩
theorem RepW.lk {ns : List Int} {v : V} (h : RepW K F H (.lk ns) v) : ∃ a, v = .ref a ∧ LkF K F H a (ns.map V.int) ∧ ns.length ≤ SZ := by
  rcases h with h | ⟨_, _, _, e, _⟩
  · exact h
  · cases e
/-- a sequence that is read: a list, a tuple, the script -/
def D.seq? : D → Option (List D)
  | .tup xs => some xs
  | .lst xs => some xs
  | .lk ns => some (ns.map D.int)
  | _ => none
theorem RepW.seq {d : D} {ds : List D} {v : V} (h : RepW K F H d v) (e : d.seq? = some ds) : ∃ a vs, v = .ref a ∧ (SqL K H a vs ∨ SqT K H a vs) ∧ ds.length ≤ SZ ∧ RepL K F H ds vs := by
  cases d with
  | tup xs => cases e; obtain ⟨a, vs, e, t, z, r⟩ := h.tup; exact ⟨a, vs, e, .inr t.sq, z, r⟩
  | lst xs => cases e; obtain ⟨a, vs, e, t, z, r⟩ := h.lst; exact ⟨a, vs, e, .inl (SqL.of t), z, r⟩
  | lk ns => cases e; obtain ⟨a, e, t, z⟩ := h.lk; exact ⟨a, _, e, .inl t.sq, by simpa using z, repL_ints ns⟩
  | _ => cases e
end

theorem okS_append {s t : List Nat} (a : okS s = true) (b : okS t = true) (z : s.length + t.length ≤ SZ) : okS (s ++ t) = true :=
  okS_mk (by rw [List.length_append]; exact z) fun c hc => (List.mem_append.mp hc).elim (okS_lt a c) (okS_lt b c)
theorem mkS_append (s t : List Nat) : mkS s ++ mkS t = mkS (s ++ t) := by
  show Str.mk _ = _
  simp [mkS]
theorem okS_sub {s t : List Nat} (a : okS s = true) (z : t.length ≤ s.length) (h : ∀ c ∈ t, c ∈ s) : okS t = true := okS_mk (Nat.le_trans z (okS_len a)) fun c hc => okS_lt a c (h c hc)

/-! ### + -/
def dAdd : D → D → Option R
  | .int i, .int j => some (.d (.int (i + j)))
  | .str s, .str t => if s.length + t.length ≤ SZ then some (.d (.str (s ++ t))) else none
  | .lst xs, .lst ys => if xs.length + ys.length ≤ SZ then some (.fr (xs ++ ys)) else none
  | .tup xs, .tup ys => if xs.length + ys.length ≤ SZ then some (.d (.tup (xs ++ ys))) else none
  | _, _ => none
abbrev rAddI : R2 := rI0 fun i j => .int (i + j)
abbrev rAddS : R2 := fun x y H Q => ∃ i j, x = .str i ∧ y = .str j ∧ i.length + j.length ≤ sizeLine ∧ Q (.str (i ++ j)) H
abbrev rAddAll (K : PySem.W.Frag) : R2 := fun x y H Q => rAddI x y H Q ∨ (fun x y H Q => rAddS x y H Q ∨ (fun x y H Q => rCat x y H Q ∨ rCatA K x y H Q) x y H Q) x y H Q
theorem opr_add {X : Cx} : OpR X (binaryOp .Add) (rAddAll X.K) := op_add.or (op_add_str.or (op_cat.or op_catA))
theorem ops_add {K : PySem.W.Frag} : OpS K (rAddAll K) dAdd := by
  intro F H x y a b r Q tr ha hb e h
  unfold dAdd at e
  split at e
  · cases e
    exact .inl ⟨_, _, ha.int, hb.int, h _ F H (.val rfl)⟩
  · rename_i s t
    split at e
    · rename_i hz
      cases e
      obtain ⟨ea, oa⟩ := ha.str
      obtain ⟨eb, ob⟩ := hb.str
      refine .inr (.inl ⟨_, _, ea, eb, by rw [mkS_len, mkS_len, sz_eq]; exact hz, ?_⟩)
      rw [mkS_append]
      exact h _ F H (.val ⟨rfl, okS_append oa ob hz⟩)
    · cases e
  · rename_i xs ys
    split at e
    · rename_i hz
      cases e
      obtain ⟨p, vs, rfl, hp, za, ra⟩ := ha.lst
      obtain ⟨q, ws, rfl, hq, zb, rb⟩ := hb.lst
      refine .inr (.inr (.inl ⟨p, q, vs, ws, rfl, rfl, hp, hq, by rw [ra.length, rb.length, sz_eq]; exact hz, fun l hl => ?_⟩))
      exact h _ _ _ (.newLst tr hl (by rw [List.length_append]; exact hz) (ra.append rb))
    · cases e
  · rename_i xs ys
    split at e
    · rename_i hz
      cases e
      obtain ⟨p, vs, rfl, hp, za, ra⟩ := ha.tup
      obtain ⟨q, ws, rfl, hq, zb, rb⟩ := hb.tup
      have rr : (xs ++ ys).length ≤ SZ := by rw [List.length_append]; exact hz
      refine .inr (.inr (.inr ⟨p, q, vs, ws, rfl, rfl, hp.sq, hq.sq, by rw [ra.length, rb.length, sz_eq]; exact hz, fun z => ?_, fun _ z => ?_, fun _ _ l hl => ?_⟩))
      · have e : xs = [] := List.eq_nil_of_length_eq_zero (by rw [← ra.length, z]; rfl)
        subst e
        exact h _ F H (.val ⟨q, ws, rfl, hq, zb, rb⟩)
      · have e : ys = [] := List.eq_nil_of_length_eq_zero (by rw [← rb.length, z]; rfl)
        subst e
        rw [List.append_nil] at h
        exact h _ F H (.val ⟨p, vs, rfl, hp, za, ra⟩)
      · exact h _ _ _ (.newTup tr hl rr (ra.append rb))
    · cases e
  · cases e

/-! ### the other operators -/
def dSub : D → D → Option R
  | .int i, .int j => some (.d (.int (i - j)))
  | _, _ => none
theorem ops_sub {K : PySem.W.Frag} : OpS K (rI0 fun i j => .int (i - j)) dSub := by
  intro F H x y a b r Q tr ha hb e h
  unfold dSub at e
  split at e
  · cases e; exact ⟨_, _, ha.int, hb.int, h _ F H (.val rfl)⟩
  · cases e
def repS (k : Nat) (s : List Nat) : List Nat := (List.replicate k s).flatten
def dMul : D → D → Option R
  | .int i, .int j => if i.natAbs < 2 ^ 64 ∨ j.natAbs < 2 ^ 64 then some (.d (.int (i * j))) else none
  | .lst xs, .int k => if k.natAbs < 2 ^ 63 ∧ xs.length * k.toNat ≤ SZ then some (.fr (List.replicate k.toNat xs).flatten) else none
  | .str s, .int k => if 0 ≤ k ∧ k ≤ 1000 ∧ s.length ≤ 1000 then some (.d (.str (repS k.toNat s))) else none
  | .tup xs, .int k => if xs ≠ [] ∧ 2 ≤ k ∧ k ≤ 1000 ∧ xs.length ≤ 1000 then some (.d (.tup (List.replicate k.toNat xs).flatten)) else none
  | _, _ => none
theorem RepL.rep {K F H} {ds : List D} {vs : List V} (h : RepL K F H ds vs) : ∀ k : Nat, RepL K F H (List.replicate k ds).flatten (List.replicate k vs).flatten
  | 0 => rfl
  | k + 1 => by rw [List.replicate_succ, List.replicate_succ, List.flatten_cons, List.flatten_cons]; exact h.append (h.rep k)
theorem len_rep {α : Type} (xs : List α) (k : Nat) : (List.replicate k xs).flatten.length = xs.length * k := by
  induction k with
  | zero => rfl
  | succ k ih => rw [List.replicate_succ, List.flatten_cons, List.length_append, ih, Nat.mul_succ, Nat.add_comm]
def rRepS : R2 := fun x y H Q => ∃ s k, x = .str (mkS s) ∧ y = .int k ∧ 0 ≤ k ∧ k ≤ 1000 ∧ s.length ≤ 1000 ∧ Q (.str (mkS (repS k.toNat s))) H
theorem fold_rep (z : Array Nat) : ∀ (k : Nat) (acc : Array Nat), (List.replicate k z).foldl (· ++ ·) acc = acc ++ ((List.replicate k z.toList).flatten).toArray
  | 0, acc => by simp
  | k + 1, acc => by
    rw [List.replicate_succ, List.foldl_cons, fold_rep z k, List.replicate_succ, List.flatten_cons]
    apply Array.toList_inj.mp
    simp
theorem op_repS {X : Cx} : OpR X (binaryOp .Mult) rRepS := by
  intro pins s σ H x y v u Q I rx ry ⟨z, k, e1, e2, h0, h1, h2, q⟩
  subst e1 e2
  obtain ⟨t, rfl⟩ := rx
  obtain ⟨t', rfl⟩ := ry
  have lz : (mkS z).length = z.length := mkS_len z
  have big : z.length * k.toNat ≤ 1000 * 1000 := Nat.mul_le_mul h2 (by omega)
  have lng : ∀ n, n ≤ 1000000 → PySem.Builtin.Str.tooLong n = false := fun n hn => by
    unfold PySem.Builtin.Str.tooLong
    simp
    rw [sizeLine_eq]
    omega
  refine PySem.P.mul_str ?_ (fun _ _ => ?_) (fun _ _ => ?_) ?_
  · rw [decide_eq_false (show ¬ k < -(2 ^ 63 : Int) by omega), decide_eq_false (show ¬ k ≥ 2 ^ 63 by omega)]; rfl
  · rw [lz]
    intro hgt
    have hk : 0 < k := by omega
    have e3 : (z.length : Int) * k ≤ 2 ^ 63 - 1 := by
      have e4 : k = (k.toNat : Int) := by omega
      have e5 : ((z.length * k.toNat : Nat) : Int) ≤ ((1000 * 1000 : Nat) : Int) := Int.ofNat_le.mpr big
      rw [Int.natCast_mul, ← e4] at e5
      exact Int.le_trans e5 (by decide)
    have e6 := (Int.le_ediv_iff_mul_le hk).mpr e3
    exact absurd hgt (Int.not_lt.mpr e6)
  · rw [lz]; exact lng _ big
  · have el : (repS k.toNat z).length ≤ 1000000 := by
      unfold repS; rw [len_rep]; exact big
    split
    · rename_i hk
      have e : k.toNat = 0 := by omega
      rw [e] at q
      exact ⟨by rw [sizeLine_eq]; decide, ⟨.str (mkS (repS 0 z)), H, I.tok _, ⟨_, rfl⟩, q⟩⟩
    · rename_i hk
      split
      · rename_i hc
        have e : repS k.toNat z = z := by
          rcases Bool.or_eq_true_iff.mp hc with hc | hc
          · have : k = 1 := by simpa using hc
            subst this
            simp [repS]
          · have : z = [] := by
              have : z.length = 0 := by rw [← lz]; simpa using hc
              exact List.eq_nil_of_length_eq_zero this
            subst this
            simp [repS]
        rw [e] at q
        exact ⟨.str (mkS z), H, I, ⟨_, rfl⟩, q⟩
      · have e : (⟨(List.replicate k.toNat (mkS z).cps).foldl (· ++ ·) #[]⟩ : Str) = mkS (repS k.toNat z) := by
          rw [fold_rep]
          simp [mkS, repS]
        rw [e]
        refine ⟨?_, ⟨.str (mkS (repS k.toNat z)), H, I.tok _, ⟨_, rfl⟩, q⟩⟩
        rw [mkS_len, sizeLine_eq]; omega
abbrev rMulAll (K : PySem.W.Frag) : R2 := fun x y H Q => rI CMul (fun i j => .int (i * j)) x y H Q ∨ (fun x y H Q => rRep x y H Q ∨ (fun x y H Q => rRepT K x y H Q ∨ rRepS x y H Q) x y H Q) x y H Q
theorem opr_mul {X : Cx} : OpR X (binaryOp .Mult) (rMulAll X.K) := op_mul.or (op_rep.or (op_repT.or op_repS))
theorem repS_mem {k : Nat} {s : List Nat} {c : Nat} (h : c ∈ repS k s) : c ∈ s := by
  obtain ⟨l, hl, hc⟩ := List.mem_flatten.mp h
  rw [List.eq_of_mem_replicate hl] at hc; exact hc
theorem natAbs_64 {i : Int} (h : i.natAbs < 2 ^ 64) : -(2 ^ 64) < i ∧ i < 2 ^ 64 := by omega
theorem ops_mul {K : PySem.W.Frag} : OpS K (rMulAll K) dMul := by
  intro F H x y a b r Q tr ha hb e h
  unfold dMul at e
  split at e
  · split at e
    · rename_i hc
      cases e
      exact .inl ⟨_, _, ha.int, hb.int, hc.imp natAbs_64 natAbs_64, h _ F H (.val rfl)⟩
    · cases e
  · rename_i xs k
    split at e
    · rename_i hc
      obtain ⟨h12, h3⟩ := hc
      have h1 : -(2 ^ 63) ≤ k := by omega
      have h2 : k < 2 ^ 63 := by omega
      cases e
      obtain ⟨p, vs, rfl, hp, za, ra⟩ := ha.lst
      refine .inr (.inl ⟨p, k, vs, rfl, hb.int, hp, h1, h2, by rw [ra.length, sz_eq]; exact h3, fun l hl => ?_⟩)
      exact h _ _ _ (.newLst tr hl (by rw [len_rep]; exact h3) (ra.rep _))
    · cases e
  · rename_i s k
    split at e
    · rename_i hc
      obtain ⟨h1, h2, h3⟩ := hc
      cases e
      obtain ⟨es, os⟩ := ha.str
      refine .inr (.inr (.inr ⟨s, k, es, hb.int, h1, h2, h3, h _ F H (.val ⟨rfl, okS_mk ?_ fun c hc => okS_lt os c (repS_mem hc)⟩)⟩))
      unfold repS; rw [len_rep]
      exact Nat.le_trans (Nat.mul_le_mul h3 (show k.toNat ≤ 1000 by omega)) (by decide)
    · cases e
  · rename_i xs k
    split at e
    · rename_i hc
      obtain ⟨h0, h1, h2, h3⟩ := hc
      cases e
      obtain ⟨p, vs, rfl, hp, za, ra⟩ := ha.tup
      refine .inr (.inr (.inl ⟨p, k, vs, rfl, hb.int, hp.sq, ?_, h1, h2, by rw [ra.length]; exact h3, fun l hl => ?_⟩))
      · intro z
        exact h0 (List.eq_nil_of_length_eq_zero (by rw [← ra.length, z]; rfl))
      · refine h _ _ _ (.newTup tr hl ?_ (ra.rep _))
        rw [len_rep]
        have h4 : k.toNat ≤ 1000 := by omega
        exact Nat.le_trans (Nat.mul_le_mul h3 h4) (by decide)
    · cases e
  · cases e
def dFdiv : D → D → Option R
  | .int i, .int j => if j ≠ 0 ∧ j.natAbs < 1073741824 then some (.d (.int (i.fdiv j))) else none
  | _, _ => none
theorem ops_fdiv {K : PySem.W.Frag} : OpS K (rI CDivN fun i j => .int (i.fdiv j)) dFdiv := by
  intro F H x y a b r Q tr ha hb e h
  unfold dFdiv at e
  split at e
  · split at e
    · rename_i hc; cases e; exact ⟨_, _, ha.int, hb.int, hc, h _ F H (.val rfl)⟩
    · cases e
  · cases e
def dMod : D → D → Option R
  | .int i, .int j => if j ≠ 0 then some (.d (.int (i.fmod j))) else none
  | _, _ => none
theorem ops_mod {K : PySem.W.Frag} : OpS K (rI (fun _ j => j ≠ 0) fun i j => .int (i.fmod j)) dMod := by
  intro F H x y a b r Q tr ha hb e h
  unfold dMod at e
  split at e
  · split at e
    · rename_i hc; cases e; exact ⟨_, _, ha.int, hb.int, hc, h _ F H (.val rfl)⟩
    · cases e
  · cases e
def dPow : D → D → Option R
  | .int i, .int j => if 0 ≤ j ∧ j.natAbs ≤ 1000000 ∧ i.natAbs < 2 ^ 64 then some (.d (.int (i ^ j.toNat))) else none
  | _, _ => none
theorem ops_pow {K : PySem.W.Frag} : OpS K (rI CPow fun i j => .int (i ^ j.toNat)) dPow := by
  intro F H x y a b r Q tr ha hb e h
  unfold dPow at e
  split at e
  · split at e
    · rename_i hc; cases e; exact ⟨_, _, ha.int, hb.int, ⟨hc.1, by omega, hc.2.2⟩, h _ F H (.val rfl)⟩
    · cases e
  · cases e
def dShl : D → D → Option R
  | .int i, .int j => if 0 ≤ j ∧ j.natAbs ≤ 1000000 ∧ i.natAbs < 2 ^ 64 then some (.d (.int (i * 2 ^ j.toNat))) else none
  | _, _ => none
theorem ops_shl {K : PySem.W.Frag} : OpS K (rI CPow fun i j => .int (i * 2 ^ j.toNat)) dShl := by
  intro F H x y a b r Q tr ha hb e h
  unfold dShl at e
  split at e
  · split at e
    · rename_i hc; cases e; exact ⟨_, _, ha.int, hb.int, ⟨hc.1, by omega, hc.2.2⟩, h _ F H (.val rfl)⟩
    · cases e
  · cases e
def dBand : D → D → Option R
  | .int i, .int j => some (.d (.int (Builtin.bitAnd i j)))
  | _, _ => none
theorem ops_band {K : PySem.W.Frag} : OpS K (rI0 fun i j => .int (Builtin.bitAnd i j)) dBand := by
  intro F H x y a b r Q tr ha hb e h
  unfold dBand at e
  split at e
  · cases e; exact ⟨_, _, ha.int, hb.int, h _ F H (.val rfl)⟩
  · cases e

inductive BOp where
  | add | sub | mul | fdiv | mod | pow | shl | band
  deriving DecidableEq
def BOp.py : BOp → Operator
  | .add => .Add | .sub => .Sub | .mul => .Mult | .fdiv => .FloorDiv | .mod => .Mod | .pow => .Pow | .shl => .LShift | .band => .BitAnd
def BOp.f : BOp → D → D → Option R
  | .add => dAdd | .sub => dSub | .mul => dMul | .fdiv => dFdiv | .mod => dMod | .pow => dPow | .shl => dShl | .band => dBand
theorem BOp.ok {X : Cx} (o : BOp) : ∃ r, OpR X (binaryOp o.py) r ∧ OpS X.K r o.f := by
  cases o with
  | add => exact ⟨_, opr_add, ops_add⟩
  | sub => exact ⟨_, op_sub, ops_sub⟩
  | mul => exact ⟨_, opr_mul, ops_mul⟩
  | fdiv => exact ⟨_, op_fdivN, ops_fdiv⟩
  | mod => exact ⟨_, op_modN, ops_mod⟩
  | pow => exact ⟨_, op_pow, ops_pow⟩
  | shl => exact ⟨_, op_shl, ops_shl⟩
  | band => exact ⟨_, op_and, ops_band⟩

/-! ### comparisons -/
def dEq (a b : D) : Option Bool := if a.eqOk && b.eqOk then some (a.eqb b) else none
theorem opb_eq {K : PySem.W.Frag} : OpB K (rEqD K) dEq := by
  intro F H x y a b r Q tr ha hb e h
  unfold dEq at e
  split at e
  · rename_i hc
    obtain ⟨h1, h2⟩ := Bool.and_eq_true_iff.mp hc
    cases e
    obtain ⟨pa, sa⟩ := ha.eqD h1
    obtain ⟨pb, sb⟩ := hb.eqD h2
    refine ⟨_, _, pa, pb, sa, sb, ?_⟩
    rw [eqb_py a b (Bool.and_eq_true_iff.mp h1).1 (Bool.and_eq_true_iff.mp h2).1]
    exact h
  · cases e
def dNe (a b : D) : Option Bool := if a.eqOk && b.eqOk then some (!a.eqb b) else none
theorem opb_ne {K : PySem.W.Frag} : OpB K (rNeD K) dNe := by
  intro F H x y a b r Q tr ha hb e h
  unfold dNe at e
  split at e
  · rename_i hc
    obtain ⟨h1, h2⟩ := Bool.and_eq_true_iff.mp hc
    cases e
    obtain ⟨pa, sa⟩ := ha.eqD h1
    obtain ⟨pb, sb⟩ := hb.eqD h2
    refine ⟨_, _, pa, pb, sa, sb, ?_⟩
    rw [eqb_py a b (Bool.and_eq_true_iff.mp h1).1 (Bool.and_eq_true_iff.mp h2).1]
    exact h
  · cases e
def dCmpI (p : Int → Int → Bool) : D → D → Option Bool
  | .int i, .int j => some (p i j)
  | _, _ => none
theorem opb_cmpI {K : PySem.W.Frag} (p : Int → Int → Bool) : OpB K (rI0 fun i j => .bl (p i j)) (dCmpI p) := by
  intro F H x y a b r Q tr ha hb e h
  unfold dCmpI at e
  split at e
  · cases e; exact ⟨_, _, ha.int, hb.int, h⟩
  · cases e
def D.isNon : D → Bool
  | .non => true
  | _ => false
/-- is None, is True, is False -/
def dIs : D → D → Option Bool
  | d, .non => some d.isNon
  | .bl a, .bl b => some (decide (a = b))
  | _, _ => none
theorem RepW.isNon {K F H} {d : D} {v : V} (h : RepW K F H d v) : decide (v = .non) = d.isNon := by
  cases d with
  | non => rw [h.non]; rfl
  | bl _ => rw [h.bl]; rfl
  | int _ => rw [h.int]; rfl
  | str _ => rw [h.str.1]; rfl
  | tup _ => obtain ⟨a, _, e, _⟩ := h.tup; rw [e]; rfl
  | lst _ => obtain ⟨a, _, e, _⟩ := h.lst; rw [e]; rfl
  | lk _ => obtain ⟨a, e, _⟩ := h.lk; rw [e]; rfl
abbrev rIsAll : R2 := fun x y H Q => (fun x y H Q => y = V.non ∧ Q (.bl (decide (x = .non))) H) x y H Q ∨ rIsB x y H Q
theorem opr_is {X : Cx} : OpR X (compareOp .Is) rIsAll := op_isN.or op_isBl
theorem opb_is {K : PySem.W.Frag} : OpB K rIsAll dIs := by
  intro F H x y a b r Q tr ha hb e h
  unfold dIs at e
  split at e
  · cases e
    exact .inl ⟨hb.non, by rw [ha.isNon]; exact h⟩
  · cases e
    exact .inr ⟨_, _, ha.bl, hb.bl, h⟩
  · cases e
def dIsnot : D → D → Option Bool
  | d, .non => some (!d.isNon)
  | .bl a, .bl b => some (!decide (a = b))
  | _, _ => none
abbrev rIsnotAll : R2 := fun x y H Q => (fun x y H Q => y = V.non ∧ Q (.bl (!decide (x = .non))) H) x y H Q ∨ rNotB x y H Q
theorem opr_isnot {X : Cx} : OpR X (compareOp .IsNot) rIsnotAll := op_notN.or op_notBl
theorem opb_isnot {K : PySem.W.Frag} : OpB K rIsnotAll dIsnot := by
  intro F H x y a b r Q tr ha hb e h
  unfold dIsnot at e
  split at e
  · cases e
    exact .inl ⟨hb.non, by rw [ha.isNon]; exact h⟩
  · cases e
    exact .inr ⟨_, _, ha.bl, hb.bl, h⟩
  · cases e
end Rm

set_option Elab.async false
set_option linter.all false
set_option maxRecDepth 100000
set_option maxHeartbeats 4000000
/-! R2: membership, places, cuts, built-in functions and methods upon deep values. -/
namespace Rm
open PySem PySem.Spec L2

/-! ### in, not in -/
def dIn (a b : D) : Option Bool :=
  match b with
  | .str t => (match a with | .str [c] => some (decide (c ∈ t)) | _ => none)
  | .tup ys => if a.eqOk && b.eqOk then some (ys.any fun z => z.eqb a) else none
  | .lst ys => if a.eqOk && b.eqOk then some (ys.any fun z => z.eqb a) else none
  | _ => none
def rInP (K : PySem.W.Frag) (g : Bool → Bool) : R2 := fun x y H Q => ∃ dx dys, Dp K H x dx ∧ Dp K H y (.tuple dys) ∧ SeqAt.shaped dx = true ∧ SeqAt.shaped (.tuple dys) = true ∧ Q (.bl (g (dys.any fun z => PyData.eqv z dx))) H
theorem op_inP {X : Cx} (hu : X.A.units + 65 < cLine) : OpR X (compareOp .In) (rInP X.K id) := by
  intro pins s σ H x y v u Q I rx ry ⟨dx, dys, h1, h2, s1, s2, q⟩
  obtain ⟨as', z1⟩ := Dp.reads I dx x v h1 rx
  obtain ⟨bs', z2⟩ := Dp.reads I (.tuple dys) y u h2 ry
  exact SeqAt.in_tuple_reads z2 z1 (SeqAt.canLay_of_shaped s2) (SeqAt.canLay_of_shaped s1) (PyProof.Rows.room_in_shaped s1 hu) ⟨.bl _, H, I, rfl, q⟩
theorem op_notInP {X : Cx} (hu : X.A.units + 65 < cLine) : OpR X (compareOp .NotIn) (rInP X.K not) := by
  intro pins s σ H x y v u Q I rx ry ⟨dx, dys, h1, h2, s1, s2, q⟩
  obtain ⟨as', z1⟩ := Dp.reads I dx x v h1 rx
  obtain ⟨bs', z2⟩ := Dp.reads I (.tuple dys) y u h2 ry
  exact SeqAt.notIn_tuple_reads z2 z1 (SeqAt.canLay_of_shaped s2) (SeqAt.canLay_of_shaped s1) (PyProof.Rows.room_in_shaped s1 hu) ⟨.bl _, H, I, rfl, q⟩
theorem any_py (a : D) (na : a.noLk = true) : ∀ ys : List D, noLks ys = true → ((pys ys).any fun z => PyData.eqv z a.py) = ys.any fun z => z.eqb a
  | [], _ => rfl
  | y :: ys, h => by
    have q := Bool.and_eq_true_iff.mp (show (y.noLk && noLks ys) = true from h)
    rw [pys, List.any_cons, List.any_cons, eqb_py y a q.1 na, any_py a na ys q.2]
def rInS (g : Bool → Bool) : R2 := fun x y H Q => ∃ (c : Nat) (z : Str), x = .str ⟨#[c]⟩ ∧ y = .str z ∧ Q (.bl (g (decide (c ∈ z.cps.toList)))) H
def rInL (K : PySem.W.Frag) (g : Bool → Bool) : R2 := fun x y H Q => ∃ d ds, Dp K H x d ∧ Dp K H y (.list ds) ∧ SeqAt.shaped d = true ∧ SeqAt.shaped (.list ds) = true ∧ Q (.bl (g (ds.any fun z => PyData.eqv z d))) H
abbrev rInAll (K : PySem.W.Frag) (g : Bool → Bool) : R2 := fun x y H Q => rInS g x y H Q ∨ (fun x y H Q => rInP K g x y H Q ∨ rInL K g x y H Q) x y H Q
theorem opr_in {X : Cx} (hu : X.A.units + 65 < cLine) : OpR X (compareOp .In) (rInAll X.K id) := (show OpR X _ (rInS id) from op_in_sign).or ((op_inP hu).or (show OpR X _ (rInL X.K id) from op_inD hu))
theorem opr_notin {X : Cx} (hu : X.A.units + 65 < cLine) : OpR X (compareOp .NotIn) (rInAll X.K not) := (show OpR X _ (rInS not) from op_notIn_sign).or ((op_notInP hu).or (show OpR X _ (rInL X.K not) from op_notInD hu))
theorem opb_in {K : PySem.W.Frag} (g : Bool → Bool) : OpB K (rInAll K g) (fun a b => (dIn a b).map g) := by
  intro F H x y a b r Q tr ha hb e h
  cases b with
  | str t =>
    simp only [dIn] at e
    split at e
    · cases e
      refine .inl ⟨_, _, ha.str.1, hb.str.1, ?_⟩
      exact h
    · cases e
  | tup ys =>
    simp only [dIn] at e
    split at e
    · rename_i hc
      obtain ⟨h1, h2⟩ := Bool.and_eq_true_iff.mp hc
      cases e
      obtain ⟨pa, sa⟩ := ha.eqD h1
      obtain ⟨pb, sb⟩ := hb.eqD h2
      refine .inr (.inl ⟨_, _, pa, pb, sa, sb, ?_⟩)
      rw [any_py a (Bool.and_eq_true_iff.mp h1).1 ys (by simpa [D.noLk] using (Bool.and_eq_true_iff.mp h2).1)]
      exact h
    · cases e
  | lst ys =>
    simp only [dIn] at e
    split at e
    · rename_i hc
      obtain ⟨h1, h2⟩ := Bool.and_eq_true_iff.mp hc
      cases e
      obtain ⟨pa, sa⟩ := ha.eqD h1
      obtain ⟨pb, sb⟩ := hb.eqD h2
      refine .inr (.inr ⟨_, _, pa, pb, sa, sb, ?_⟩)
      rw [any_py a (Bool.and_eq_true_iff.mp h1).1 ys (by simpa [D.noLk] using (Bool.and_eq_true_iff.mp h2).1)]
      exact h
    · cases e
  | _ => cases e

inductive COp where
  | eq | ne | lt | le | gt | ge | is | isnot | isin | notin
  deriving DecidableEq
def COp.py : COp → CmpOp
  | .eq => .Eq | .ne => .NotEq | .lt => .Lt | .le => .LtE | .gt => .Gt | .ge => .GtE | .is => .Is | .isnot => .IsNot | .isin => .In | .notin => .NotIn
/-! order of ints and texts -/
def dLt (a b : D) : Option Bool := match a, b with
  | .int i, .int j => some (decide (i < j))
  | .str s, .str t => some (decide (s < t))
  | _, _ => none
def dLe (a b : D) : Option Bool := match a, b with
  | .int i, .int j => some (decide (i ≤ j))
  | .str s, .str t => some (!decide (t < s))
  | _, _ => none
abbrev rLtS : R2 := fun x y H Q => ∃ i j, x = .str i ∧ y = .str j ∧ Q (.bl (decide (i.cps.toList < j.cps.toList))) H
abbrev rGtS : R2 := fun x y H Q => ∃ i j, x = .str i ∧ y = .str j ∧ Q (.bl (decide (j.cps.toList < i.cps.toList))) H
abbrev rLeS : R2 := fun x y H Q => ∃ i j, x = .str i ∧ y = .str j ∧ Q (.bl (!decide (j.cps.toList < i.cps.toList))) H
abbrev rGeS : R2 := fun x y H Q => ∃ i j, x = .str i ∧ y = .str j ∧ Q (.bl (!decide (i.cps.toList < j.cps.toList))) H
theorem opb_lt {K : PySem.W.Frag} : OpB K (fun x y H Q => rI0 (fun i j => .bl (decide (i < j))) x y H Q ∨ rLtS x y H Q) dLt := by
  intro F H x y a b r Q tr ha hb e h
  unfold dLt at e
  split at e
  · cases e; exact .inl ⟨_, _, ha.int, hb.int, h⟩
  · cases e; exact .inr ⟨_, _, ha.str.1, hb.str.1, h⟩
  · cases e
theorem opb_gt {K : PySem.W.Frag} : OpB K (fun x y H Q => rI0 (fun i j => .bl (decide (j < i))) x y H Q ∨ rGtS x y H Q) (fun a b => dLt b a) := by
  intro F H x y a b r Q tr ha hb e h
  replace e : dLt b a = some r := e
  unfold dLt at e
  split at e
  · cases e; exact .inl ⟨_, _, ha.int, hb.int, h⟩
  · cases e; exact .inr ⟨_, _, ha.str.1, hb.str.1, h⟩
  · cases e
theorem opb_le {K : PySem.W.Frag} : OpB K (fun x y H Q => rI0 (fun i j => .bl (decide (i ≤ j))) x y H Q ∨ rLeS x y H Q) dLe := by
  intro F H x y a b r Q tr ha hb e h
  unfold dLe at e
  split at e
  · cases e; exact .inl ⟨_, _, ha.int, hb.int, h⟩
  · cases e; exact .inr ⟨_, _, ha.str.1, hb.str.1, h⟩
  · cases e
theorem opb_ge {K : PySem.W.Frag} : OpB K (fun x y H Q => rI0 (fun i j => .bl (decide (j ≤ i))) x y H Q ∨ rGeS x y H Q) (fun a b => dLe b a) := by
  intro F H x y a b r Q tr ha hb e h
  replace e : dLe b a = some r := e
  unfold dLe at e
  split at e
  · cases e; exact .inl ⟨_, _, ha.int, hb.int, h⟩
  · cases e; exact .inr ⟨_, _, ha.str.1, hb.str.1, h⟩
  · cases e
def COp.f : COp → D → D → Option Bool
  | .eq => dEq | .ne => dNe
  | .lt => dLt
  | .le => dLe
  | .gt => fun a b => dLt b a
  | .ge => fun a b => dLe b a
  | .is => dIs | .isnot => dIsnot
  | .isin => fun a b => (dIn a b).map id
  | .notin => fun a b => (dIn a b).map not
theorem COp.ok {X : Cx} (hu : X.A.units + 65 < cLine) (o : COp) : ∃ r, OpR X (compareOp o.py) r ∧ OpB X.K r o.f := by
  cases o with
  | eq => exact ⟨_, op_eqD (by omega), opb_eq⟩
  | ne => exact ⟨_, op_neD (by omega), opb_ne⟩
  | lt => exact ⟨_, op_lt.or op_lt_str, opb_lt⟩
  | le => exact ⟨_, op_le.or op_le_str, opb_le⟩
  | gt => exact ⟨_, op_gt.or op_gt_str, opb_gt⟩
  | ge => exact ⟨_, op_ge.or op_ge_str, opb_ge⟩
  | is => exact ⟨_, opr_is, opb_is⟩
  | isnot => exact ⟨_, opr_isnot, opb_isnot⟩
  | isin => exact ⟨_, opr_in hu, opb_in id⟩
  | notin => exact ⟨_, opr_notin hu, opb_in not⟩

/-! ### a place -/
def dIdx (a b : D) : Option D := match a, b with
  | .str s, .int i => (atI s i).map fun c => .str [c]
  | .tup xs, .int i => atI xs i
  | .lst xs, .int i => atI xs i
  | .lk ns, .int i => (atI ns i).map .int
  | _, _ => none
theorem ixN_lt {n : Nat} {i : Int} {j : Nat} (h : ixN n i = some j) : j < n := (ixN_seq h).2.1
theorem atI_mem {α : Type} {xs : List α} {i : Int} {v : α} (h : atI xs i = some v) : v ∈ xs := by
  obtain ⟨j, _, h2, _⟩ := atI_get h
  exact List.mem_of_getElem? h2
theorem atI_rep {K F H} {ds : List D} {vs : List V} {i : Int} {d : D} (r : RepL K F H ds vs) (h : atI ds i = some d) : ∃ v, atI vs i = some v ∧ Rep K F H d v := by
  unfold atI at h ⊢
  rw [r.length]
  cases e : ixN ds.length i with
  | none => rw [e] at h; cases h
  | some j =>
    rw [e] at h
    obtain ⟨v, h1, h2⟩ := r.get (show ds[j]? = some d from h)
    exact ⟨v, h1, h2⟩
theorem ops_idx {K : PySem.W.Frag} : OpS K (rIx K) (fun a b => (dIdx a b).map .d) := by
  intro F H x y a b r Q tr ha hb e0 h
  obtain ⟨d, e, rfl⟩ := Option.map_eq_some_iff.mp e0
  clear e0
  have seq : ∀ {ds : List D} {i : Int}, a.seq? = some ds → b = .int i → atI ds i = some d → rIx K x y H Q := fun {ds i} e1 e2 e3 => by
    subst e2
    obtain ⟨p, vs, rfl, sq, _, rl⟩ := ha.seq e1
    obtain ⟨v, h1, h2⟩ := atI_rep rl e3
    rcases sq with sq | sq
    · exact .inl ⟨p, vs, i, v, rfl, hb.int, sq, h1, h v F H (.val h2)⟩
    · exact .inr (.inl ⟨p, vs, i, v, rfl, hb.int, sq, h1, h v F H (.val h2)⟩)
  unfold dIdx at e
  split at e
  · rename_i s i
    obtain ⟨c, e1, rfl⟩ := Option.map_eq_some_iff.mp e
    obtain ⟨es, os⟩ := ha.str
    refine .inr (.inr ⟨_, i, c, es, hb.int, by rw [mkS_len, sz_eq]; exact okS_len os, e1, ?_⟩)
    refine h _ F H (.val ⟨rfl, okS_sub os (t := [c]) ?_ fun z hz => ?_⟩)
    · exact Nat.succ_le_of_lt (List.length_pos_of_mem (atI_mem e1))
    · rw [List.mem_singleton.mp hz]; exact atI_mem e1
  · exact seq rfl rfl e
  · exact seq rfl rfl e
  · rename_i ns i
    refine seq rfl rfl ?_
    obtain ⟨n, e1, rfl⟩ := Option.map_eq_some_iff.mp e
    unfold atI at e1 ⊢
    rw [List.length_map]
    cases q : ixN ns.length i with
    | none => rw [q] at e1; cases e1
    | some j =>
      rw [q] at e1
      show (ns.map D.int)[j]? = some (.int n)
      rw [List.getElem?_map, show ns[j]? = some n from e1]; rfl
  · cases e

/-! ### a cut -/
def cutL {α : Type} (xs : List α) (lo hi : Option Int) : List α := (xs.drop (HT.sIx xs.length 0 lo)).take (HT.sIx xs.length xs.length hi - HT.sIx xs.length 0 lo)
def dSli (a : D) (lo hi : Option Int) : Option R := match a with
  | .str s => some (.d (.str (cutL s lo hi)))
  | .tup xs => some (.d (.tup (cutL xs lo hi)))
  | .lst xs => some (.fr (cutL xs lo hi))
  | .lk ns => some (.fr ((cutL ns lo hi).map .int))
  | _ => none
theorem cutL_len {α : Type} (xs : List α) (lo hi : Option Int) : (cutL xs lo hi).length ≤ xs.length := by
  unfold cutL
  rw [List.length_take, List.length_drop]
  omega
theorem cutL_mem {α : Type} {xs : List α} {lo hi : Option Int} {x : α} (h : x ∈ cutL xs lo hi) : x ∈ xs := List.mem_of_mem_drop (List.mem_of_mem_take h)
theorem cutL_map {α β : Type} (f : α → β) (xs : List α) (lo hi : Option Int) : cutL (xs.map f) lo hi = (cutL xs lo hi).map f := by
  unfold cutL
  rw [List.length_map, List.map_take, List.map_drop]
theorem cutV_eq (vs : List V) (lo hi : Option Int) : cutV vs lo hi = cutL vs lo hi := rfl
theorem RepL.cut {K F H} {ds : List D} {vs : List V} (r : RepL K F H ds vs) (lo hi : Option Int) : RepL K F H (cutL ds lo hi) (cutV vs lo hi) := by
  unfold cutL cutV
  rw [r.length]
  exact (r.drop _).take _
abbrev rSlAll (K : PySem.W.Frag) : V → Option Int → Option Int → Hp → VK → Prop := fun x lo hi H Q => rSlL K x lo hi H Q ∨ (fun x lo hi H Q => rSlA K x lo hi H Q ∨ rSlS x lo hi H Q) x lo hi H Q
theorem sl_all {X : Cx} : SlR X (rSlAll X.K) := sl_list.or (sl_tupA.or sl_str)
theorem sl_ok {K : PySem.W.Frag} {F : Fz} {H : Hp} {x : V} {a : D} {lo hi : Option Int} {r : R} {Q : VK} (tr : Trk F H) (ha : RepW K F H a x) (e : dSli a lo hi = some r) (h : ∀ v F' H', PRes K F H r v F' H' → Q v H') : rSlAll K x lo hi H Q := by
  unfold dSli at e
  split at e
  · rename_i s
    cases e
    obtain ⟨es, os⟩ := ha.str
    refine .inr (.inr ⟨_, es, by rw [mkS_len, sz_eq]; exact okS_len os, ?_⟩)
    have ec : cutS (mkS s) lo hi = mkS (cutL s lo hi) := by
      unfold cutS cutL
      rw [mkS_len]; rfl
    rw [ec]
    exact h _ F H (.val ⟨rfl, okS_sub os (cutL_len _ _ _) fun c hc => cutL_mem hc⟩)
  · rename_i xs
    cases e
    obtain ⟨p, vs, rfl, tp, z, rl⟩ := ha.tup
    refine .inr (.inl ⟨p, vs, rfl, tp.sq, fun c => ?_, fun _ l hl => ?_⟩)
    · have : cutL xs lo hi = xs := by
        unfold cutL
        rw [← rl.length, c.1, c.2, List.drop_zero, Nat.sub_zero, rl.length]
        exact List.take_length
      rw [this] at h
      exact h _ F H (.val ⟨p, vs, rfl, tp, z, rl⟩)
    · exact h _ _ _ (.newTup tr hl (Nat.le_trans (cutL_len _ _ _) z) (rl.cut lo hi))
  · rename_i xs
    cases e
    obtain ⟨p, vs, rfl, tp, z, rl⟩ := ha.lst
    exact .inl ⟨p, vs, rfl, SqL.of tp, fun l hl => h _ _ _ (.newLst tr hl (Nat.le_trans (cutL_len _ _ _) z) (rl.cut lo hi))⟩
  · rename_i ns
    cases e
    obtain ⟨p, rfl, sq, z⟩ := ha.lk
    have sq := sq.sq
    refine .inl ⟨p, _, rfl, sq, fun l hl => ?_⟩
    have rl : RepL K F H ((cutL ns lo hi).map .int) (cutV (ns.map V.int) lo hi) := by
      rw [← cutL_map]
      exact (repL_ints ns).cut lo hi
    exact h _ _ _ (.newLst tr hl (by rw [List.length_map]; exact Nat.le_trans (cutL_len _ _ _) z) rl)
  · cases e

/-! ### built-in functions -/
inductive RepWs (K : PySem.W.Frag) (F : Fz) (H : Hp) : List D → List V → Prop
  | nil : RepWs K F H [] []
  | cons {d v ds vs} : RepW K F H d v → RepWs K F H ds vs → RepWs K F H (d :: ds) (v :: vs)
def FnS (K : PySem.W.Frag) (rule : List V → Hp → VK → Prop) (f : List D → Option R) : Prop := ∀ (F : Fz) (H : Hp) (xs : List V) (as : List D) (r : R) (Q : VK), Trk F H → RepWs K F H as xs → f as = some r →
  (∀ v F' H', PRes K F H r v F' H' → Q v H') → rule xs H Q
section
variable {K : PySem.W.Frag}
def dLen : D → Option Nat
  | .str s => some s.length
  | .tup xs => some xs.length
  | .lst xs => some xs.length
  | .lk ns => some ns.length
  | _ => none
def fLen : List D → Option R
  | [a] => (dLen a).map fun (n : Nat) => R.d (.int (n : Int))
  | _ => none
theorem fn_len : FnS K (fun xs H Q => ∃ x n, xs = [x] ∧ LenV K x H n ∧ Q (.int n) H) fLen := by
  intro F H xs as r Q tr ha e h
  unfold fLen at e
  split at e
  · rename_i a
    obtain ⟨n, e1, rfl⟩ := Option.map_eq_some_iff.mp e
    cases ha with
    | cons hx hr =>
      rename_i x _
      cases hr
      refine ⟨x, n, rfl, ?_, h _ F H (.val rfl)⟩
      unfold dLen at e1
      split at e1
      · cases e1
        obtain ⟨rfl, o⟩ := hx.str
        exact ⟨by rw [mkS_len, sz_eq]; exact okS_len o, (mkS_len _).symm⟩
      · cases e1
        obtain ⟨p, vs, rfl, t, _, rl⟩ := hx.tup
        exact .inr ⟨vs, t.sq, rl.length.symm⟩
      · cases e1
        obtain ⟨p, vs, rfl, t, _, rl⟩ := hx.lst
        exact .inl ⟨vs, SqL.of t, rl.length.symm⟩
      · cases e1
        obtain ⟨p, rfl, t, _⟩ := hx.lk
        have t := t.sq
        exact .inl ⟨_, t, by rw [List.length_map]⟩
      · cases e1
  · cases e
def digs (s : List Nat) : Bool := s.all fun c => decide (48 ≤ c) && decide (c ≤ 57)
def fInt : List D → Option R
  | [.int i] => some (.d (.int i))
  | [.bl k] => some (.d (.int (if k then 1 else 0)))
  | [.str s] => if digs s = true ∧ s ≠ [] ∧ s.length ≤ 640 then some (.d (.int (NumText.digitsVal s : Nat))) else none
  | _ => none
abbrev rIntAll : List V → Hp → VK → Prop := fun xs H Q => ((∃ i, xs = [.int i] ∧ Q (.int i) H) ∨ ∃ k, xs = [.bl k] ∧ Q (.int (if k then 1 else 0)) H) ∨ ∃ a n, xs = [.str a] ∧ PySem.intText? a = some n ∧ a.length ≤ 640 ∧ Q (.int n) H
theorem cr_int {X : Cx} : CallR X (.type "int") rIntAll := call_int1.or call_int_str
theorem fn_int : FnS K rIntAll fInt := by
  intro F H xs as r Q tr ha e h
  unfold fInt at e
  split at e
  · cases e
    cases ha with | cons hx hr => cases hr; exact .inl (.inl ⟨_, by rw [hx.int], h _ F H (.val rfl)⟩)
  · cases e
    cases ha with | cons hx hr => cases hr; exact .inl (.inr ⟨_, by rw [hx.bl], h _ F H (.val rfl)⟩)
  · split at e
    · rename_i s hc
      cases e
      cases ha with
      | cons hx hr =>
        cases hr
        exact .inr ⟨mkS s, _, by rw [hx.str.1], SX.int_S hc.1 hc.2.1 (by omega), by rw [mkS_len]; exact hc.2.2, h _ F H (.val rfl)⟩
    · cases e
  · cases e
def strInt (i : Int) : List Nat := (PySem.Str.ofString (toString i)).cps.toList
def fStr : List D → Option R
  | [.int i] => if i.natAbs.log2 < 1920 ∧ okS (strInt i) = true then some (.d (.str (strInt i))) else none
  | _ => none
theorem fn_str : FnS K (fun xs H Q => ∃ i, xs = [.int i] ∧ i.natAbs.log2 < 1920 ∧ Q (.str (toString i)) H) fStr := by
  intro F H xs as r Q tr ha e h
  unfold fStr at e
  split at e
  · split at e
    · rename_i i hc
      cases e
      cases ha with
      | cons hx hr =>
        cases hr
        refine ⟨i, by rw [hx.int], hc.1, ?_⟩
        have : mkS (strInt i) = PySem.Str.ofString (toString i) := mkS_eta _
        have h2 := h (.str (mkS (strInt i))) F H (.val ⟨rfl, hc.2⟩)
        rw [this] at h2
        exact h2
    · cases e
  · cases e
def fAbs : List D → Option R
  | [.int i] => some (.d (.int (if i < 0 then -i else i)))
  | _ => none
theorem fn_abs : FnS K (fun xs H Q => ∃ i, xs = [.int i] ∧ Q (.int (if i < 0 then -i else i)) H) fAbs := by
  intro F H xs as r Q tr ha e h
  unfold fAbs at e
  split at e
  · cases e
    cases ha with | cons hx hr => cases hr; exact ⟨_, by rw [hx.int], h _ F H (.val rfl)⟩
  · cases e
def fDivmod : List D → Option R
  | [.int i, .int j] => if 0 < j ∧ j.natAbs < 1073741824 then some (.d (.tup [.int (i / j), .int (i % j)])) else none
  | _ => none
theorem fn_divmod : FnS K (fun xs H Q => ∃ i j, xs = [.int i, .int j] ∧ CDiv i j ∧ ∀ p, H p = none → Q (.ref p) (upd H p (.tup [.int (i / j), .int (i % j)]))) fDivmod := by
  intro F H xs as r Q tr ha e h
  unfold fDivmod at e
  split at e
  · split at e
    · rename_i i j hc
      cases e
      cases ha with
      | cons hx hr =>
        cases hr with
        | cons hy hr =>
          cases hr
          exact ⟨i, j, by rw [hx.int, hy.int], ⟨hc.1, by omega⟩, fun p hp => h _ _ _ (.newTup tr hp (by show 2 ≤ SZ; decide) ⟨_, _, rfl, rfl, _, _, rfl, rfl, rfl⟩)⟩
    · cases e
  · cases e
/-- a row of ints, of truth values -/
def intsOf : List D → Option (List Int)
  | [] => some []
  | .int i :: r => (intsOf r).map (i :: ·)
  | _ :: _ => none
theorem intsOf_eq : ∀ {ds : List D} {ns : List Int}, intsOf ds = some ns → ds = ns.map .int
  | [], _, h => by cases h; rfl
  | .int i :: r, _, h => by
    obtain ⟨m, e, rfl⟩ := Option.map_eq_some_iff.mp (show (intsOf r).map (i :: ·) = _ from h)
    rw [intsOf_eq e]; rfl
  | .non :: _, _, h => by cases h
  | .bl _ :: _, _, h => by cases h
  | .str _ :: _, _, h => by cases h
  | .tup _ :: _, _, h => by cases h
  | .lst _ :: _, _, h => by cases h
  | .lk _ :: _, _, h => by cases h
theorem intsOf_map : ∀ ns : List Int, intsOf (ns.map .int) = some ns
  | [] => rfl
  | n :: ns => by show (intsOf (ns.map .int)).map (n :: ·) = _; rw [intsOf_map ns]; rfl
def blsOf : List D → Option (List Bool)
  | [] => some []
  | .bl i :: r => (blsOf r).map (i :: ·)
  | _ :: _ => none
theorem blsOf_eq : ∀ {ds : List D} {ns : List Bool}, blsOf ds = some ns → ds = ns.map .bl
  | [], _, h => by cases h; rfl
  | .bl i :: r, _, h => by
    obtain ⟨m, e, rfl⟩ := Option.map_eq_some_iff.mp (show (blsOf r).map (i :: ·) = _ from h)
    rw [blsOf_eq e]; rfl
  | .non :: _, _, h => by cases h
  | .int _ :: _, _, h => by cases h
  | .str _ :: _, _, h => by cases h
  | .tup _ :: _, _, h => by cases h
  | .lst _ :: _, _, h => by cases h
  | .lk _ :: _, _, h => by cases h
theorem blsOf_map : ∀ ns : List Bool, blsOf (ns.map .bl) = some ns
  | [] => rfl
  | n :: ns => by show (blsOf (ns.map .bl)).map (n :: ·) = _; rw [blsOf_map ns]; rfl
def strsOf : List D → Option (List (List Nat))
  | [] => some []
  | .str i :: r => (strsOf r).map (i :: ·)
  | _ :: _ => none
theorem strsOf_eq : ∀ {ds : List D} {ns : List (List Nat)}, strsOf ds = some ns → ds = ns.map .str
  | [], _, h => by cases h; rfl
  | .str i :: r, _, h => by
    obtain ⟨m, e, rfl⟩ := Option.map_eq_some_iff.mp (show (strsOf r).map (i :: ·) = _ from h)
    rw [strsOf_eq e]; rfl
  | .non :: _, _, h => by cases h
  | .int _ :: _, _, h => by cases h
  | .bl _ :: _, _, h => by cases h
  | .tup _ :: _, _, h => by cases h
  | .lst _ :: _, _, h => by cases h
  | .lk _ :: _, _, h => by cases h
theorem strsOf_map : ∀ ns : List (List Nat), strsOf (ns.map .str) = some ns
  | [] => rfl
  | n :: ns => by show (strsOf (ns.map .str)).map (n :: ·) = _; rw [strsOf_map ns]; rfl
/-- a list that is read: its elements -/
def D.lst? : D → Option (List D)
  | .lst xs => some xs
  | .lk ns => some (ns.map .int)
  | _ => none
theorem RepW.lstq {F H} {d : D} {ds : List D} {v : V} (h : RepW K F H d v) (e : d.lst? = some ds) : ∃ a vs, v = .ref a ∧ SqL K H a vs ∧ ds.length ≤ SZ ∧ RepL K F H ds vs := by
  cases d with
  | lst xs => cases e; obtain ⟨a, vs, e, t, z, r⟩ := h.lst; exact ⟨a, vs, e, SqL.of t, z, r⟩
  | lk ns => cases e; obtain ⟨a, e, t, z⟩ := h.lk; exact ⟨a, _, e, t.sq, by simpa using z, repL_ints ns⟩
  | _ => cases e
def fSum : List D → Option R
  | [d] => (d.lst?.bind intsOf).map fun ns => .d (.int ns.sum)
  | _ => none
theorem fn_sum : FnS K (rSum K) fSum := by
  intro F H xs as r Q tr ha e h
  unfold fSum at e
  split at e
  · obtain ⟨ns, e1, rfl⟩ := Option.map_eq_some_iff.mp e
    obtain ⟨ds, e2, e3⟩ := Option.bind_eq_some_iff.mp e1
    cases ha with
    | cons hx hr =>
      cases hr
      obtain ⟨a, vs, rfl, sq, _, rl⟩ := hx.lstq e2
      rw [intsOf_eq e3] at rl
      rw [rl.ints] at sq
      exact ⟨a, ns, rfl, sq, h _ F H (.val rfl)⟩
  · cases e
def fAll : List D → Option R
  | [d] => (d.lst?.bind blsOf).map fun ns => .d (.bl (ns.all id))
  | _ => none
theorem fn_all : FnS K (rAll K) fAll := by
  intro F H xs as r Q tr ha e h
  unfold fAll at e
  split at e
  · obtain ⟨ns, e1, rfl⟩ := Option.map_eq_some_iff.mp e
    obtain ⟨ds, e2, e3⟩ := Option.bind_eq_some_iff.mp e1
    cases ha with
    | cons hx hr =>
      cases hr
      obtain ⟨a, vs, rfl, sq, _, rl⟩ := hx.lstq e2
      rw [blsOf_eq e3] at rl
      rw [rl.bls] at sq
      exact ⟨a, ns, rfl, sq, h _ F H (.val rfl)⟩
  · cases e
def fAny : List D → Option R
  | [d] => (d.lst?.bind blsOf).map fun ns => .d (.bl (ns.any id))
  | _ => none
theorem fn_any : FnS K (rAny K) fAny := by
  intro F H xs as r Q tr ha e h
  unfold fAny at e
  split at e
  · obtain ⟨ns, e1, rfl⟩ := Option.map_eq_some_iff.mp e
    obtain ⟨ds, e2, e3⟩ := Option.bind_eq_some_iff.mp e1
    cases ha with
    | cons hx hr =>
      cases hr
      obtain ⟨a, vs, rfl, sq, _, rl⟩ := hx.lstq e2
      rw [blsOf_eq e3] at rl
      rw [rl.bls] at sq
      exact ⟨a, ns, rfl, sq, h _ F H (.val rfl)⟩
  · cases e
def lMax : Int → List Int → Int
  | m, [] => m
  | m, n :: r => lMax (if m < n then n else m) r
theorem lMax_ge : ∀ (l : List Int) (m : Int), m ≤ lMax m l ∧ ∀ y ∈ l, y ≤ lMax m l
  | [], m => ⟨Int.le_refl _, by simp⟩
  | n :: r, m => by
    obtain ⟨h1, h2⟩ := lMax_ge r (if m < n then n else m)
    simp only [lMax]
    split at h1 <;> rename_i hc <;> simp only [hc, if_true, if_false] at h2 ⊢
    all_goals refine ⟨by omega, fun y hy => ?_⟩
    all_goals rcases List.mem_cons.mp hy with rfl | hy
    all_goals first | omega | exact h2 y hy
theorem lMax_mem : ∀ (l : List Int) (m : Int), lMax m l ∈ m :: l
  | [], m => by simp [lMax]
  | n :: r, m => by
    have h := lMax_mem r (if m < n then n else m)
    simp only [lMax]
    split at h <;> rename_i hc <;> simp only [hc, if_true, if_false] at h ⊢
    all_goals rcases List.mem_cons.mp h with e | e
    all_goals first | (rw [e]; simp) | (simp [e])
def lMin : Int → List Int → Int
  | m, [] => m
  | m, n :: r => lMin (if n < m then n else m) r
theorem lMin_le : ∀ (l : List Int) (m : Int), lMin m l ≤ m ∧ ∀ y ∈ l, lMin m l ≤ y
  | [], m => ⟨Int.le_refl _, by simp⟩
  | n :: r, m => by
    obtain ⟨h1, h2⟩ := lMin_le r (if n < m then n else m)
    simp only [lMin]
    split at h1 <;> rename_i hc <;> simp only [hc, if_true, if_false] at h2 ⊢
    all_goals refine ⟨by omega, fun y hy => ?_⟩
    all_goals rcases List.mem_cons.mp hy with rfl | hy
    all_goals first | omega | exact h2 y hy
theorem lMin_mem : ∀ (l : List Int) (m : Int), lMin m l ∈ m :: l
  | [], m => by simp [lMin]
  | n :: r, m => by
    have h := lMin_mem r (if n < m then n else m)
    simp only [lMin]
    split at h <;> rename_i hc <;> simp only [hc, if_true, if_false] at h ⊢
    all_goals rcases List.mem_cons.mp h with e | e
    all_goals first | (rw [e]; simp) | (simp [e])
def fMax : List D → Option R
  | [.int i, .int j] => some (.d (.int (if j > i then j else i)))
  | [d] => (d.lst?.bind intsOf).bind fun ns => match ns with | [] => none | n :: r => some (.d (.int (lMax n r)))
  | _ => none
abbrev rMaxAll (K : PySem.W.Frag) : List V → Hp → VK → Prop := fun xs H Q => (∃ i j, xs = [.int i, .int j] ∧ Q (.int (if j > i then j else i)) H) ∨ rMax K xs H Q
theorem fn_max : FnS K (rMaxAll K) fMax := by
  intro F H xs as r Q tr ha e h
  unfold fMax at e
  split at e
  · cases e
    cases ha with
    | cons hx hr =>
      cases hr with
      | cons hy hr =>
        cases hr
        exact .inl ⟨_, _, by rw [hx.int, hy.int], h _ F H (.val rfl)⟩
  · obtain ⟨ns, e1, e4⟩ := Option.bind_eq_some_iff.mp e
    obtain ⟨ds, e2, e3⟩ := Option.bind_eq_some_iff.mp e1
    cases ha with
    | cons hx hr =>
      cases hr
      obtain ⟨a, vs, rfl, sq, _, rl⟩ := hx.lstq e2
      rw [intsOf_eq e3] at rl
      rw [rl.ints] at sq
      cases ns with
      | nil => cases e4
      | cons n ns =>
        cases e4
        refine .inr ⟨a, n :: ns, rfl, sq, Nat.succ_pos _, fun m hm hle => ?_⟩
        have e : m = lMax n ns := by
          obtain ⟨g1, g2⟩ := lMax_ge ns n
          have g3 := hle _ (lMax_mem ns n)
          rcases List.mem_cons.mp hm with rfl | hm
          · omega
          · have := g2 m hm; omega
        rw [e]
        exact h _ F H (.val rfl)
  · cases e
def fMin : List D → Option R
  | [.int i, .int j] => some (.d (.int (if j < i then j else i)))
  | [d] => (d.lst?.bind intsOf).bind fun ns => match ns with | [] => none | n :: r => some (.d (.int (lMin n r)))
  | _ => none
abbrev rMinAll (K : PySem.W.Frag) : List V → Hp → VK → Prop := fun xs H Q => (∃ i j, xs = [.int i, .int j] ∧ Q (.int (if j < i then j else i)) H) ∨ rMin K xs H Q
theorem fn_min : FnS K (rMinAll K) fMin := by
  intro F H xs as r Q tr ha e h
  unfold fMin at e
  split at e
  · cases e
    cases ha with
    | cons hx hr =>
      cases hr with
      | cons hy hr =>
        cases hr
        exact .inl ⟨_, _, by rw [hx.int, hy.int], h _ F H (.val rfl)⟩
  · obtain ⟨ns, e1, e4⟩ := Option.bind_eq_some_iff.mp e
    obtain ⟨ds, e2, e3⟩ := Option.bind_eq_some_iff.mp e1
    cases ha with
    | cons hx hr =>
      cases hr
      obtain ⟨a, vs, rfl, sq, _, rl⟩ := hx.lstq e2
      rw [intsOf_eq e3] at rl
      rw [rl.ints] at sq
      cases ns with
      | nil => cases e4
      | cons n ns =>
        cases e4
        refine .inr ⟨a, n :: ns, rfl, sq, Nat.succ_pos _, fun m hm hle => ?_⟩
        have e : m = lMin n ns := by
          obtain ⟨g1, g2⟩ := lMin_le ns n
          have g3 := hle _ (lMin_mem ns n)
          rcases List.mem_cons.mp hm with rfl | hm
          · omega
          · have := g2 m hm; omega
        rw [e]
        exact h _ F H (.val rfl)
  · cases e
def fTuple : List D → Option R
  | [.tup xs] => some (.d (.tup xs))
  | [.lst xs] => some (.d (.tup xs))
  | [.lk ns] => some (.d (.tup (ns.map .int)))
  | _ => none
abbrev rTupleOf (K : PySem.W.Frag) : List V → Hp → VK → Prop := fun xs H Q => ∃ p ys, xs = [.ref p] ∧ ((SqL K H p ys ∧ ∀ l, H l = none → Q (.ref l) (upd H l (.tup ys))) ∨ (SqT K H p ys ∧ Q (.ref p) H))
theorem fn_tuple : FnS K (rTupleOf K) fTuple := by
  intro F H xs as r Q tr ha e h
  unfold fTuple at e
  split at e
  · cases e
    cases ha with
    | cons hx hr =>
      cases hr
      obtain ⟨p, vs, rfl, t, z, rl⟩ := hx.tup
      exact ⟨p, vs, rfl, .inr ⟨t.sq, h _ F H (.val ⟨p, vs, rfl, t, z, rl⟩)⟩⟩
  · cases e
    cases ha with
    | cons hx hr =>
      cases hr
      obtain ⟨p, vs, rfl, t, z, rl⟩ := hx.lst
      exact ⟨p, vs, rfl, .inl ⟨SqL.of t, fun l hl => h _ _ _ (.newTup tr hl z rl)⟩⟩
  · rename_i ns
    cases e
    cases ha with
    | cons hx hr =>
      cases hr
      obtain ⟨p, rfl, t, z⟩ := hx.lk
      have t := t.sq
      exact ⟨p, _, rfl, .inl ⟨t, fun l hl => h _ _ _ (.newTup tr hl (by rw [List.length_map]; exact z) (repL_ints ns))⟩⟩
  · cases e
def fList : List D → Option R
  | [d] => d.seq?.map .fr
  | _ => none
abbrev rListOf (K : PySem.W.Frag) : List V → Hp → VK → Prop := fun xs H Q => ∃ p ys, xs = [.ref p] ∧ (SqL K H p ys ∨ SqT K H p ys) ∧ ∀ l, H l = none → Q (.ref l) (upd H l (.lst ys))
theorem fn_list : FnS K (rListOf K) fList := by
  intro F H xs as r Q tr ha e h
  unfold fList at e
  split at e
  · obtain ⟨ds, e1, rfl⟩ := Option.map_eq_some_iff.mp e
    cases ha with
    | cons hx hr =>
      cases hr
      obtain ⟨p, vs, rfl, t, z, rl⟩ := hx.seq e1
      exact ⟨p, vs, rfl, t, fun l hl => h _ _ _ (.newLst tr hl z rl)⟩
  · cases e
end
end Rm

set_option Elab.async false
set_option linter.all false
set_option maxRecDepth 100000
set_option maxHeartbeats 4000000
/-! R3: the small language, what it gives. -/
namespace Rm
open PySem PySem.Spec L2

/-! ### the language -/
inductive Bf where
  | len | int | str | abs | divmod | all | any | sum | max | min | tuple | list
  deriving DecidableEq
def Bf.f : Bf → List D → Option R
  | .len => fLen | .int => fInt | .str => fStr | .abs => fAbs | .divmod => fDivmod | .all => fAll | .any => fAny | .sum => fSum | .max => fMax | .min => fMin | .tuple => fTuple | .list => fList
inductive Ty where
  | int | bool | str | tuple | list | dict
  deriving DecidableEq
def Ty.has : Ty → D → Bool
  | .int, .int _ => true
  | .int, .bl _ => true
  | .bool, .bl _ => true
  | .str, .str _ => true
  | .tuple, .tup _ => true
  | .list, .lst _ => true
  | .list, .lk _ => true
  | _, _ => false
/-- methods that only read -/
inductive Mt where
  | join | zfill | index | ljust
  deriving DecidableEq
/-- methods that change a list -/
inductive Mc where
  | append | extend
  deriving DecidableEq

mutual
inductive E where
  | var (i : Nat) | int (n : Int) | str (s : List Nat) | bl (b : Bool) | non | glob (g : Nat)
  | bin (o : BOp) (a b : E) | neg (a : E) | cmp (o : COp) (a b : E) | chain (o o' : COp) (a b c : E)
  | and (a b : E) | or (a b : E) | not (a : E) | ife (c a b : E)
  | tup (es : Es) | lst (es : Es) | idx (a b : E) | sli (a lo hi : E) | absent
  | call (f : Nat) (as : Es) | callK (f : Nat) (as ks : Es) (ix : Nat)
  | blt (b : Bf) (as : Es) | minN (e : E) | isi (e : E) (t : Ty) | met (m : Mt) (r : E) (as : Es) | mut (m : Mc) (i : Nat) (e : E)
  | comp (own : List Nat) (t : Tg) (it : It) (c : E) (e : E)
  | listIt (it : It)
inductive Es where
  | nil | cons (e : E) (r : Es) | star (e : E) (r : Es)
inductive It where
  | of (e : E) | range (es : Es) | enum (e : E) (start : Int) | zip (a b : E)
inductive Tg where
  | name (i : Nat) | tup (ts : Tgs) | sub (i : Nat) (e : E)
inductive Tgs where
  | nil | cons (t : Tg) (r : Tgs)
end
mutual
inductive S where
  | asg (t : Tg) (e : E) | par (is : List Nat) (es : Es) | ret (e : E) | retN | iff (c : E) (a b : Ss)
  | for_ (t : Tg) (it : It) (b : Ss) | whl (c : E) (b : Ss) | ex (e : E) | pas | brk | cnt | rai
inductive Ss where
  | nil | cons (s : S) (r : Ss)
end

/-! ### what it gives -/
mutual
def tgS : Tg → List Nat
  | .name i => [i]
  | .tup ts => tgSs ts
  | .sub _ _ => []
def tgSs : Tgs → List Nat
  | .nil => []
  | .cons t r => tgS t ++ tgSs r
end
abbrev M (α : Type) := En → Option (α × En)
def ret {α : Type} (a : α) : M α := fun ρ => some (a, ρ)
def bnd {α β : Type} (m : M α) (f : α → M β) : M β := fun ρ => match m ρ with
  | none => none
  | some (a, ρ') => f a ρ'
def lft {α : Type} (o : Option α) : M α := fun ρ => match o with
  | none => none
  | some a => some (a, ρ)
def fail {α : Type} : M α := fun _ => none

inductive Av where
  | d (v : D) | io (xs : List D)
structure Cfg where
  perm : Nat → List Nat
  mask : Nat → List Bool
  con : Nat → D
  C : Nat → List Av → Option (R × List (List D))

/-- read ahead of its use: a value, or a slot of one's own -/
inductive W where
  | v (d : D) | sl (i : Nat)
def look : W → M D
  | .v d => ret d
  | .sl i => fun ρ => match ρ[i]? with
    | some (.d d) => some (d, ρ)
    | some (.own xs) => some (.lst xs, ρ)
    | some (.io xs) => some (.lst xs, ρ)
    | _ => none
def looks : List W → M (List D)
  | [] => ret []
  | w :: ws => bnd (look w) fun d => bnd (looks ws) fun ds => ret (d :: ds)
def getVar (i : Nat) : M R := fun ρ => match ρ[i]? with
  | some (.d v) => some (.d v, ρ)
  | some (.own xs) => some (.d (.lst xs), ρ.set i (.d (.lst xs)))
  | _ => none
def R.sv : R → SV
  | .d z => .d z
  | .fr z => .own z
def setVar (i : Nat) (r : R) : M Unit := fun ρ => match ρ[i]? with
  | none => none
  | some (.io _) => none
  | some _ => some ((), ρ.set i r.sv)
/-- a list of one's own is changed -/
def chg (i : Nat) (f : List D → Option (List D)) : M Unit := fun ρ => match ρ[i]? with
  | some (.own xs) => (match f xs with | none => none | some ys => some ((), ρ.set i (.own ys)))
  | some (.io xs) => (match f xs with | none => none | some ys => some ((), ρ.set i (.io ys)))
  | _ => none
def truth : D → Option Bool
  | .non => some false
  | .bl b => some b
  | .int i => some (i != 0)
  | .str s => some (!s.isEmpty)
  | .tup xs => some (!xs.isEmpty)
  | .lst xs => some (!xs.isEmpty)
  | .lk ns => some (!ns.isEmpty)
def toI : D → Option Int
  | .int i => some i
  | _ => none
def items : D → Option (List D)
  | .str s => some (s.map fun c => .str [c])
  | d => d.seq?
def enumL : Int → List D → List D
  | _, [] => []
  | k, d :: ds => .tup [.int k, d] :: enumL (k + 1) ds
def zipL : List D → List D → List D
  | a :: as, b :: bs => .tup [a, b] :: zipL as bs
  | _, _ => []
def rangeL (lo : Int) : Nat → List D
  | 0 => []
  | n + 1 => .int lo :: rangeL (lo + 1) n
def rangeC (lo c : Int) : Nat → List D
  | 0 => []
  | n + 1 => .int lo :: rangeC (lo + c) c n
def rgB (i : Int) : Bool := decide (i.natAbs < 4611686018427387904)
def rangeD : List D → Option (List D)
  | [.int j] => if rgB j then some (rangeL 0 j.toNat) else none
  | [.int i, .int j] => if rgB i && rgB j then some (rangeL i (j - i).toNat) else none
  | [.int i, .int j, .int c] => if rgB i && rgB j && decide (0 < c) && decide (c.natAbs < 1073741824) then some (rangeC i c (if i < j then ((j - i - 1) / c + 1).toNat else 0)) else none
  | _ => none
def joinL (sep : List Nat) : List (List Nat) → List Nat
  | [] => []
  | [s] => s
  | s :: t :: r => s ++ (sep ++ joinL sep (t :: r))
def padNum (s : List Nat) (k : Nat) : List Nat := match s with
  | 43 :: _ => s
  | 45 :: _ => s
  | _ => List.replicate k 48 ++ s
def mJoin : D → List D → Option R
  | .str sep, [d] => (d.seq?.bind strsOf).bind fun ss => if (ss.map (·.length)).sum + ss.length * sep.length ≤ SZ then some (.d (.str (joinL sep ss))) else none
  | _, _ => none
def mZfill : D → List D → Option R
  | .str s, [.int i] => match s with
    | [] => none
    | c :: _ => if c ≠ 43 ∧ c ≠ 45 ∧ 0 ≤ i ∧ i ≤ 1000 ∧ s.length ≤ 1000 then some (.d (.str (List.replicate (i.toNat - s.length) 48 ++ s))) else none
  | _, _ => none
def mLjust : D → List D → Option R
  | .str s, [.int i, .str [c]] => if 0 ≤ i ∧ i ≤ 1000 ∧ s.length ≤ 1000 then some (.d (.str (s ++ List.replicate (i.toNat - s.length) c))) else none
  | _, _ => none
def mIndex : D → List D → Option R
  | .str s, [.str [c]] => (s.findIdx? (· == c)).map fun (i : Nat) => .d (.int (i : Int))
  | _, _ => none
def Mt.f : Mt → D → List D → Option R
  | .join => mJoin | .zfill => mZfill | .ljust => mLjust | .index => mIndex
def Mc.f : Mc → D → List D → Option (List D)
  | .append, y, xs => if xs.length < SZ then some (xs ++ [y]) else none
  | .extend, .lst ys, xs => if xs.length + ys.length ≤ SZ then some (xs ++ ys) else none
  | _, _, _ => none

/-- arguments of a call: values, or slots handed on -/
inductive Ar where
  | d (v : D) | sl (i : Nat)
def Ar.slots : List Ar → List Nat
  | [] => []
  | .d _ :: r => Ar.slots r
  | .sl i :: r => i :: Ar.slots r
def contents : List Ar → En → Option (List Av)
  | [], _ => some []
  | .d v :: r, ρ => (contents r ρ).map (.d v :: ·)
  | .sl i :: r, ρ => match ρ[i]? with
    | some (.own xs) => (contents r ρ).map (.io xs :: ·)
    | some (.io xs) => (contents r ρ).map (.io xs :: ·)
    | _ => none
def putBack : List Nat → List (List D) → En → Option En
  | [], [], ρ => some ρ
  | i :: is, xs :: xss, ρ => match ρ[i]? with
    | some (.own _) => putBack is xss (ρ.set i (.own xs))
    | some (.io _) => putBack is xss (ρ.set i (.io xs))
    | _ => none
  | _, _, _ => none
def nodupN : List Nat → Bool
  | [] => true
  | i :: is => !is.contains i && nodupN is
def doCall (G : Cfg) (f : Nat) (as : List Ar) : M R := fun ρ => if nodupN (Ar.slots as) then
    match contents as ρ with
    | none => none
    | some vs => match G.C f vs with
      | none => none
      | some (r, ios) => match putBack (Ar.slots as) ios ρ with
        | none => none
        | some ρ' => some (r, ρ')
  else none
/-- keywords in the parameters' order: the k-th parameter's place is ks[k] -/
def permute {α : Type} (as : List α) : List Nat → Option (List α)
  | [] => some []
  | k :: ks => match as[k]?, permute as ks with
    | some a, some r => some (a :: r)
    | _, _ => none

def freeSlots (own : List Nat) (ρ : En) : Bool := own.all fun i => match ρ[i]? with
  | some .un => true
  | some (.d _) => true
  | _ => false
def wipeE (own : List Nat) (ρ : En) : En := own.foldr (fun i ρ => ρ.set i .un) ρ
def restore (own : List Nat) (ρ0 ρ : En) : En := own.foldr (fun i ρ => ρ.set i (ρ0.getD i .un)) ρ
def consO : Option D → List D → List D
  | some y, r => y :: r
  | none, r => r
def compL (own : List Nat) (f : D → M (Option D)) : List D → M (List D)
  | [] => ret []
  | d :: ds => fun ρ => if freeSlots own ρ then (bnd (f d) fun o => bnd (compL own f ds) fun r => ret (consO o r)) (wipeE own ρ) else none
def starOf (d : D) (ds : List D) : Option (List D) := match d.seq? with
  | some xs => some (xs ++ ds)
  | none => none
def mkTup (ds : List D) : Option R := if ds.length ≤ SZ then some (.d (.tup ds)) else none
def mkLst (ds : List D) : Option R := if ds.length ≤ SZ then some (.fr ds) else none

/-- what an expression means: as a value, as a thing that is read, as a test, as a part of a cut; whether it is a mere name, or left out -/
structure DE where
  v : M R
  w : M W
  t : M Bool
  p : M (Option Int)
  vr : Option Nat
  ab : Bool
def tstW (w : M W) : M Bool := bnd w fun w => bnd (look w) fun d => lft (truth d)
def partV (v : M R) : M (Option Int) := bnd v fun x => bnd (lft (toI x.toD)) fun i => ret (some i)
def wV (v : M R) : M W := bnd v fun x => ret (.v x.toD)
def mkE (v : M R) : DE := ⟨v, wV v, tstW (wV v), partV v, none, false⟩
def mkT (t : M Bool) : DE := ⟨bnd t fun b => ret (.d (.bl b)), bnd t fun b => ret (.v (.bl b)), t, fail, none, false⟩
def getW (i : Nat) : M W := fun ρ => match ρ[i]? with
  | some (.d v) => some (.v v, ρ)
  | some (.own _) => some (.sl i, ρ)
  | some (.io _) => some (.sl i, ρ)
  | _ => none
def mkV (i : Nat) : DE := ⟨getVar i, getW i, tstW (getW i), partV (getVar i), some i, false⟩
def mkA : DE := ⟨fail, fail, fail, ret none, none, true⟩
structure DEs where
  ds : M (List D)
  ws : M (List W)
  as : List Bool → M (List Ar)
def isOwn (i : Nat) : M Unit := fun ρ => match ρ[i]? with
  | some (.own _) => some ((), ρ)
  | some (.io _) => some ((), ρ)
  | _ => none
def argOf (io : Bool) (e : DE) : M Ar := if io then (match e.vr with | some i => bnd (isOwn i) fun _ => ret (.sl i) | none => fail) else bnd e.v fun x => ret (.d x.toD)
def consE (e : DE) (r : DEs) : DEs :=
  ⟨bnd e.v fun x => bnd r.ds fun ds => ret (x.toD :: ds), bnd e.w fun x => bnd r.ws fun ds => ret (x :: ds),
    fun m => bnd (argOf (m.headD false) e) fun a => bnd (r.as m.tail) fun as => ret (a :: as)⟩
def starE (e : DE) (r : DEs) : DEs := ⟨bnd e.v fun x => bnd r.ds fun ds => lft (starOf x.toD ds), fail, fun _ => fail⟩
def cmpT (o : COp) (a b : DE) : M Bool := bnd a.w fun x => bnd b.w fun y => bnd (look x) fun x => bnd (look y) fun y => lft (o.f x y)
def chainT (o o' : COp) (a b c : DE) : M Bool := bnd a.v fun x => bnd b.v fun y => bnd (lft (o.f x.toD y.toD)) fun t => if t then bnd c.v fun z => lft (o'.f y.toD z.toD) else ret false
def andT (a b : M Bool) : M Bool := bnd a fun t => if t then b else ret false
def orT (a b : M Bool) : M Bool := bnd a fun t => if t then ret true else b
def notT (a : M Bool) : M Bool := bnd a fun t => ret !t
def andV (a b : M R) : M R := bnd a fun x => bnd (lft (truth x.toD)) fun t => if t then b else ret (.d x.toD)
def orV (a b : M R) : M R := bnd a fun x => bnd (lft (truth x.toD)) fun t => if t then ret (.d x.toD) else b
def iteV (c : M Bool) (a b : M R) : M R := bnd c fun t => if t then a else b
def idxV (a b : DE) : M R := bnd a.w fun w => bnd b.v fun y => bnd (look w) fun d => lft ((dIdx d y.toD).map .d)
def sliV (a lo hi : DE) : M R := bnd a.w fun w => bnd lo.p fun l => bnd hi.p fun h => bnd (look w) fun d => lft (dSli d l h)
def callV (G : Cfg) (f : Nat) (as : DEs) : M R := bnd (as.as (G.mask f)) fun vs => doCall G f vs
def callKV (G : Cfg) (f : Nat) (as ks : DEs) (ix : Nat) : M R := bnd (as.as []) fun a => bnd (ks.as []) fun b => match permute (a ++ b) (G.perm ix) with
  | none => fail
  | some vs => doCall G f vs
def metV (m : Mt) (r : DE) (as : DEs) : M R := bnd r.v fun x => bnd as.ws fun ws => bnd (looks ws) fun ds => lft (m.f x.toD ds)
def mutV (m : Mc) (i : Nat) (e : DE) : M R := bnd (isOwn i) fun _ => bnd e.v fun y => bnd (chg i (m.f y.toD)) fun _ => ret (.d .non)
def testC (c : DE) : M Bool := if c.ab then ret true else c.t
def turnC (t : D → M Unit) (c e : DE) (d : D) : M (Option D) := bnd (t d) fun _ => bnd (testC c) fun b => if b then bnd e.v fun y => ret (some y.toD) else ret none
def compV (own : List Nat) (it : M (List D)) (f : D → M (Option D)) : M R := bnd it fun ds ρ => if freeSlots own ρ && decide (ds.length ≤ SZ) then
    (match compL own f ds ρ with
      | none => none
      | some (ys, ρ') => some (.fr ys, restore own ρ ρ'))
    else none
def subG (i : Nat) (e : DE) (d : D) : M Unit := bnd (isOwn i) fun _ => bnd e.v fun y => bnd (lft (toI y.toD)) fun k => chg i fun xs => (ixN xs.length k).map fun j => xs.set j d

mutual
def evE (G : Cfg) : E → DE
  | .var i => mkV i
  | .int n => mkE (ret (.d (.int n)))
  | .str s => mkE (ret (.d (.str s)))
  | .bl b => mkE (ret (.d (.bl b)))
  | .non => mkE (ret (.d .non))
  | .glob g => mkE (ret (.d (G.con g)))
  | .bin o a b => mkE (bnd (evE G a).v fun x => bnd (evE G b).v fun y => lft (o.f x.toD y.toD))
  | .neg a => mkE (bnd (evE G a).v fun x => lft ((toI x.toD).map fun i => .d (.int (-i))))
  | .cmp o a b => mkT (cmpT o (evE G a) (evE G b))
  | .chain o o' a b c => mkT (chainT o o' (evE G a) (evE G b) (evE G c))
  | .and a b => { mkE (andV (evE G a).v (evE G b).v) with t := andT (evE G a).t (evE G b).t }
  | .or a b => { mkE (orV (evE G a).v (evE G b).v) with t := orT (evE G a).t (evE G b).t }
  | .not a => { mkE (bnd (tstW (evE G a).w) fun t => ret (.d (.bl !t))) with t := notT (evE G a).t }
  | .ife c a b => { mkE (iteV (evE G c).t (evE G a).v (evE G b).v) with t := fail }
  | .tup es => mkE (bnd (evEs G es).ds fun ds => lft (mkTup ds))
  | .lst es => mkE (bnd (evEs G es).ds fun ds => lft (mkLst ds))
  | .idx a b => mkE (idxV (evE G a) (evE G b))
  | .sli a lo hi => mkE (sliV (evE G a) (evE G lo) (evE G hi))
  | .absent => mkA
  | .call f as => mkE (callV G f (evEs G as))
  | .callK f as ks ix => mkE (callKV G f (evEs G as) (evEs G ks) ix)
  | .blt b as => mkE (bnd (evEs G as).ws fun ws => bnd (looks ws) fun ds => lft (b.f ds))
  | .minN e => mkE (bnd (evE G e).v fun x => match x.toD with | .lst [] => ret (.d .non) | _ => fail)
  | .isi e t => mkE (bnd (evE G e).w fun w => bnd (look w) fun d => ret (.d (.bl (t.has d))))
  | .met m r as => mkE (metV m (evE G r) (evEs G as))
  | .mut m i e => mkE (mutV m i (evE G e))
  | .comp own t it c e => mkE (compV own (evI G it) (turnC (evG G t) (evE G c) (evE G e)))
  | .listIt it => mkE (bnd (evI G it) fun ds => lft (mkLst ds))
def evEs (G : Cfg) : Es → DEs
  | .nil => ⟨ret [], ret [], fun _ => ret []⟩
  | .cons e r => consE (evE G e) (evEs G r)
  | .star e r => starE (evE G e) (evEs G r)
def evI (G : Cfg) : It → M (List D)
  | .of e => bnd (evE G e).v fun x => lft (items x.toD)
  | .range es => bnd (evEs G es).ds fun ds => lft (rangeD ds)
  | .enum e k => bnd (evE G e).v fun x => lft ((items x.toD).map (enumL k))
  | .zip a b => bnd (evE G a).v fun x => bnd (evE G b).v fun y => lft ((items x.toD).bind fun xs => (items y.toD).map (zipL xs))
def evG (G : Cfg) : Tg → D → M Unit
  | .name i => fun d => setVar i (.d d)
  | .tup ts => fun d => match d with
    | .tup ds => evGs G ts ds
    | _ => fail
  | .sub i e => subG i (evE G e)
def evGs (G : Cfg) : Tgs → List D → M Unit
  | .nil => fun ds => match ds with
    | [] => ret ()
    | _ :: _ => fail
  | .cons t r => fun ds => match ds with
    | [] => fail
    | d :: ds => bnd (evG G t d) fun _ => evGs G r ds
end

/-! ### statements -/
inductive Fl where
  | nx (ρ : En) | rt (r : R) (ρ : En) | bk (ρ : En) | ct (ρ : En)
abbrev SM := En → Option Fl
def bndS {α : Type} (m : M α) (f : α → SM) : SM := fun ρ => match m ρ with
  | none => none
  | some (a, ρ') => f a ρ'
def seqS (a b : SM) : SM := fun ρ => match a ρ with
  | some (.nx ρ') => b ρ'
  | o => o
def nextS : SM := fun ρ => some (.nx ρ)
def forL (f : D → SM) : List D → SM
  | [] => nextS
  | d :: ds => fun ρ => match f d ρ with
    | some (.nx ρ') => forL f ds ρ'
    | some (.ct ρ') => forL f ds ρ'
    | some (.bk ρ') => some (.nx ρ')
    | some (.rt r ρ') => some (.rt r ρ')
    | none => none
def whileN (c : M Bool) (b : SM) : Nat → SM
  | 0 => fun _ => none
  | n + 1 => bndS c fun t => if t then fun ρ => (match b ρ with
    | some (.nx ρ') => whileN c b n ρ'
    | some (.ct ρ') => whileN c b n ρ'
    | some (.bk ρ') => some (.nx ρ')
    | some (.rt r ρ') => some (.rt r ρ')
    | none => none) else nextS
open Classical in
noncomputable def whileS (c : M Bool) (b : SM) : SM := fun ρ => if h : ∃ n r, whileN c b n ρ = some r then some h.choose_spec.choose else none
/-- return of a name: the list goes with it -/
def retV (e : DE) : M R := match e.vr with
  | some i => fun ρ => match ρ[i]? with
    | some (.own xs) => some (.fr xs, ρ.set i .un)
    | _ => e.v ρ
  | none => e.v
/-- several values at once, each kept as it is -/
def evRs (G : Cfg) : Es → M (List R)
  | .nil => ret []
  | .cons e r => bnd (evE G e).v fun x => bnd (evRs G r) fun xs => ret (x :: xs)
  | .star _ _ => fail
def setVars : List Nat → List R → M Unit
  | [], [] => ret ()
  | i :: is, r :: rs => bnd (setVar i r) fun _ => setVars is rs
  | _, _ => fail
mutual
noncomputable def evS (G : Cfg) : S → SM
  | .asg t e => match t with
    | .name i => bndS (evE G e).v fun r => bndS (setVar i r) fun _ => nextS
    | t => bndS (evE G e).v fun r => bndS (evG G t r.toD) fun _ => nextS
  | .par is es => bndS (evRs G es) fun rs => bndS (setVars is rs) fun _ => nextS
  | .ret e => bndS (retV (evE G e)) fun r ρ => some (.rt r ρ)
  | .retN => fun ρ => some (.rt (.d .non) ρ)
  | .iff c a b => bndS (evE G c).t fun t => if t then evSs G a else evSs G b
  | .for_ t it b => bndS (evI G it) fun ds => forL (fun d => bndS (evG G t d) fun _ => evSs G b) ds
  | .whl c b => whileS (evE G c).t (evSs G b)
  | .ex e => bndS (evE G e).v fun _ => nextS
  | .pas => nextS
  | .brk => fun ρ => some (.bk ρ)
  | .cnt => fun ρ => some (.ct ρ)
  | .rai => fun _ => none
noncomputable def evSs (G : Cfg) : Ss → SM
  | .nil => nextS
  | .cons s r => seqS (evS G s) (evSs G r)
end

/-! ### functions -/
structure Fn where
  nm : String
  slots : List String
  ar : Nat
  mask : List Bool
  body : Ss
def svOf : Av → SV
  | .d v => .d v
  | .io xs => .io xs
def startE (n : Nat) (as : List Av) : En := as.map svOf ++ List.replicate (n - as.length) .un
def iosOf : List Bool → En → Option (List (List D))
  | [], _ => some []
  | true :: m, .io xs :: ρ => (iosOf m ρ).map (xs :: ·)
  | true :: _, _ => none
  | false :: m, ρ => iosOf m ρ.tail
def matchM : List Bool → List Av → Bool
  | [], [] => true
  | true :: m, .io _ :: as => matchM m as
  | false :: m, .d _ :: as => matchM m as
  | _, _ => false
/-- a way of calling with keywords: the function, how many positional values, the keywords' names, where each parameter's value stands -/
structure Kw where
  f : Nat
  np : Nat
  names : List String
  perm : List Nat
structure Tab where
  fns : List Fn
  con : List (String × D)
  kws : List Kw
def Tab.cfg (T : Tab) (C : Nat → List Av → Option (R × List (List D))) : Cfg := ⟨fun ix => match T.kws[ix]? with | some k => k.perm | none => [], fun f => match T.fns[f]? with | some fn => fn.mask | none => [], fun g => match T.con[g]? with | some c => c.2 | none => .non, C⟩
noncomputable def runFn (T : Tab) (C : Nat → List Av → Option (R × List (List D))) (f : Nat) (as : List Av) : Option (R × List (List D)) := match T.fns[f]? with
  | none => none
  | some fn => if matchM fn.mask as then (match evSs (T.cfg C) fn.body (startE fn.slots.length as) with
    | some (.rt r ρ) => (iosOf fn.mask ρ).map fun ios => (r, ios)
    | some (.nx ρ) => (iosOf fn.mask ρ).map fun ios => (.d .non, ios)
    | _ => none) else none
noncomputable def callF (T : Tab) : Nat → Nat → List Av → Option (R × List (List D))
  | 0 => fun _ _ => none
  | k + 1 => runFn T (callF T k)
end Rm

set_option Elab.async false
set_option linter.all false
set_option maxRecDepth 100000
set_option maxHeartbeats 4000000
/-! R4: a piece of syntax is the one that the small language tells; side conditions; what each judgement means. -/
namespace Rm
open PySem PySem.Spec L2

/-! ### side conditions by form -/
def notStar : Expr → Bool
  | .Starred .. => false
  | _ => true
def plainR : Expr → Bool
  | .Call .. => false
  | _ => true
def notSlice : Expr → Bool
  | .Slice .. => false
  | _ => true
def notSet : Expr → Bool
  | .Set .. => false
  | _ => true
def notComp : Expr → Bool
  | .ListComp .. => false
  | .SetComp .. => false
  | .DictComp .. => false
  | _ => true
/-- a test by truth alone -/
def plainT : Expr → Bool
  | .UnaryOp .Not .. => false
  | .BoolOp .. => false
  | .IfExp .. => false
  | .Compare .. => false
  | _ => true
theorem star_of {e : Expr} {es : List Expr} {env : Env} (h : notStar e = true) : starEach (e :: es) env = (false, eval e env) :: starEach es env := by
  cases e <;> first | rfl | (simp [notStar] at h)
theorem stars_of {env : Env} {pos : Pos} : ∀ {es : List Expr}, es.all notStar = true → (backTo pos (starEach es env)).any (·.1) = false
  | [], _ => rfl
  | e :: es, h => by
    have q := Bool.and_eq_true_iff.mp (show (notStar e && es.all notStar) = true from h)
    rw [star_of q.1]
    show (false || (backTo pos (starEach es env)).any (·.1)) = false
    rw [stars_of q.2]; rfl
theorem stars_len {env : Env} : ∀ {es : List Expr}, es.all notStar = true → (starEach es env).length = es.length
  | [], _ => rfl
  | e :: es, h => by
    have q := Bool.and_eq_true_iff.mp (show (notStar e && es.all notStar) = true from h)
    rw [star_of q.1, List.length_cons, List.length_cons, stars_len q.2]
theorem stars_all {env : Env} {pos : Pos} {es : List Expr} (h : es.all notStar = true) : (backTo pos (starEach es env)).all (fun x => !x.1) = true := by
  have q := stars_of (env := env) (pos := pos) h
  rw [List.all_eq_true]
  intro x hx
  cases e : x.1 with
  | false => rfl
  | true => exact absurd q (by rw [Bool.not_eq_false]; exact List.any_eq_true.mpr ⟨x, hx, e⟩)
theorem base_of {o : Expr} {f : Str} {env : Env} {w : Sem Value} (h : plainR o = true) : attributeBase o f env w = w := by
  cases o <;> first | rfl | (simp [plainR] at h)
theorem base_call {x : Str} {p pos : Pos} {as : List Expr} {ks : List Keyword} {f : Str} {env : Env} {w : Sem Value} (h : !as.isEmpty || !ks.isEmpty || x != ("super" : Str)) : attributeBase (.Call (.Name x p) as ks pos) f env w = w := by
  cases as with
  | cons _ _ => rfl
  | nil =>
    cases ks with
    | cons _ _ => rfl
    | nil =>
      have hx : (x != ("super" : Str)) = true := by simpa using h
      show (if (x != ("super" : Str) || f == "__class__" || env.kindOf "super" != some .globalImplicit || env.kindOf "__class__" != some .free) = true then _ else _) = w
      rw [hx]
      simp
theorem plainIx_of {b : Expr} (h : notSlice b = true) : PlainIx b := fun o i => by
  cases b <;> first | rfl | (simp [notSlice] at h)
theorem marks_of {b : Expr} {op : CmpOp} (h : notSet b = true) : behindInMarks op b = false := by
  cases b <;> first | rfl | (simp [notSet] at h)
theorem folded_of {e : Expr} {env : Env} (h : notSet e = true) (x : Value) : foldedSetIterable e env x = pure x := by
  cases e <;> first | rfl | (simp [notSet] at h)
theorem swaps_of {e : Expr} {t : Option Expr} {l : Nat} {env : Env} (h : notComp e = true) : swapsWith e t l env = pure false := by
  cases e <;> first | rfl | (simp [notComp] at h)
theorem test_of {e : Expr} {env : Env} (h : plainT e = true) (whole : Sem Value) : isTrue e env whole = (do let v ← whole; standAt e.pos; holding [v] (truthy v)) := by
  cases e with
  | UnaryOp op x p => cases op <;> first | rfl | (simp [plainT] at h)
  | BoolOp => simp [plainT] at h
  | IfExp => simp [plainT] at h
  | Compare => simp [plainT] at h
  | _ => rfl

/-! ### readings as strong as they come -/
section
variable (X : Cx)
def wE (e : Expr) : TE := fun σ H Q => ∀ pins s, Inv X pins σ H s → wpAny (model X.prog X.w) X.A (eval e X.env) (EP X pins σ Q) X.xe s
def wT (e : Expr) : TT := fun σ H Q => ∀ pins s, Inv X pins σ H s → wpAny (model X.prog X.w) X.A (isTrue e X.env (eval e X.env)) (TP X pins σ Q) X.xe s
def wB (e : Expr) : TT := fun σ H Q => ∀ whole pins s, Inv X pins σ H s → wpAny (model X.prog X.w) X.A (isTrue e X.env whole) (TP X pins σ Q) X.xe s
def wA (es : List Expr) : TA := fun σ H Q => ∀ pos pins s, Inv X pins σ H s → wpAny (model X.prog X.w) X.A (spliced (backTo pos (starEach es X.env))) (AP X pins σ Q) X.xe s
def wK (ks : List Keyword) : TA := fun σ H Q => ∀ pos pins s, Inv X pins σ H s → wpAny (model X.prog X.w) X.A (evalAll ((backToKw pos (keywordEach ks X.env)).map (·.2))) (AP X pins σ Q) X.xe s
def wS (st : Stmt) : TS := fun D σ H => ∀ pins s, Inv X pins σ H s → wpAny (model X.prog X.w) X.A (exec st X.env) (SP X pins D) X.xe s
def wSs (st : List Stmt) : TS := fun D σ H => ∀ pins s, Inv X pins σ H s → wpAny (model X.prog X.w) X.A (execs st X.env) (SP X pins D) X.xe s
def wO (e : Option Expr) : TO := fun σ H Q => ∀ pins s, Inv X pins σ H s → wpAny (model X.prog X.w) X.A (evalPart e X.env) (fun u s' => ∃ o H', Inv X pins σ H' s' ∧ IsPart u o ∧ Q o H') X.xe s
def wI (tg it : Expr) : TI := fun σ H R => ∀ pins s, Inv X pins σ H s → wpAny (model X.prog X.w) X.A (eval it X.env) (fun v s1 => wpAny (model X.prog X.w) X.A (pyIter v) (PIE X pins σ tg R) X.xe s1) X.xe s
end
section
variable {X : Cx}
theorem pe_w {e : Expr} : PE X e (wE X e) := ⟨fun pins s _ _ _ I h => h pins s I⟩
theorem pt_w {e : Expr} : PT X e (wT X e) := ⟨fun pins s _ _ _ I h => h pins s I⟩
theorem pw_w {e : Expr} : PW X e (wB X e) := ⟨fun whole pins s _ _ _ I h => h whole pins s I⟩
theorem pa_w {es : List Expr} : PA X es (wA X es) := ⟨fun pos pins s _ _ _ I h => h pos pins s I⟩
theorem pk_w {ks : List Keyword} : PK X ks (wK X ks) := ⟨fun pos pins s _ _ _ I h => h pos pins s I⟩
theorem ps_w {st : Stmt} : PS X st (wS X st) := ⟨fun pins s _ _ _ I h => h pins s I⟩
theorem pss_w {st : List Stmt} : PSs X st (wSs X st) := ⟨fun pins s _ _ _ I h => h pins s I⟩
theorem po_w {e : Option Expr} : PO X e (wO X e) := ⟨fun pins s _ _ _ I h => h pins s I⟩
theorem pi_w {tg it : Expr} : PI X tg it (wI X tg it) := ⟨fun pins s _ _ _ I h => h pins s I⟩
variable {σ : L2.St} {H : Hp}
theorem PEto {e t Q} (p : PE X e t) (h : t σ H Q) : wE X e σ H Q := fun pins s I => p.run pins s σ H Q I h
theorem PTto {e t Q} (p : PT X e t) (h : t σ H Q) : wT X e σ H Q := fun pins s I => p.run pins s σ H Q I h
theorem PWto {e t Q} (p : PW X e t) (h : t σ H Q) : wB X e σ H Q := fun whole pins s I => p.run whole pins s σ H Q I h
theorem PAto {e t Q} (p : PA X e t) (h : t σ H Q) : wA X e σ H Q := fun pos pins s I => p.run pos pins s σ H Q I h
theorem PKto {e t Q} (p : PK X e t) (h : t σ H Q) : wK X e σ H Q := fun pos pins s I => p.run pos pins s σ H Q I h
theorem PSto {e t D} (p : PS X e t) (h : t D σ H) : wS X e D σ H := fun pins s I => p.run pins s σ H D I h
theorem PSsto {e t D} (p : PSs X e t) (h : t D σ H) : wSs X e D σ H := fun pins s I => p.run pins s σ H D I h
theorem POto {e t Q} (p : PO X e t) (h : t σ H Q) : wO X e σ H Q := fun pins s I => p.run pins s σ H Q I h
theorem PIto {tg e t Q} (p : PI X tg e t) (h : t σ H Q) : wI X tg e σ H Q := fun pins s I => p.run pins s σ H Q I h
theorem wB_t {e : Expr} {Q} (h : wB X e σ H Q) : wT X e σ H Q := h _
end

/-! ### what the judgements mean -/
section
variable (X : Cx) (J : List (Nat × Addr))
def KV_ (v : V) (K : PySem.W.Frag) (O F : Fz) (H : Hp) (σ : L2.St) (ρ : En) (r : R) : Prop := RepR K O F H σ ρ r v
def SndV (e : Expr) (m : M R) : Prop := ∀ (O F : Fz) (H : Hp) (σ : L2.St) (ρ : En) (r : R) (ρ' : En) (Q : VK), Rel X.K J O F H σ ρ → m ρ = some (r, ρ') →
  (∀ v F' H', Stp O F H F' H' → Rel X.K J O F' H' σ ρ' → RepR X.K O F' H' σ ρ' r v → Q v H') → wE X e σ H Q
def RepWd (K : PySem.W.Frag) (F : Fz) (H : Hp) (σ : L2.St) : W → V → Prop
  | .v d, v => Rep K F H d v
  | .sl i, v => σ[i]? = some (some v)
def SndW (e : Expr) (m : M W) : Prop := ∀ (O F : Fz) (H : Hp) (σ : L2.St) (ρ : En) (r : W) (ρ' : En) (Q : VK), Rel X.K J O F H σ ρ → m ρ = some (r, ρ') →
  (∀ v F' H', Stp O F H F' H' → Rel X.K J O F' H' σ ρ' → RepWd X.K F' H' σ r v → Q v H') → wE X e σ H Q
def SndT (e : Expr) (m : M Bool) : Prop := ∀ (O F : Fz) (H : Hp) (σ : L2.St) (ρ : En) (r : Bool) (ρ' : En) (Q : Bool → Hp → Prop), Rel X.K J O F H σ ρ → m ρ = some (r, ρ') →
  (∀ F' H', Stp O F H F' H' → Rel X.K J O F' H' σ ρ' → Q r H') → wT X e σ H Q
def SndB (e : Expr) (m : M Bool) : Prop := ∀ (O F : Fz) (H : Hp) (σ : L2.St) (ρ : En) (r : Bool) (ρ' : En) (Q : Bool → Hp → Prop), Rel X.K J O F H σ ρ → m ρ = some (r, ρ') →
  (∀ F' H', Stp O F H F' H' → Rel X.K J O F' H' σ ρ' → Q r H') → wB X e σ H Q
def SndO (e : Option Expr) (m : M (Option Int)) : Prop := ∀ (O F : Fz) (H : Hp) (σ : L2.St) (ρ : En) (r : Option Int) (ρ' : En) (Q : Option Int → Hp → Prop), Rel X.K J O F H σ ρ → m ρ = some (r, ρ') →
  (∀ F' H', Stp O F H F' H' → Rel X.K J O F' H' σ ρ' → Q r H') → wO X e σ H Q
def SndD (es : List Expr) (m : M (List D)) : Prop := ∀ (O F : Fz) (H : Hp) (σ : L2.St) (ρ : En) (r : List D) (ρ' : En) (Q : List V → Hp → Prop), Rel X.K J O F H σ ρ → m ρ = some (r, ρ') →
  (∀ vs F' H', Stp O F H F' H' → Rel X.K J O F' H' σ ρ' → RepL X.K F' H' r vs → Q vs H') → wA X es σ H Q
def RepWds (K : PySem.W.Frag) (F : Fz) (H : Hp) (σ : L2.St) : List W → List V → Prop
  | [], vs => vs = []
  | w :: ws, vs => ∃ v r, vs = v :: r ∧ RepWd K F H σ w v ∧ RepWds K F H σ ws r
def SndWs (es : List Expr) (m : M (List W)) : Prop := ∀ (O F : Fz) (H : Hp) (σ : L2.St) (ρ : En) (r : List W) (ρ' : En) (Q : List V → Hp → Prop), Rel X.K J O F H σ ρ → m ρ = some (r, ρ') →
  (∀ vs F' H', Stp O F H F' H' → Rel X.K J O F' H' σ ρ' → RepWds X.K F' H' σ r vs → Q vs H') → wA X es σ H Q
def RepAr (K : PySem.W.Frag) (F : Fz) (H : Hp) (σ : L2.St) : Ar → V → Prop
  | .d d, v => Rep K F H d v
  | .sl i, v => σ[i]? = some (some v)
def RepArs (K : PySem.W.Frag) (F : Fz) (H : Hp) (σ : L2.St) : List Ar → List V → Prop
  | [], vs => vs = []
  | w :: ws, vs => ∃ v r, vs = v :: r ∧ RepAr K F H σ w v ∧ RepArs K F H σ ws r
def SndAs (es : List Expr) (m : M (List Ar)) : Prop := ∀ (O F : Fz) (H : Hp) (σ : L2.St) (ρ : En) (r : List Ar) (ρ' : En) (Q : List V → Hp → Prop), Rel X.K J O F H σ ρ → m ρ = some (r, ρ') →
  (∀ vs F' H', Stp O F H F' H' → Rel X.K J O F' H' σ ρ' → RepArs X.K F' H' σ r vs → Q vs H') → wA X es σ H Q
def SndKs (es : List Keyword) (m : M (List Ar)) : Prop := ∀ (O F : Fz) (H : Hp) (σ : L2.St) (ρ : En) (r : List Ar) (ρ' : En) (Q : List V → Hp → Prop), Rel X.K J O F H σ ρ → m ρ = some (r, ρ') →
  (∀ vs F' H', Stp O F H F' H' → Rel X.K J O F' H' σ ρ' → RepArs X.K F' H' σ r vs → Q vs H') → wK X es σ H Q
end

/-! ### small steps of the meaning -/
theorem bnd_some {α β : Type} {m : M α} {f : α → M β} {ρ : En} {r : β × En} (h : bnd m f ρ = some r) : ∃ a ρ1, m ρ = some (a, ρ1) ∧ f a ρ1 = some r := by
  unfold bnd at h
  split at h
  · cases h
  · exact ⟨_, _, by assumption, h⟩
theorem lft_some {α : Type} {o : Option α} {ρ : En} {r : α × En} (h : lft o ρ = some r) : ∃ a, o = some a ∧ r = (a, ρ) := by
  unfold lft at h
  split at h
  · cases h
  · cases h; exact ⟨_, rfl, rfl⟩
theorem ret_some {α : Type} {a : α} {ρ : En} {r : α × En} (h : ret a ρ = some r) : r = (a, ρ) := by cases h; rfl
section
variable {K : PySem.W.Frag} {J : List (Nat × Addr)} {O F F' : Fz} {H H' : Hp} {σ : L2.St} {ρ ρ' : En}
theorem Rel.trk (q : Rel K J O F H σ ρ) : Trk F H := fun a h => q.tr a (.inl h)
theorem RepWd.le {w v} (l : Le F H F' H') (h : RepWd K F H σ w v) : RepWd K F' H' σ w v := by
  cases w with
  | v d => exact Rep.le l h
  | sl i => exact h
theorem RepWds.le : ∀ {ws vs}, Le F H F' H' → RepWds K F H σ ws vs → RepWds K F' H' σ ws vs
  | [], _, _, h => h
  | _ :: _, _, l, ⟨v, r, e, h, t⟩ => ⟨v, r, e, h.le l, RepWds.le l t⟩
theorem RepAr.le {w v} (l : Le F H F' H') (h : RepAr K F H σ w v) : RepAr K F' H' σ w v := by
  cases w with
  | d d => exact Rep.le l h
  | sl i => exact h
theorem RepArs.le : ∀ {ws vs}, Le F H F' H' → RepArs K F H σ ws vs → RepArs K F' H' σ ws vs
  | [], _, _, h => h
  | _ :: _, _, l, ⟨v, r, e, h, t⟩ => ⟨v, r, e, h.le l, RepArs.le l t⟩
theorem RepArs.append : ∀ {ws ws' : List Ar} {vs vs' : List V}, RepArs K F H σ ws vs → RepArs K F H σ ws' vs' → RepArs K F H σ (ws ++ ws') (vs ++ vs')
  | [], _, _, _, h, t => by rw [show _ = [] from h]; exact t
  | _ :: _, _, _, _, ⟨v, r, e, h, t⟩, t' => ⟨v, r ++ _, by rw [e]; rfl, h, RepArs.append t t'⟩
/-- what a slot holds may be read -/
theorem slot_read (q : Rel K J O F H σ ρ) {i : Nat} {v : V} (e : σ[i]? = some (some v)) {d : D} {ρ1 : En} (h : look (.sl i) ρ = some (d, ρ1)) : ρ1 = ρ ∧ RepW K F H d v := by
  cases hs : ρ[i]? with
  | none => simp [look, hs] at h
  | some t =>
    have qs := q.slot i t hs
    cases t with
    | un => simp [look, hs] at h
    | d d' =>
      simp only [look, hs, Option.some.injEq, Prod.mk.injEq] at h
      obtain ⟨rfl, rfl⟩ := h
      obtain ⟨v', e', r⟩ := qs
      rw [e] at e'; cases e'
      exact ⟨rfl, .inl r⟩
    | own xs =>
      simp only [look, hs, Option.some.injEq, Prod.mk.injEq] at h
      obtain ⟨rfl, rfl⟩ := h
      obtain ⟨a, e', o⟩ := qs
      rw [e] at e'; cases e'
      obtain ⟨vs, h, r⟩ := o.at_
      exact ⟨rfl, .inr ⟨a, vs, _, rfl, rfl, h, o.ln, r⟩⟩
    | io xs =>
      simp only [look, hs, Option.some.injEq, Prod.mk.injEq] at h
      obtain ⟨rfl, rfl⟩ := h
      obtain ⟨a, e', _, o⟩ := qs
      rw [e] at e'; cases e'
      obtain ⟨vs, h, r⟩ := o.at_
      exact ⟨rfl, .inr ⟨a, vs, _, rfl, rfl, h, o.ln, r⟩⟩
theorem look_ok (q : Rel K J O F H σ ρ) {w : W} {v : V} (r : RepWd K F H σ w v) {d : D} {ρ1 : En} (h : look w ρ = some (d, ρ1)) : ρ1 = ρ ∧ RepW K F H d v := by
  cases w with
  | v d' => cases h; exact ⟨rfl, .inl r⟩
  | sl i => exact slot_read q r h
theorem looks_ok (q : Rel K J O F H σ ρ) : ∀ {ws : List W} {vs : List V} {ds : List D} {ρ1 : En}, RepWds K F H σ ws vs → looks ws ρ = some (ds, ρ1) → ρ1 = ρ ∧ RepWs K F H ds vs
  | [], _, _, _, r, h => by cases h; rw [show _ = [] from r]; exact ⟨rfl, .nil⟩
  | w :: ws, _, _, _, ⟨v, r, e, hv, t⟩, h => by
    obtain ⟨d, ρ2, h1, h2⟩ := bnd_some (show bnd (look w) _ ρ = _ from h)
    obtain ⟨e1, rd⟩ := look_ok q hv h1
    rw [e1] at h2
    obtain ⟨ds, ρ3, h3, h4⟩ := bnd_some h2
    obtain ⟨e2, rds⟩ := looks_ok q t h3
    cases h4
    rw [e]
    exact ⟨e2, .cons rd rds⟩
/-- a slot is stored: not the one that is handed on -/
theorem getElem?_set_cases {α : Type} {l : List α} {i j : Nat} {a b : α} (h : (l.set i a)[j]? = some b) : (i = j ∧ b = a) ∨ (i ≠ j ∧ l[j]? = some b) := by
  by_cases e : i = j
  · subst e
    by_cases hl : i < l.length
    · rw [List.getElem?_set_self hl] at h; cases h; exact .inl ⟨rfl, rfl⟩
    · rw [List.getElem?_eq_none (by rw [List.length_set]; omega)] at h; cases h
  · rw [List.getElem?_set_ne e] at h; exact .inr ⟨e, h⟩
theorem own_set {i j : Nat} {s : SV} (h : ownAt (ρ.set i s) j) : (i = j ∧ s.isOwn = true) ∨ (i ≠ j ∧ ownAt ρ j) := by
  obtain ⟨s', e, o⟩ := h
  rcases getElem?_set_cases e with ⟨e1, e2⟩ | ⟨e1, e2⟩
  · subst e2; exact .inl ⟨e1, o⟩
  · exact .inr ⟨e1, s', e2, o⟩
theorem getElem?_set_me {α : Type} {l : List α} {i : Nat} {a : α} (h : i < l.length) : (l.set i a)[i]? = some a := List.getElem?_set_self h
/-- the name i is stored -/
theorem Rel.store (q : Rel K J O F H σ ρ) {i : Nat} {r : R} {v : V} (p : RepR K O F H σ ρ r v) (hi : i < ρ.length) : Rel K J O F H (σ.set i (some v)) (ρ.set i r.sv) := by
  have hs : i < σ.length := by rw [q.len]; exact hi
  refine ⟨by rw [List.length_set, List.length_set]; exact q.len, q.tr, q.dj, fun j s e => ?_, fun j k a hjk hj hk ej ek => ?_⟩
  · rcases getElem?_set_cases e with ⟨rfl, e2⟩ | ⟨e1, e2⟩
    · subst e2
      cases r with
      | d d => exact ⟨v, getElem?_set_me hs, p⟩
      | fr xs =>
        obtain ⟨a, rfl, o, _⟩ := p
        exact ⟨a, getElem?_set_me hs, o⟩
    · have t := q.slot j s e2
      cases s with
      | un => trivial
      | d d => obtain ⟨w, e3, t⟩ := t; exact ⟨w, by rw [List.getElem?_set_ne e1]; exact e3, t⟩
      | own ys => obtain ⟨w, e3, t⟩ := t; exact ⟨w, by rw [List.getElem?_set_ne e1]; exact e3, t⟩
      | io ys => obtain ⟨w, e3, t⟩ := t; exact ⟨w, by rw [List.getElem?_set_ne e1]; exact e3, t⟩
  · have one : ∀ {j k : Nat}, i = j → i ≠ k → r.sv.isOwn = true → ownAt ρ k → (σ.set i (some v))[j]? = some (some (.ref a)) → (σ.set i (some v))[k]? = some (some (.ref a)) → False := fun {j k} e ne ow ok ej ek => by
      subst e
      cases r with
      | d d => cases ow
      | fr xs =>
        obtain ⟨b, rfl, o, nj⟩ := p
        rw [getElem?_set_me hs] at ej
        cases ej
        rw [List.getElem?_set_ne ne] at ek
        exact nj k ok ek
    rcases own_set hj with ⟨e1, o1⟩ | ⟨e1, o1⟩
    · rcases own_set hk with ⟨e2, o2⟩ | ⟨e2, o2⟩
      · exact hjk (e1.symm.trans e2)
      · exact one e1 e2 o1 o2 ej ek
    · rcases own_set hk with ⟨e2, o2⟩ | ⟨e2, o2⟩
      · exact one e2 e1 o2 o1 ek ej
      · rw [List.getElem?_set_ne e1] at ej
        rw [List.getElem?_set_ne e2] at ek
        exact q.sep j k a hjk o1 o2 ej ek
/-- the list of slot i is written -/
theorem Rel.write (q : Rel K J O F H σ ρ) {i : Nat} {a : Addr} {ys : List D} {ws : List V} (e : σ[i]? = some (some (.ref a))) (z : ys.length ≤ SZ) (rl : RepL K F H ys ws) {s s' : SV} (es : ρ[i]? = some s)
    (hs : (∃ xs, s = .own xs ∧ s' = .own ys) ∨ ∃ xs, s = .io xs ∧ s' = .io ys) : Stp O F H F (upd H a (.lst ws)) ∧ Rel K J O F (upd H a (.lst ws)) σ (ρ.set i s') := by
  have hown : ownAt ρ i := by
    rcases hs with ⟨xs, rfl, _⟩ | ⟨xs, rfl, _⟩
    · exact ⟨_, es, rfl⟩
    · exact ⟨_, es, rfl⟩
  obtain ⟨a', xs', e', o, hj⟩ := q.ownA hown
  rw [e] at e'; cases e'
  have st : Stp O F H F (upd H a (.lst ws)) := ⟨fun b hb => upd_ne fun z => by
    subst z
    rcases hb with hb | hb
    · exact o.nf hb
    · exact o.no hb, fun _ h => h⟩
  have l := st.le
  have hlt : i < ρ.length := (List.getElem?_eq_some_iff.mp es).1
  refine ⟨st, by rw [List.length_set]; exact q.len, fun b hb => by rw [st.keep b hb]; exact q.tr b hb, q.dj, fun j t ej => ?_, fun j k b hjk oj ok ej ek => ?_⟩
  · rcases getElem?_set_cases ej with ⟨rfl, e2⟩ | ⟨e1, e2⟩
    · subst e2
      have ow : Ow K O F (upd H a (.lst ws)) a ys := ⟨o.nf, o.no, z, ws, upd_same, rl.le l⟩
      rcases hs with ⟨xs, rfl, rfl⟩ | ⟨xs, rfl, rfl⟩
      · exact ⟨a, e, ow⟩
      · rcases hj with hj | ⟨_, hj⟩
        · rw [es] at hj; cases hj
        · exact ⟨a, e, hj, ow⟩
    · have t2 := q.slot j t e2
      have ne : ∀ {b : Addr}, t.isOwn = true → σ[j]? = some (some (.ref b)) → b ≠ a := fun {b} ho eb z => by
        subst z
        exact q.sep i j b e1 hown ⟨t, e2, ho⟩ e eb
      cases t with
      | un => trivial
      | d d => obtain ⟨w, e3, t2⟩ := t2; exact ⟨w, e3, t2.le l⟩
      | own zs => obtain ⟨w, e3, t2⟩ := t2; exact ⟨w, e3, t2.keep l (upd_ne (ne rfl e3)) t2.nf⟩
      | io zs => obtain ⟨w, e3, m, t2⟩ := t2; exact ⟨w, e3, m, t2.keep l (upd_ne (ne rfl e3)) t2.nf⟩
  · have low : ∀ {j}, ownAt (ρ.set i s') j → ownAt ρ j := fun {j} h => by
      rcases own_set h with ⟨rfl, _⟩ | ⟨_, h⟩
      · exact hown
      · exact h
    exact q.sep j k b hjk (low oj) (low ok) ej ek
/-- the slot i, one's own, is frozen -/
theorem Rel.freezeAt (q : Rel K J O F H σ ρ) {i : Nat} {xs : List D} (e : ρ[i]? = some (.own xs)) : ∃ F' v, σ[i]? = some (some v) ∧ Stp O F H F' H ∧ Rel K J O F' H σ (ρ.set i (.d (.lst xs))) ∧ Rep K F' H (.lst xs) v := by
  obtain ⟨a, e1, o⟩ := q.slot i _ e
  obtain ⟨vs, h, rl⟩ := o.at_
  have ha : H a ≠ none := by rw [h]; intro z; cases z
  have hown : ownAt ρ i := ⟨_, e, rfl⟩
  have l : Le F H (addF F a) H := ⟨fun _ _ => rfl, fun _ h => .inl h⟩
  have hlt : i < σ.length := (List.getElem?_eq_some_iff.mp e1).1
  have rp : Rep K (addF F a) H (.lst xs) (.ref a) := ⟨a, vs, rfl, .inr rfl, h, o.ln, rl.le l⟩
  have low : ∀ {j}, ownAt (ρ.set i (.d (.lst xs))) j → i ≠ j ∧ ownAt ρ j := fun {j} h => by
    rcases own_set h with ⟨_, h⟩ | h
    · cases h
    · exact h
  refine ⟨addF F a, .ref a, e1, ⟨fun _ _ => rfl, fun _ h => .inl h⟩, ⟨by rw [List.length_set]; exact q.len, fun b hb => ?_, fun b hb z => ?_, fun j s ej => ?_, fun j k b hjk oj ok ej ek => q.sep j k b hjk (low oj).2 (low ok).2 ej ek⟩, rp⟩
  · rcases hb with (hb | rfl) | hb
    · exact q.tr b (.inl hb)
    · exact ha
    · exact q.tr b (.inr hb)
  · rcases z with z | rfl
    · exact q.dj b hb z
    · exact o.no hb
  · rcases getElem?_set_cases ej with ⟨rfl, e2⟩ | ⟨e2, e3⟩
    · subst e2; exact ⟨.ref a, e1, rp⟩
    · have t := q.slot j s e3
      have ow : ∀ {b ys}, s.isOwn = true → σ[j]? = some (some (.ref b)) → Ow K O F H b ys → Ow K O (addF F a) H b ys := fun {b ys} ho eb ob => ob.keep l rfl fun z => by
        rcases z with z | rfl
        · exact ob.nf z
        · exact q.sep i j _ e2 hown ⟨s, e3, ho⟩ e1 eb
      cases s with
      | un => trivial
      | d d => obtain ⟨w, e4, t⟩ := t; exact ⟨w, e4, t.le l⟩
      | own ys => obtain ⟨b, e4, t⟩ := t; exact ⟨b, e4, ow rfl e4 t⟩
      | io ys => obtain ⟨b, e4, m, t⟩ := t; exact ⟨b, e4, m, ow rfl e4 t⟩
end
end Rm

set_option Elab.async false
set_option linter.all false
set_option maxRecDepth 100000
set_option maxHeartbeats 4000000
/-! R5: what a call of a function of the table promises; the call itself. -/
namespace Rm
open PySem PySem.Spec L2

def sS (s : String) : Str := Str.ofString s
def sSs (l : List String) : List Str := l.map sS

def AvOk (K : PySem.W.Frag) (O F : Fz) (H : Hp) : Av → V → Prop
  | .d d, v => Rep K F H d v
  | .io xs, v => ∃ a, v = .ref a ∧ Ow K O F H a xs
def AvsOk (K : PySem.W.Frag) (O F : Fz) (H : Hp) : List Av → List V → Prop
  | [], vs => vs = []
  | w :: ws, vs => ∃ v r, vs = v :: r ∧ AvOk K O F H w v ∧ AvsOk K O F H ws r
def ioA : List Av → List V → List Addr
  | .io _ :: as, .ref a :: vs => a :: ioA as vs
  | _ :: as, _ :: vs => ioA as vs
  | _, _ => []
def IosOk (K : PySem.W.Frag) (O F : Fz) (H : Hp) : List Addr → List (List D) → Prop
  | [], [] => True
  | a :: as, xs :: xss => Ow K O F H a xs ∧ IosOk K O F H as xss
  | _, _ => False
structure Post (K : PySem.W.Frag) (O F : Fz) (H : Hp) (adr : List Addr) (r : R) (ios : List (List D)) (v : V) (F' : Fz) (H' : Hp) : Prop where
  stp : Stp O F H F' H'
  dj : ∀ a, O a → ¬ F' a
  tr : ∀ a, F' a ∨ O a → H' a ≠ none
  io : IosOk K O F' H' adr ios
  res : match r with
    | .d d => Rep K F' H' d v
    | .fr xs => ∃ a, v = .ref a ∧ Ow K O F' H' a xs ∧ a ∉ adr
def spC (K : PySem.W.Frag) (C : Nat → List Av → Option (R × List (List D))) (f n : Nat) : Sp := fun vs H Q _ => ∃ (O F : Fz) (as : List Av) (r : R) (ios : List (List D)),
  vs.length = n ∧ (∀ a, F a ∨ O a → H a ≠ none) ∧ (∀ a, O a → ¬ F a) ∧ AvsOk K O F H as vs ∧ (ioA as vs).Nodup ∧ C f as = some (r, ios) ∧
  ∀ v F' H', Post K O F H (ioA as vs) r ios v F' H' → Q v H'

section
variable {K : PySem.W.Frag} {J : List (Nat × Addr)} {O F F' : Fz} {H H' : Hp} {σ : L2.St} {ρ ρ' : En}
theorem nodupN_cons {i : Nat} {is : List Nat} (h : nodupN (i :: is) = true) : i ∉ is ∧ nodupN is = true := by
  have q := Bool.and_eq_true_iff.mp (show (!is.contains i && nodupN is) = true from h)
  refine ⟨fun m => ?_, q.2⟩
  have z : is.contains i = true := List.contains_iff_mem.mpr m
  rw [z] at q
  exact absurd q.1 (by decide)
theorem putBack_spec : ∀ {is : List Nat} {xss : List (List D)} {ρ ρ' : En}, nodupN is = true → putBack is xss ρ = some ρ' →
    ρ'.length = ρ.length ∧ (∀ j, j ∉ is → ρ'[j]? = ρ[j]?) ∧
    ∀ (m i : Nat), is[m]? = some i → ∃ xs : List D, xss[m]? = some xs ∧ ((∃ ys, ρ[i]? = some (.own ys) ∧ ρ'[i]? = some (.own xs)) ∨ ∃ ys, ρ[i]? = some (.io ys) ∧ ρ'[i]? = some (.io xs))
  | [], [], _, _, _, h => by cases h; exact ⟨rfl, fun _ _ => rfl, fun m i e => by simp at e⟩
  | [], _ :: _, _, _, _, h => by cases h
  | _ :: _, [], _, _, _, h => by cases h
  | i :: is, xs :: xss, ρ, ρ', nd, h => by
    obtain ⟨ni, nd⟩ := nodupN_cons nd
    have go : ∀ s', putBack is xss (ρ.set i s') = some ρ' → i < ρ.length → (ρ'.length = ρ.length ∧ (∀ j, j ∉ i :: is → ρ'[j]? = ρ[j]?) ∧ ρ'[i]? = some s' ∧
        ∀ (m k : Nat), is[m]? = some k → ∃ zs : List D, xss[m]? = some zs ∧ ((∃ ys, ρ[k]? = some (.own ys) ∧ ρ'[k]? = some (.own zs)) ∨ ∃ ys, ρ[k]? = some (.io ys) ∧ ρ'[k]? = some (.io zs))) := fun s' h hi => by
      obtain ⟨h1, h2, h3⟩ := putBack_spec nd h
      refine ⟨by rw [h1, List.length_set], fun j hj => ?_, by rw [h2 i ni]; exact List.getElem?_set_self hi, fun m k e => ?_⟩
      · rw [h2 j fun z => hj (List.mem_cons_of_mem _ z)]
        exact List.getElem?_set_ne fun z => hj (by rw [z]; exact List.mem_cons_self)
      · have hk : i ≠ k := fun z => ni (by rw [z]; exact List.mem_of_getElem? e)
        obtain ⟨zs, h4, h5⟩ := h3 m k e
        rw [List.getElem?_set_ne hk] at h5
        exact ⟨zs, h4, h5⟩
    have fin : ∀ s', putBack is xss (ρ.set i s') = some ρ' → i < ρ.length → ((∃ ys, ρ[i]? = some (.own ys) ∧ s' = .own xs) ∨ ∃ ys, ρ[i]? = some (.io ys) ∧ s' = .io xs) → ρ'.length = ρ.length ∧ (∀ j, j ∉ i :: is → ρ'[j]? = ρ[j]?) ∧
        ∀ (m k : Nat), (i :: is)[m]? = some k → ∃ zs : List D, (xs :: xss)[m]? = some zs ∧ ((∃ ys, ρ[k]? = some (.own ys) ∧ ρ'[k]? = some (.own zs)) ∨ ∃ ys, ρ[k]? = some (.io ys) ∧ ρ'[k]? = some (.io zs)) := fun s' h hi hs => by
      obtain ⟨h1, h2, h3, h4⟩ := go s' h hi
      refine ⟨h1, h2, fun m k e => ?_⟩
      cases m with
      | zero =>
        cases (show some i = some k from e)
        refine ⟨xs, rfl, ?_⟩
        rcases hs with ⟨ys, e1, rfl⟩ | ⟨ys, e1, rfl⟩
        · exact .inl ⟨ys, e1, h3⟩
        · exact .inr ⟨ys, e1, h3⟩
      | succ m => exact h4 m k (by simpa using e)
    cases e : ρ[i]? with
    | none => simp [putBack, e] at h
    | some s =>
      have hi : i < ρ.length := (List.getElem?_eq_some_iff.mp e).1
      cases s with
      | un => simp [putBack, e] at h
      | d d => simp [putBack, e] at h
      | own ys =>
        simp only [putBack, e] at h
        exact fin _ h hi (.inl ⟨ys, e, rfl⟩)
      | io ys =>
        simp only [putBack, e] at h
        exact fin _ h hi (.inr ⟨ys, e, rfl⟩)
/-- the foreign things of a callee: ours that we do not hand on, too -/
def outer (O : Fz) (σ : L2.St) (ρ : En) (is : List Nat) : Fz := fun a => O a ∨ ∃ j, j ∉ is ∧ ownAt ρ j ∧ σ[j]? = some (some (.ref a))
theorem contents_ok (q : Rel K J O F H σ ρ) (is : List Nat) : ∀ {ars : List Ar} {as : List Av} {vs : List V}, (∀ i ∈ Ar.slots ars, i ∈ is) → RepArs K F H σ ars vs → contents ars ρ = some as →
    AvsOk K (outer O σ ρ is) F H as vs ∧ (Ar.slots ars).length = (ioA as vs).length ∧ ∀ (m i : Nat), (Ar.slots ars)[m]? = some i → ∃ a : Addr, (ioA as vs)[m]? = some a ∧ σ[i]? = some (some (.ref a)) ∧ ownAt ρ i
  | [], as, vs, _, r, h => by
    cases h
    rw [show vs = [] from r]
    exact ⟨rfl, rfl, fun m i e => by simp [Ar.slots] at e⟩
  | .d d :: ars, as, vs, sub, ⟨v, vr, e, hv, t⟩, h => by
    obtain ⟨as', h1, rfl⟩ := Option.map_eq_some_iff.mp (show (contents ars ρ).map _ = some as from h)
    obtain ⟨g1, g2, g3⟩ := contents_ok q is (ars := ars) sub t h1
    subst e
    exact ⟨⟨v, vr, rfl, hv, g1⟩, g2, g3⟩
  | .sl i :: ars, as, vs, sub, ⟨v, vr, e, hv, t⟩, h => by
    have step : ∀ {xs : List D} {s : SV}, ρ[i]? = some s → s.isOwn = true → (∃ a, σ[i]? = some (some (.ref a)) ∧ Ow K O F H a xs) → (contents ars ρ).map (.io xs :: ·) = some as → AvsOk K (outer O σ ρ is) F H as vs ∧ (Ar.slots (.sl i :: ars)).length = (ioA as vs).length ∧
        ∀ (m j : Nat), (Ar.slots (.sl i :: ars))[m]? = some j → ∃ a : Addr, (ioA as vs)[m]? = some a ∧ σ[j]? = some (some (.ref a)) ∧ ownAt ρ j := fun {xs s} es ho ⟨a, ea, o⟩ h => by
      obtain ⟨as', h1, rfl⟩ := Option.map_eq_some_iff.mp h
      obtain ⟨g1, g2, g3⟩ := contents_ok q is (ars := ars) (fun j hj => sub j (List.mem_cons_of_mem _ hj)) t h1
      subst e
      have ev : v = .ref a := by
        rw [show σ[i]? = some (some v) from hv] at ea
        cases ea; rfl
      subst ev
      refine ⟨⟨_, vr, rfl, ⟨a, rfl, o.nf, fun z => ?_, o.ln, o.at_⟩, g1⟩, by show _ + 1 = _ + 1; rw [g2], fun m j ej => ?_⟩
      · rcases z with z | ⟨j, nj, oj, ej⟩
        · exact o.no z
        · have hij : i ≠ j := fun z => nj (by rw [← z]; exact sub i List.mem_cons_self)
          exact q.sep i j a hij ⟨s, es, ho⟩ oj ea ej
      · cases m with
        | zero =>
          cases (show some i = some j from ej)
          exact ⟨a, rfl, ea, s, es, ho⟩
        | succ m => exact g3 m j (by simpa [Ar.slots] using ej)
    have hc : contents (.sl i :: ars) ρ = some as := h
    cases es : ρ[i]? with
    | none => simp [contents, es] at hc
    | some s =>
      have qs := q.slot i s es
      cases s with
      | un => simp [contents, es] at hc
      | d d => simp [contents, es] at hc
      | own xs =>
        simp only [contents, es] at hc
        exact step es rfl qs hc
      | io xs =>
        simp only [contents, es] at hc
        obtain ⟨a, e1, _, o⟩ := qs
        exact step es rfl ⟨a, e1, o⟩ hc
theorem IosOk.get : ∀ {adr : List Addr} {ios : List (List D)} {m : Nat} {a : Addr} {xs : List D}, IosOk K O F H adr ios → adr[m]? = some a → ios[m]? = some xs → Ow K O F H a xs
  | [], _, _, _, _, _, e, _ => by simp at e
  | _ :: _, [], _, _, _, h, _, _ => h.elim
  | _ :: _, _ :: _, 0, _, _, h, e1, e2 => by simp at e1 e2; subst e1 e2; exact h.1
  | _ :: as, _ :: xss, m + 1, a, xs, h, e1, e2 => IosOk.get (m := m) h.2 (by simpa using e1) (by simpa using e2)
theorem slots_nodup : ∀ {is : List Nat}, nodupN is = true → is.Nodup
  | [], _ => List.nodup_nil
  | i :: is, h => by
    obtain ⟨a, b⟩ := nodupN_cons h
    exact List.nodup_cons.mpr ⟨a, slots_nodup b⟩
theorem doCall_ok {G : Cfg} {f n : Nat} {ars : List Ar} {vs : List V} {r : R} {Q : VK} {E : XK} (q : Rel K J O F H σ ρ) (ra : RepArs K F H σ ars vs) (hn : vs.length = n) (h : doCall G f ars ρ = some (r, ρ'))
    (hQ : ∀ v F' H', Stp O F H F' H' → Rel K J O F' H' σ ρ' → RepR K O F' H' σ ρ' r v → Q v H') : spC K G.C f n vs H Q E := by
  unfold doCall at h
  split at h
  · rename_i nd
    split at h
    · cases h
    · rename_i as hc
      split at h
      · cases h
      · rename_i r' ios hC
        split at h
        · cases h
        · rename_i ρ1 hp
          cases h
          obtain ⟨c1, c2, c3⟩ := contents_ok q (Ar.slots ars) (fun _ z => z) ra hc
          obtain ⟨p1, p2, p3⟩ := putBack_spec nd hp
          have hO : ∀ a, outer O σ ρ (Ar.slots ars) a → H a ≠ none ∧ ¬ F a := fun a ha => by
            rcases ha with ha | ⟨j, nj, oj, ej⟩
            · exact ⟨q.tr a (.inr ha), q.dj a ha⟩
            · obtain ⟨b, xs, e1, o, _⟩ := q.ownA oj
              rw [ej] at e1; cases e1
              obtain ⟨ws, hw, _⟩ := o.at_
              exact ⟨(by rw [hw]; intro z; cases z), o.nf⟩
          have nda : (ioA as vs).Nodup := by
            refine List.pairwise_iff_getElem.mpr fun m m' hm0 hm' hmm e => ?_
            have l1 : m < (Ar.slots ars).length := by rw [c2]; exact hm0
            have l2 : m' < (Ar.slots ars).length := by rw [c2]; exact hm'
            obtain ⟨a, e1, e2, o1⟩ := c3 m _ (List.getElem?_eq_getElem l1)
            obtain ⟨b, e3, e4, o2⟩ := c3 m' _ (List.getElem?_eq_getElem l2)
            rw [List.getElem?_eq_getElem hm0] at e1
            rw [List.getElem?_eq_getElem hm'] at e3
            cases e1
            cases e3
            rw [← e] at e4
            refine q.sep _ _ _ (fun z => ?_) o1 o2 e2 e4
            exact absurd ((List.getElem_inj (slots_nodup nd)).mp z) (by omega)
          refine ⟨outer O σ ρ (Ar.slots ars), F, as, r, ios, hn, fun a ha => ha.elim (fun z => q.tr a (.inl z)) fun z => (hO a z).1, fun a ha => (hO a ha).2, c1, nda, hC, fun v F' H' P => ?_⟩
          have st : Stp O F H F' H' := ⟨fun a ha => P.stp.keep a (ha.imp id .inl), P.stp.sub⟩
          have l := st.le
          have io : ∀ {i : Nat}, i ∈ Ar.slots ars → ∃ a xs, σ[i]? = some (some (.ref a)) ∧ Ow K (outer O σ ρ (Ar.slots ars)) F' H' a xs ∧ a ∈ ioA as vs ∧ ((∃ ys, ρ[i]? = some (.own ys) ∧ ρ'[i]? = some (.own xs)) ∨ ∃ ys, ρ[i]? = some (.io ys) ∧ ρ'[i]? = some (.io xs)) := fun {i} hi => by
            obtain ⟨m, hm, em⟩ := List.mem_iff_getElem.mp hi
            have em' : (Ar.slots ars)[m]? = some i := by rw [← em]; exact List.getElem?_eq_getElem hm
            obtain ⟨a, e1, e2, _⟩ := c3 m i em'
            obtain ⟨xs, e3, e4⟩ := p3 m i em'
            exact ⟨a, xs, e2, P.io.get e1 e3, List.mem_of_getElem? e1, e4⟩
          have low : ∀ {j}, ownAt ρ' j → ownAt ρ j := fun {j} ⟨s, e, o⟩ => by
            by_cases hj : j ∈ Ar.slots ars
            · obtain ⟨a, xs, _, _, _, e4⟩ := io hj
              rcases e4 with ⟨ys, e5, _⟩ | ⟨ys, e5, _⟩
              · exact ⟨_, e5, rfl⟩
              · exact ⟨_, e5, rfl⟩
            · rw [p2 j hj] at e; exact ⟨s, e, o⟩
          refine hQ v F' H' st ⟨q.len.trans p1.symm, fun a ha => P.tr a (ha.imp id .inl), fun a ha => P.dj a (.inl ha), fun j s ej => ?_, fun i j a hij oi oj => q.sep i j a hij (low oi) (low oj)⟩ ?_
          · by_cases hj : j ∈ Ar.slots ars
            · obtain ⟨a, xs, e1, o, _, e4⟩ := io hj
              have o' : Ow K O F' H' a xs := ⟨o.nf, fun z => o.no (.inl z), o.ln, o.at_⟩
              rcases e4 with ⟨ys, e5, e6⟩ | ⟨ys, e5, e6⟩
              · rw [ej] at e6; cases e6
                exact ⟨a, e1, o'⟩
              · rw [ej] at e6; cases e6
                obtain ⟨b, e7, m7, _⟩ := q.slot j _ e5
                rw [e1] at e7; cases e7
                exact ⟨a, e1, m7, o'⟩
            · rw [p2 j hj] at ej
              have t := q.slot j s ej
              have keepO : ∀ {b ys}, s.isOwn = true → σ[j]? = some (some (.ref b)) → Ow K O F H b ys → Ow K O F' H' b ys := fun {b ys} ho eb ob => by
                have hb : outer O σ ρ (Ar.slots ars) b := .inr ⟨j, hj, ⟨s, ej, ho⟩, eb⟩
                exact ob.keep l (P.stp.keep b (.inr hb)) (P.dj b hb)
              cases s with
              | un => trivial
              | d d => obtain ⟨w, e1, t⟩ := t; exact ⟨w, e1, t.le l⟩
              | own ys => obtain ⟨b, e1, t⟩ := t; exact ⟨b, e1, keepO rfl e1 t⟩
              | io ys => obtain ⟨b, e1, m, t⟩ := t; exact ⟨b, e1, m, keepO rfl e1 t⟩
          · have res := P.res
            cases r with
            | d d => exact res
            | fr xs =>
              obtain ⟨a, e, o, na⟩ := res
              refine ⟨a, e, ⟨o.nf, fun z => o.no (.inl z), o.ln, o.at_⟩, fun j oj ej => ?_⟩
              by_cases hj : j ∈ Ar.slots ars
              · obtain ⟨b, ys, e1, _, mb, _⟩ := io hj
                rw [ej] at e1; cases e1
                exact na mb
              · exact o.no (.inr ⟨j, hj, low oj, ej⟩)
  · cases h
end
/-- how a function of the table is called -/
def KwB (fd : FuncData) (ps : List Str) (e : Kw) : Prop := ∀ (us ws as : List Value), us.length = e.np → ws.length = e.names.length → permute (us ++ ws) e.perm = some as → as.length = ps.length ∧ ∀ s : Shared, BindsTo s fd ⟨us, (sSs e.names).zip ws⟩ (ps.zip as)
def Fn.ps (fn : Fn) : List Str := sSs (fn.slots.take fn.ar)
def FnK (P : Program) (w : World) (K : PySem.W.Frag) (mg : Str → Option Value) (base : Heap) (T : Tab) (C : Nat → List Av → Option (R × List (List D))) (k f : Nat) (fn : Fn) : Prop :=
  ∃ (ad : Addr) (fd : FuncData), mg (sS fn.nm) = some (.ref ad) ∧ PySem.W.keepIn K (.ref ad) = true ∧ Binds K fd fn.ps [] ∧ (∀ e ∈ T.kws, e.f = f → KwB fd fn.ps e) ∧ FnOk P w K mg base CX0 k ad fd fn.ps (spC K C f fn.ps.length)
end Rm

set_option Elab.async false
set_option linter.all false
set_option maxRecDepth 100000
set_option maxHeartbeats 4000000
/-! R6: the checker, and that what the small language gives is what the code does: expressions. -/
namespace Rm
open PySem PySem.Spec L2

/-! ### the checker -/
def Bf.nm : Bf → Str
  | .len => "len" | .int => "int" | .str => "str" | .abs => "abs" | .divmod => "divmod" | .all => "all" | .any => "any" | .sum => "sum" | .max => "max" | .min => "min" | .tuple => "tuple" | .list => "list"
def Ty.nm : Ty → Str
  | .int => "int" | .bool => "bool" | .str => "str" | .tuple => "tuple" | .list => "list" | .dict => "dict"
def Mt.nm : Mt → Str
  | .join => "join" | .zfill => "zfill" | .index => "index" | .ljust => "ljust"
def Mc.nm : Mc → Str
  | .append => "append" | .extend => "extend"
def bltNames : List Str := ["len", "int", "str", "abs", "divmod", "all", "any", "sum", "max", "min", "tuple", "list", "bool", "dict", "isinstance", "range", "enumerate", "zip"]
def okNm (x : Str) : Bool := !decide (x = "__debug__") && !decide (x = "__classdict__") && !decide (x = "__name__")
def visC (sc : Scope) (x : Str) : Bool := match sc.names.lookup x with
  | some .local => true
  | some .cell => true
  | some .free => true
  | _ => false
def locC (sc : Scope) (st : Str → Bool) (x : Str) : Bool := match sc.names.lookup x with
  | some .local => true
  | some .cell => st x
  | _ => false
def gloC (sc : Scope) (x : Str) : Bool := match sc.names.lookup x with
  | some .globalImplicit => true
  | _ => false
def nmAt (N : List Str) (i : Nat) (x : Str) : Bool := decide (N[i]? = some x)
def isNameX (sc : Scope) (n : Str) : Expr → Bool
  | .Name x _ => decide (x = n) && gloC sc x
  | _ => false
def ownOf (N : List Str) (own : List Nat) : List (Str × Nat) := own.filterMap fun i => (N[i]?).map fun x => (x, i)
def ckA : E → Bool
  | .absent => true
  | _ => false
def plainO : Expr → Bool
  | .Call (.Name x _) as ks _ => !as.isEmpty || !ks.isEmpty || !decide (x = "super")
  | .Call .. => false
  | _ => true
section
variable (T : Tab) (N : List Str)
mutual
def ckE : E → Scope → (Str → Bool) → Expr → Bool
  | .var i => fun sc st x => match x with
    | .Name n _ => nmAt N i n && visC sc n && okNm n
    | _ => false
  | .int k => fun sc st x => match x with
    | .Constant (.int j) _ _ => decide (k = j)
    | _ => false
  | .str z => fun sc st x => match x with
    | .Constant (.str y) _ _ => decide (y = mkS z) && okS z
    | _ => false
  | .bl b => fun sc st x => match x with
    | .Constant (.bool c) _ _ => b == c
    | _ => false
  | .non => fun sc st x => match x with
    | .Constant .none _ _ => true
    | _ => false
  | .glob g => fun sc st x => match x with
    | .Name n _ => (match T.con[g]? with | some c => decide (n = sS c.1) | none => false) && gloC sc n && okNm n
    | _ => false
  | .bin o a b => fun sc st x => match x with
    | .BinOp p op q _ => decide (op = o.py) && ckE a sc st p && ckE b sc st q
    | _ => false
  | .neg a => fun sc st x => match x with
    | .UnaryOp .USub p _ => ckE a sc st p
    | _ => false
  | .cmp o a b => fun sc st x => match x with
    | .Compare p [op] [q] _ => decide (op = o.py) && ckE a sc st p && ckE b sc st q && notSet q
    | _ => false
  | .chain o o' a b c => fun sc st x => match x with
    | .Compare p [op, op'] [q, r] _ => decide (op = o.py) && decide (op' = o'.py) && ckE a sc st p && ckE b sc st q && ckE c sc st r && notSet q && notSet r
    | _ => false
  | .and a b => fun sc st x => match x with
    | .BoolOp .And (p :: q :: r) ps => ckE a sc st p && (match r with | [] => ckE b sc st q | _ :: _ => ckE b sc st (.BoolOp .And (q :: r) ps))
    | _ => false
  | .or a b => fun sc st x => match x with
    | .BoolOp .Or (p :: q :: r) ps => ckE a sc st p && (match r with | [] => ckE b sc st q | _ :: _ => ckE b sc st (.BoolOp .Or (q :: r) ps))
    | _ => false
  | .not a => fun sc st x => match x with
    | .UnaryOp .Not p _ => ckE a sc st p
    | _ => false
  | .ife c a b => fun sc st x => match x with
    | .IfExp p q r _ => ckE c sc st p && ckE a sc st q && ckE b sc st r
    | _ => false
  | .tup es => fun sc st x => match x with
    | .Tuple ps _ _ => ckEs es sc st ps && ps.all notStar
    | _ => false
  | .lst es => fun sc st x => match x with
    | .List ps _ => ckEs es sc st ps && ps.all notStar
    | _ => false
  | .idx a b => fun sc st x => match x with
    | .Subscript p q _ => ckE a sc st p && ckE b sc st q && notSlice q
    | _ => false
  | .sli a lo hi => fun sc st x => match x with
    | .Subscript p (.Slice l h none _) _ => ckE a sc st p && (match l with | none => ckA lo | some l => ckE lo sc st l && !ckA lo) && (match h with | none => ckA hi | some h => ckE hi sc st h && !ckA hi)
    | _ => false
  | .absent => fun _ _ _ => false
  | .call f as => fun sc st x => match x with
    | .Call (.Name n _) ps [] _ => (match T.fns[f]? with | some fn => decide (n = sS fn.nm) && decide (ps.length = fn.ps.length) | none => false) && gloC sc n && okNm n && ckEs as sc st ps && ps.all notStar
    | _ => false
  | .callK f as ks ix => fun sc st x => match x with
    | .Call (.Name n _) ps kws _ => (match T.fns[f]?, T.kws[ix]? with
        | some fn, some kw => decide (n = sS fn.nm) && decide (kw.f = f) && decide (ps.length = kw.np) && decide (kws.map (·.arg) = (sSs kw.names).map some) && decide (0 < fn.ps.length)
        | _, _ => false) && gloC sc n && okNm n && ckEs as sc st ps && ps.all notStar && ckEs ks sc st (kws.map (·.value)) && (kws.map (·.value)).all notStar && !kws.isEmpty
    | _ => false
  | .blt b as => fun sc st x => match x with
    | .Call (.Name n _) (p :: ps) [] _ => decide (n = b.nm) && gloC sc n && ckEs as sc st (p :: ps) && (p :: ps).all notStar
    | _ => false
  | .minN e => fun sc st x => match x with
    | .Call (.Name n _) [p] [⟨some m, .Constant .none _ _, _⟩] _ => decide (n = "min") && gloC sc n && decide (m = "default") && ckE e sc st p && notStar p
    | _ => false
  | .isi e t => fun sc st x => match x with
    | .Call (.Name n _) [p, q] [] _ => decide (n = "isinstance") && gloC sc n && ckE e sc st p && notStar p && isNameX sc t.nm q
    | _ => false
  | .met m r as => fun sc st x => match x with
    | .Call (.Attribute o n ap) (p :: ps) [] pos => decide (n = m.nm) && ckE r sc st o && plainO o && ckEs as sc st (p :: ps) && (p :: ps).all notStar && decide ((p :: ps).length < 20) && (ap.endLine == pos.line)
    | _ => false
  | .mut m i e => fun sc st x => match x with
    | .Call (.Attribute (.Name y _) n ap) [p] [] pos => decide (n = m.nm) && nmAt N i y && visC sc y && okNm y && ckE e sc st p && notStar p && (ap.endLine == pos.line)
    | _ => false
  | .comp own t it c e => fun sc st x => match x with
    | .ListComp el [⟨tg, iter, ifs, as⟩] scope _ => decide (as = 0) && decide ((ownOf N own).map (·.2) = own) && blkC N sc scope (ownOf N own) && (tgS t).all (fun i => own.contains i) && decide (scope.kind = .function) && ckI it sc st tg iter && notSet iter &&
        ckG t (relS scope sc) (fun y => decide (scope.names.lookup y = some .cell)) tg &&
        (match ifs with | [] => ckA c | [i] => ckE c (relS scope sc) (fun y => decide (scope.names.lookup y = some .cell)) i && !ckA c | _ => false) &&
        ckE e (relS scope sc) (fun y => decide (scope.names.lookup y = some .cell)) el
    | _ => false
  | .listIt (.range (.cons e .nil)) => fun sc st x => match x with
    | .Call (.Name n _) [.Call (.Name m _) [p] [] _] [] _ => decide (n = "list") && gloC sc n && decide (m = "range") && gloC sc m && ckE e sc st p && notStar p
    | _ => false
  | .listIt _ => fun _ _ _ => false
def ckEs : Es → Scope → (Str → Bool) → List Expr → Bool
  | .nil => fun _ _ xs => xs.isEmpty
  | .cons e r => fun sc st xs => match xs with
    | x :: xs => ckE e sc st x && ckEs r sc st xs
    | [] => false
  | .star _ _ => fun _ _ _ => false
def ckI : It → Scope → (Str → Bool) → Expr → Expr → Bool
  | .of e => fun sc st tg x => ckE e sc st x
  | .range es => fun sc st tg x => match x with
    | .Call (.Name n _) ps [] _ => decide (n = "range") && gloC sc n && ckEs es sc st ps && ps.all notStar && decide (0 < ps.length) && decide (ps.length ≤ 3)
    | _ => false
  | .enum e k => fun sc st tg x => match tg, x with
    | .Tuple _ _ _, .Call (.Name n _) [p] [] _ => decide (n = "enumerate") && gloC sc n && decide (k = 0) && ckE e sc st p && notStar p
    | .Tuple _ _ _, .Call (.Name n _) [p, .Constant (.int j) _ _] [] _ => decide (n = "enumerate") && gloC sc n && decide (k = j) && rgB k && ckE e sc st p && notStar p
    | _, _ => false
  | .zip _ _ => fun _ _ _ _ => false
def ckG : Tg → Scope → (Str → Bool) → Expr → Bool
  | .name i => fun sc st x => match x with
    | .Name n _ => nmAt N i n && locC sc st n
    | _ => false
  | .tup ts => fun sc st x => match x with
    | .Tuple xs _ _ => ckGs ts sc st xs
    | _ => false
  | .sub i e => fun sc st x => match x with
    | .Subscript (.Name y _) p _ => nmAt N i y && visC sc y && okNm y && ckE e sc st p && notSlice p
    | _ => false
def ckGs : Tgs → Scope → (Str → Bool) → List Expr → Bool
  | .nil => fun _ _ xs => xs.isEmpty
  | .cons t r => fun sc st xs => match xs with
    | x :: xs => ckG t sc st x && ckGs r sc st xs
    | [] => false
end
end

/-- where the code stands -/
structure Ctx (X : Cx) (T : Tab) (G : Cfg) (N : List Str) (sc : Scope) (st : Str → Bool) (k : Nat) : Prop where
  n : X.N = N
  nd : N.Nodup
  scE : X.env.scope = sc
  kd : sc.kind = .function
  calm : X.calm = true
  room : Room k X.A
  xe : X.xe = fun _ _ => False
  stE : ∀ x, st x = true → X.fn x = true
  bl : ∀ x ∈ bltNames, X.mg x = none
  con : ∀ (g : Nat) (c : String × D), T.con[g]? = some c → ∃ u v, X.mg (sS c.1) = some u ∧ RelV v u ∧ ∀ F H, Rep X.K F H c.2 v
  fns : ∀ (f : Nat) (fn : Fn), T.fns[f]? = some fn → FnK X.prog X.w X.K X.mg X.base T G.C k f fn
  cfg : G = T.cfg G.C
end Rm

set_option Elab.async false
set_option linter.all false
set_option maxRecDepth 100000
set_option maxHeartbeats 8000000
/-! R7: expressions: what the small language gives is what the code does (lemmas, one a form). -/
namespace Rm
open PySem PySem.Spec L2

section
variable {X : Cx} {J : List (Nat × Addr)}
/-! ### values, then uses -/
theorem SndV.toD {e : Expr} {m : M R} (h : SndV X J e m) {O F : Fz} {H : Hp} {σ : L2.St} {ρ : En} {r : R} {ρ' : En} {Q : VK} (q : Rel X.K J O F H σ ρ) (hm : m ρ = some (r, ρ'))
    (k : ∀ v F' H', Stp O F H F' H' → Rel X.K J O F' H' σ ρ' → Rep X.K F' H' r.toD v → Q v H') : wE X e σ H Q :=
  h O F H σ ρ r ρ' Q q hm fun v F' H' st q' rr => by
    obtain ⟨F2, st2, q2, r2⟩ := q'.freeze rr
    exact k v F2 H' (st.trans st2) q2 r2
theorem sndW_of {e : Expr} {m : M R} (h : SndV X J e m) : SndW X J e (wV m) := fun O F H σ ρ r ρ' Q q hm k => by
  obtain ⟨x, ρ1, h1, h2⟩ := bnd_some hm
  cases h2
  exact h.toD q h1 fun v F' H' st q' rr => k v F' H' st q' rr
theorem sndT_of {e : Expr} {m : M W} (h : SndW X J e m) (hp : plainT e = true) : SndT X J e (tstW m) := fun O F H σ ρ r ρ' Q q hm k => by
  obtain ⟨w, ρ1, h1, h2⟩ := bnd_some hm
  obtain ⟨d, ρ2, h3, h4⟩ := bnd_some h2
  obtain ⟨t, h5, h6⟩ := lft_some h4
  cases h6
  refine PTto (pt_truth pe_w (test_of hp)) (h O F H σ ρ w ρ1 _ q h1 fun v F' H' st q' rw => ?_)
  obtain ⟨e2, rd⟩ := look_ok q' rw h3
  rw [e2] at k
  refine ⟨r, ?_, k F' H' st q'⟩
  cases d with
  | non => rw [rd.non]; cases h5; rfl
  | bl b => rw [rd.bl]; cases h5; rfl
  | int i => rw [rd.int]; cases h5; rfl
  | str s =>
    obtain ⟨ev, o⟩ := rd.str
    rw [ev]; cases h5
    refine ⟨by rw [mkS_len, sz_eq]; exact okS_len o, ?_⟩
    rw [mkS_len]
    cases s with
    | nil => rfl
    | cons c l =>
      show (!(c :: l).isEmpty) = _
      have : ((c :: l).length : Int) ≠ 0 := by simp; omega
      exact (bne_iff_ne.mpr this).symm
  | tup xs =>
    obtain ⟨a, vs, rfl, tp, _, rl⟩ := rd.tup
    cases h5
    refine .inr (.inl ⟨vs, tp.sq, ?_⟩)
    have := rl.length
    cases xs <;> cases vs <;> first | rfl | (simp at this)
  | lst xs =>
    obtain ⟨a, vs, rfl, tp, _, rl⟩ := rd.lst
    cases h5
    refine .inl ⟨vs, SqL.of tp, ?_⟩
    have := rl.length
    cases xs <;> cases vs <;> first | rfl | (simp at this)
  | lk ns =>
    obtain ⟨a, rfl, tp, _⟩ := rd.lk
    have tp := tp.sq
    cases h5
    refine .inl ⟨_, tp, ?_⟩
    cases ns <;> rfl
/-- what an expression's meaning promises -/
structure SndE (X : Cx) (J : List (Nat × Addr)) (x : Expr) (d : DE) : Prop where
  v : SndV X J x d.v
  w : SndW X J x d.w
  t : SndT X J x d.t
  b : ∀ op vs p, x = .BoolOp op vs p → SndB X J x d.t
  p : ∀ (O F : Fz) (H : Hp) (σ : L2.St) (ρ : En) (r : Option Int) (ρ' : En) (Q : Option Int → Hp → Prop), Rel X.K J O F H σ ρ → d.p ρ = some (r, ρ') →
    (∀ F' H', Stp O F H F' H' → Rel X.K J O F' H' σ ρ' → Q r H') → wO X (some x) σ H Q
  vr : ∀ i, d.vr = some i → ∀ σ H (Q : VK) v, σ[i]? = some (some v) → Q v H → wE X x σ H Q
  ab : d.ab = false
theorem sndP_of {e : Expr} {m : M R} (h : SndV X J e m) (O F : Fz) (H : Hp) (σ : L2.St) (ρ : En) (r : Option Int) (ρ' : En) (Q : Option Int → Hp → Prop) (q : Rel X.K J O F H σ ρ) (hm : partV m ρ = some (r, ρ'))
    (k : ∀ F' H', Stp O F H F' H' → Rel X.K J O F' H' σ ρ' → Q r H') : wO X (some e) σ H Q := by
  obtain ⟨x, ρ1, h1, h2⟩ := bnd_some hm
  obtain ⟨i, ρ2, h3, h4⟩ := bnd_some h2
  obtain ⟨i', h5, h6⟩ := lft_some h3
  cases h6
  cases h4
  refine POto (po_some pe_w) (h.toD q h1 fun v F' H' st q' rr => ?_)
  unfold toI at h5
  split at h5
  · rename_i z ez
    cases h5
    rw [ez] at rr
    exact ⟨_, rr, k F' H' st q'⟩
  · cases h5
theorem snd_mk {x : Expr} {m : M R} (h : SndV X J x m) (hp : plainT x = true) : SndE X J x (mkE m) := by
  refine ⟨h, sndW_of h, sndT_of (sndW_of h) hp, fun op vs p e => ?_, sndP_of h, fun i e => (nomatch (show (none : Option Nat) = some i from e)), rfl⟩
  subst e
  cases hp
theorem fail_no {α : Type} {ρ : En} {r : α × En} {P : Prop} (h : (fail : M α) ρ = some r) : P := by cases h
theorem snd_ite {x : Expr} {m : M R} (h : SndV X J x m) (nb : ∀ op vs p, x ≠ .BoolOp op vs p) : SndE X J x { mkE m with t := fail } := by
  refine ⟨h, sndW_of h, fun O F H σ ρ r ρ' Q q hm k => fail_no (ρ := ρ) hm, fun op vs p e => absurd e (nb op vs p), sndP_of h, fun i e => (nomatch (show (none : Option Nat) = some i from e)), rfl⟩

/-! ### names, constants -/
theorem vis_of {sc : Scope} {x : Str} (h : visC sc x = true) : Vis sc x := by
  unfold visC at h
  split at h
  · exact .inl (by assumption)
  · exact .inr (.inl (by assumption))
  · exact .inr (.inr (by assumption))
  · cases h
theorem okNm_of {x : Str} (h : okNm x = true) : (x == ("__debug__" : Str)) = false ∧ (x == ("__classdict__" : Str)) = false ∧ x ≠ "__name__" := by
  unfold okNm at h
  simp only [Bool.and_eq_true, Bool.not_eq_true', decide_eq_false_iff_not] at h
  exact ⟨beq_eq_false_iff_ne.mpr h.1.1, beq_eq_false_iff_ne.mpr h.1.2, h.2⟩
variable {T : Tab} {G : Cfg} {N : List Str} {sc : Scope} {st : Str → Bool} {k : Nat}
theorem pe_slot (c : Ctx X T G N sc st k) {i : Nat} {n : Str} {p : Pos} (h1 : nmAt N i n = true) (h2 : visC sc n = true) (h3 : okNm n = true) : PE X (.Name n p) (tVar i) :=
  pe_var (by rw [c.n]; exact of_decide_eq_true h1) (by rw [c.scE]; exact vis_of h2) (okNm_of h3).1 (okNm_of h3).2.1
theorem snd_var (c : Ctx X T G N sc st k) {i : Nat} {n : Str} {p : Pos} (h1 : nmAt N i n = true) (h2 : visC sc n = true) (h3 : okNm n = true) : SndE X J (.Name n p) (mkV i) := by
  have pv := pe_slot c (p := p) h1 h2 h3
  have vv : SndV X J (.Name n p) (getVar i) := fun O F H σ ρ r ρ' Q q hm k => by
    cases e : ρ[i]? with
    | none => simp [getVar, e] at hm
    | some s =>
      have qs := q.slot i s e
      cases s with
      | un => simp [getVar, e] at hm
      | io _ => simp [getVar, e] at hm
      | d d =>
        simp only [getVar, e, Option.some.injEq, Prod.mk.injEq] at hm
        obtain ⟨rfl, rfl⟩ := hm
        obtain ⟨v, e1, r⟩ := qs
        exact PEto pv ⟨v, e1, k v F H .refl q r⟩
      | own xs =>
        simp only [getVar, e, Option.some.injEq, Prod.mk.injEq] at hm
        obtain ⟨rfl, rfl⟩ := hm
        obtain ⟨F', v, e1, st, q', r⟩ := q.freezeAt e
        exact PEto pv ⟨v, e1, k v F' H st q' r⟩
  have ww : SndW X J (.Name n p) (getW i) := fun O F H σ ρ r ρ' Q q hm k => by
    cases e : ρ[i]? with
    | none => simp [getW, e] at hm
    | some s =>
      have qs := q.slot i s e
      cases s with
      | un => simp [getW, e] at hm
      | d d =>
        simp only [getW, e, Option.some.injEq, Prod.mk.injEq] at hm
        obtain ⟨rfl, rfl⟩ := hm
        obtain ⟨v, e1, r⟩ := qs
        exact PEto pv ⟨v, e1, k v F H .refl q r⟩
      | own xs =>
        simp only [getW, e, Option.some.injEq, Prod.mk.injEq] at hm
        obtain ⟨rfl, rfl⟩ := hm
        obtain ⟨a, e1, _⟩ := qs
        exact PEto pv ⟨_, e1, k _ F H .refl q e1⟩
      | io xs =>
        simp only [getW, e, Option.some.injEq, Prod.mk.injEq] at hm
        obtain ⟨rfl, rfl⟩ := hm
        obtain ⟨a, e1, _⟩ := qs
        exact PEto pv ⟨_, e1, k _ F H .refl q e1⟩
  refine ⟨vv, ww, sndT_of ww rfl, fun op vs p e => (nomatch e), sndP_of vv, fun j e σ H Q v e1 hq => ?_, rfl⟩
  cases e
  exact PEto pv ⟨v, e1, hq⟩
theorem sndV_const {x : Expr} {d : D} {v : V} (hp : PE X x (tC v)) (hr : ∀ F H, Rep X.K F H d v) : SndV X J x (ret (.d d)) := fun O F H σ ρ r ρ' Q q hm k => by
  cases hm
  exact PEto hp (k v F H .refl q (hr F H))
theorem glo_of {n : Str} (c : Ctx X T G N sc st k) (h : gloC sc n = true) : Gl X n := by
  have e : X.env.kindOf n = sc.names.lookup n := by rw [← c.scE]; rfl
  show X.env.kindOf n = _
  rw [e]
  unfold gloC at h
  split at h
  · assumption
  · cases h

/-! ### operators -/
theorem snd_bin {a b : Expr} {ma mb : M R} {p : Pos} (o : BOp) (ha : SndV X J a ma) (hb : SndV X J b mb) : SndV X J (.BinOp a o.py b p) (bnd ma fun x => bnd mb fun y => lft (o.f x.toD y.toD)) := fun O F H σ ρ r ρ' Q q hm k => by
  obtain ⟨x, ρ1, h1, h2⟩ := bnd_some hm
  obtain ⟨y, ρ2, h3, h4⟩ := bnd_some h2
  obtain ⟨z, h5, h6⟩ := lft_some h4
  cases h6
  obtain ⟨rule, h7, h8⟩ := BOp.ok (X := X) o
  refine PEto (pe_op h7 pe_w pe_w) (ha.toD q h1 fun v F1 H1 s1 q1 r1 => hb.toD q1 h3 fun u F2 H2 s2 q2 r2 => ?_)
  refine h8 F2 H2 v u _ _ _ _ q2.trk (.inl (r1.le s2.le)) (.inl r2) h5 fun w F3 H3 p3 => ?_
  obtain ⟨s3, q3, r3⟩ := q2.pure p3
  exact k w F3 H3 ((s1.trans s2).trans s3) q3 r3
theorem snd_neg {a : Expr} {ma : M R} {p : Pos} (ha : SndV X J a ma) : SndV X J (.UnaryOp .USub a p) (bnd ma fun x => lft ((toI x.toD).map fun i => .d (.int (-i)))) := fun O F H σ ρ r ρ' Q q hm k => by
  obtain ⟨x, ρ1, h1, h2⟩ := bnd_some hm
  obtain ⟨z, h5, h6⟩ := lft_some h2
  cases h6
  obtain ⟨i, h7, rfl⟩ := Option.map_eq_some_iff.mp h5
  refine PEto (pe_un un_neg pe_w) (ha.toD q h1 fun v F1 H1 s1 q1 r1 => ?_)
  unfold toI at h7
  split at h7
  · rename_i z ez
    cases h7
    rw [ez] at r1
    exact ⟨_, r1, k _ F1 H1 s1 q1 rfl⟩
  · cases h7
theorem units_of (c : Ctx X T G N sc st k) : X.A.units + 65 < cLine := by have := c.room.un; omega
theorem snd_cmpT {a b : Expr} {da db : DE} (c : Ctx X T G N sc st k) (o : COp) (ha : SndE X J a da) (hb : SndE X J b db) : ∃ rule, OpR X (compareOp o.py) rule ∧ ∀ {O F : Fz} {H : Hp} {σ : L2.St} {ρ ρ' : En} {r : Bool} {Q : VK},
    Rel X.K J O F H σ ρ → cmpT o da db ρ = some (r, ρ') → (∀ F' H', Stp O F H F' H' → Rel X.K J O F' H' σ ρ' → Q (.bl r) H') → tOp rule (wE X a) (wE X b) σ H Q := by
  obtain ⟨rule, g1, g2⟩ := COp.ok (X := X) (units_of c) o
  refine ⟨rule, g1, fun {O F H σ ρ ρ' r Q} q hm k => ?_⟩
  obtain ⟨x, ρ1, h1, h2⟩ := bnd_some hm
  obtain ⟨y, ρ2, h3, h4⟩ := bnd_some h2
  obtain ⟨dx, ρ3, h5, h6⟩ := bnd_some h4
  obtain ⟨dy, ρ4, h7, h8⟩ := bnd_some h6
  obtain ⟨t, h9, h10⟩ := lft_some h8
  cases h10
  refine ha.w O F H σ ρ _ _ _ q h1 fun v F1 H1 s1 q1 r1 => hb.w O F1 H1 σ _ _ _ _ q1 h3 fun u F2 H2 s2 q2 r2 => ?_
  obtain ⟨e3, r3⟩ := look_ok q2 (r1.le s2.le) h5
  rw [e3] at h7
  obtain ⟨e4, r4⟩ := look_ok q2 r2 h7
  rw [e4] at k
  exact g2 F2 H2 v u _ _ _ _ q2.trk r3 r4 h9 (k F2 H2 (s1.trans s2) q2)
theorem snd_mkT {x : Expr} {t : M Bool} (hv : ∀ (O F : Fz) (H : Hp) (σ : L2.St) (ρ : En) (r : Bool) (ρ' : En) (Q : VK), Rel X.K J O F H σ ρ → t ρ = some (r, ρ') → (∀ F' H', Stp O F H F' H' → Rel X.K J O F' H' σ ρ' → Q (.bl r) H') → wE X x σ H Q)
    (ht : SndT X J x t) (nb : ∀ op vs p, x ≠ .BoolOp op vs p) : SndE X J x (mkT t) := by
  have vv : SndV X J x (mkT t).v := fun O F H σ ρ r ρ' Q q hm k => by
    obtain ⟨b, ρ1, h1, h2⟩ := bnd_some hm
    cases h2
    exact hv O F H σ ρ b ρ' Q q h1 fun F' H' st q' => k _ F' H' st q' rfl
  have ww : SndW X J x (mkT t).w := fun O F H σ ρ r ρ' Q q hm k => by
    obtain ⟨b, ρ1, h1, h2⟩ := bnd_some hm
    cases h2
    exact hv O F H σ ρ b ρ' Q q h1 fun F' H' st q' => k _ F' H' st q' rfl
  exact ⟨vv, ww, ht, fun op vs p e => absurd e (nb op vs p), fun O F H σ ρ r ρ' Q q hm k => fail_no (ρ := ρ) hm, fun i e => (nomatch (show (none : Option Nat) = some i from e)), rfl⟩
theorem snd_cmp {a b : Expr} {da db : DE} {p : Pos} (c : Ctx X T G N sc st k) (o : COp) (hs : notSet b = true) (ha : SndE X J a da) (hb : SndE X J b db) : SndE X J (.Compare a [o.py] [b] p) (mkT (cmpT o da db)) := by
  obtain ⟨rule, h1, h2⟩ := snd_cmpT c o ha hb
  refine snd_mkT (fun O F H σ ρ r ρ' Q q hm k => ?_) (fun O F H σ ρ r ρ' Q q hm k => ?_) (fun _ _ _ e => by cases e)
  · exact PEto (pe_cmpR h1 pe_w pe_w (marks_of hs)) (h2 q hm k)
  · exact PTto (pt_cmpR h1 pe_w pe_w (marks_of hs)) (h2 q hm fun F' H' st q' => ⟨r, rfl, k F' H' st q'⟩)
theorem lastMarks_of {b c : Expr} {o o' : CmpOp} (hc : notSet c = true) : lastMarks [o, o'] [b, c] = false := marks_of hc
theorem snd_chain {a b d : Expr} {da db dd : DE} {p : Pos} (c : Ctx X T G N sc st k) (o o' : COp) (hd : notSet d = true) (ha : SndE X J a da) (hb : SndE X J b db) (hdd : SndE X J d dd) :
    SndE X J (.Compare a [o.py, o'.py] [b, d] p) (mkT (chainT o o' da db dd)) := by
  obtain ⟨rule, g1, g2⟩ := COp.ok (X := X) (units_of c) o
  obtain ⟨rule', g3, g4⟩ := COp.ok (X := X) (units_of c) o'
  have main : ∀ {O F : Fz} {H : Hp} {σ : L2.St} {ρ ρ' : En} {r : Bool} {Q : VK}, Rel X.K J O F H σ ρ → chainT o o' da db dd ρ = some (r, ρ') → (∀ F' H', Stp O F H F' H' → Rel X.K J O F' H' σ ρ' → Q (.bl r) H') →
      tChain rule rule' (wE X a) (wE X b) (wE X d) σ H Q := fun {O F H σ ρ ρ' r Q} q hm k => by
    obtain ⟨x, ρ1, h1, h2⟩ := bnd_some hm
    obtain ⟨y, ρ2, h3, h4⟩ := bnd_some h2
    obtain ⟨t, ρ3, h5, h6⟩ := bnd_some h4
    obtain ⟨t', h7, h8⟩ := lft_some h5
    cases h8
    refine ha.v.toD q h1 fun v F1 H1 s1 q1 r1 => hb.v.toD q1 h3 fun u F2 H2 s2 q2 r2 => ?_
    refine g2 F2 H2 v u _ _ _ _ q2.trk (.inl (r1.le s2.le)) (.inl r2) h7 ⟨t, rfl, ?_⟩
    cases t with
    | false =>
      rw [if_neg Bool.false_ne_true]
      cases h6
      exact k F2 H2 (s1.trans s2) q2
    | true =>
      rw [if_pos rfl]
      obtain ⟨z, ρ4, h9, h10⟩ := bnd_some h6
      obtain ⟨t2, h11, h12⟩ := lft_some h10
      cases h12
      refine hdd.v.toD q2 h9 fun w F3 H3 s3 q3 r3 => ?_
      exact g4 F3 H3 u w _ _ _ _ q3.trk (.inl (r2.le s3.le)) (.inl r3) h11 (k F3 H3 ((s1.trans s2).trans s3) q3)
  refine snd_mkT (fun O F H σ ρ r ρ' Q q hm k => ?_) (fun O F H σ ρ r ρ' Q q hm k => ?_) (fun _ _ _ e => by cases e)
  · exact PEto (pe_chain g1 g3 pe_w pe_w pe_w (lastMarks_of hd)) (main q hm k)
  · exact PTto (pt_chain g1 g3 pe_w pe_w pe_w (lastMarks_of hd)) (main q hm fun F' H' st q' => ⟨r, rfl, k F' H' st q'⟩)

/-! ### and, or, not, a choice -/
theorem truV_of {d : D} {v : V} {F : Fz} {H : Hp} {t : Bool} (rd : RepW X.K F H d v) (h5 : truth d = some t) : TruV X.K v H t := by
  cases d with
  | non => rw [rd.non]; cases h5; rfl
  | bl b => rw [rd.bl]; cases h5; rfl
  | int i => rw [rd.int]; cases h5; rfl
  | str s =>
    obtain ⟨ev, o⟩ := rd.str
    rw [ev]; cases h5
    refine ⟨by rw [mkS_len, sz_eq]; exact okS_len o, ?_⟩
    rw [mkS_len]
    cases s with
    | nil => rfl
    | cons c l =>
      show (!(c :: l).isEmpty) = _
      have : ((c :: l).length : Int) ≠ 0 := by simp; omega
      exact (bne_iff_ne.mpr this).symm
  | tup xs =>
    obtain ⟨a, vs, rfl, tp, _, rl⟩ := rd.tup
    cases h5
    refine .inr (.inl ⟨vs, tp.sq, ?_⟩)
    have := rl.length
    cases xs <;> cases vs <;> first | rfl | (simp at this)
  | lst xs =>
    obtain ⟨a, vs, rfl, tp, _, rl⟩ := rd.lst
    cases h5
    refine .inl ⟨vs, SqL.of tp, ?_⟩
    have := rl.length
    cases xs <;> cases vs <;> first | rfl | (simp at this)
  | lk ns =>
    obtain ⟨a, rfl, tp, _⟩ := rd.lk
    have tp := tp.sq
    cases h5
    refine .inl ⟨_, tp, ?_⟩
    cases ns <;> rfl
theorem snd_andV {a : Expr} {rest : List Expr} {b : Expr} {p : Pos} {ma mb : M R} (ha : SndV X J a ma) (hb : SndV X J (.BoolOp .And (b :: rest) p) mb) : SndV X J (.BoolOp .And (a :: b :: rest) p) (andV ma mb) := fun O F H σ ρ r ρ' Q q hm k => by
  obtain ⟨x, ρ1, h1, h2⟩ := bnd_some hm
  obtain ⟨t, ρ2, h3, h4⟩ := bnd_some h2
  obtain ⟨t', h5, h6⟩ := lft_some h3
  cases h6
  refine PEto (pe_andT pe_w pe_w) (ha.toD q h1 fun v F1 H1 s1 q1 r1 => ⟨t, truV_of (.inl r1) h5, ?_⟩)
  cases t with
  | true =>
    rw [if_pos rfl]
    exact hb O F1 H1 σ _ _ _ _ q1 h4 fun v F2 H2 s2 q2 r2 => k v F2 H2 (s1.trans s2) q2 r2
  | false =>
    rw [if_neg Bool.false_ne_true]
    cases h4
    exact k v F1 H1 s1 q1 r1
theorem snd_orV {a : Expr} {rest : List Expr} {b : Expr} {p : Pos} {ma mb : M R} (ha : SndV X J a ma) (hb : SndV X J (.BoolOp .Or (b :: rest) p) mb) : SndV X J (.BoolOp .Or (a :: b :: rest) p) (orV ma mb) := fun O F H σ ρ r ρ' Q q hm k => by
  obtain ⟨x, ρ1, h1, h2⟩ := bnd_some hm
  obtain ⟨t, ρ2, h3, h4⟩ := bnd_some h2
  obtain ⟨t', h5, h6⟩ := lft_some h3
  cases h6
  refine PEto (pe_orT pe_w pe_w) (ha.toD q h1 fun v F1 H1 s1 q1 r1 => ⟨t, truV_of (.inl r1) h5, ?_⟩)
  cases t with
  | true =>
    rw [if_pos rfl]
    cases h4
    exact k v F1 H1 s1 q1 r1
  | false =>
    rw [if_neg Bool.false_ne_true]
    exact hb O F1 H1 σ _ _ _ _ q1 h4 fun v F2 H2 s2 q2 r2 => k v F2 H2 (s1.trans s2) q2 r2
theorem snd_andB {a : Expr} {rest : List Expr} {b : Expr} {p : Pos} {ma mb : M Bool} (ha : SndT X J a ma) (hb : SndB X J (.BoolOp .And (b :: rest) p) mb) : SndB X J (.BoolOp .And (a :: b :: rest) p) (andT ma mb) := fun O F H σ ρ r ρ' Q q hm k => by
  obtain ⟨t, ρ1, h1, h2⟩ := bnd_some hm
  refine PWto (pw_and pt_w pw_w) (ha O F H σ ρ t ρ1 _ q h1 fun F1 H1 s1 q1 => ?_)
  cases t with
  | true =>
    rw [if_pos rfl]
    exact hb O F1 H1 σ _ _ _ _ q1 h2 fun F2 H2 s2 q2 => k F2 H2 (s1.trans s2) q2
  | false =>
    rw [if_neg Bool.false_ne_true]
    cases h2
    exact k F1 H1 s1 q1
theorem snd_orB {a : Expr} {rest : List Expr} {b : Expr} {p : Pos} {ma mb : M Bool} (ha : SndT X J a ma) (hb : SndB X J (.BoolOp .Or (b :: rest) p) mb) : SndB X J (.BoolOp .Or (a :: b :: rest) p) (orT ma mb) := fun O F H σ ρ r ρ' Q q hm k => by
  obtain ⟨t, ρ1, h1, h2⟩ := bnd_some hm
  refine PWto (pw_or pt_w pw_w) (ha O F H σ ρ t ρ1 _ q h1 fun F1 H1 s1 q1 => ?_)
  cases t with
  | true =>
    rw [if_pos rfl]
    cases h2
    exact k F1 H1 s1 q1
  | false =>
    rw [if_neg Bool.false_ne_true]
    exact hb O F1 H1 σ _ _ _ _ q1 h2 fun F2 H2 s2 q2 => k F2 H2 (s1.trans s2) q2
theorem snd_oneV {op : BoolOp} {a : Expr} {p : Pos} {m : M R} (h : SndV X J a m) : SndV X J (.BoolOp op [a] p) m := fun O F H σ ρ r ρ' Q q hm k => PEto (pe_one pe_w) (h O F H σ ρ r ρ' Q q hm k)
theorem snd_oneB {op : BoolOp} {a : Expr} {p : Pos} {m : M Bool} (h : SndT X J a m) : SndB X J (.BoolOp op [a] p) m := fun O F H σ ρ r ρ' Q q hm k => by
  cases op with
  | And => exact PWto (pw_and1 pt_w) (h O F H σ ρ r ρ' Q q hm k)
  | Or => exact PWto (pw_or1 pt_w) (h O F H σ ρ r ρ' Q q hm k)
theorem sndT_B {e : Expr} {m : M Bool} (h : SndB X J e m) : SndT X J e m := fun O F H σ ρ r ρ' Q q hm k => wB_t (h O F H σ ρ r ρ' Q q hm k)
theorem snd_bool {x : Expr} {m : M R} {t : M Bool} (hv : SndV X J x m) (hb : SndB X J x t) : SndE X J x { mkE m with t := t } :=
  ⟨hv, sndW_of hv, sndT_B hb, fun _ _ _ _ => hb, sndP_of hv, fun i e => (nomatch (show (none : Option Nat) = some i from e)), rfl⟩
theorem snd_notV {a : Expr} {p : Pos} {d : DE} (ha : SndE X J a d) : SndE X J (.UnaryOp .Not a p) { mkE (bnd (tstW d.w) fun t => ret (.d (.bl !t))) with t := notT d.t } := by
  have hv : SndV X J (.UnaryOp .Not a p) (bnd (tstW d.w) fun t => ret (.d (.bl !t))) := fun O F H σ ρ r ρ' Q q hm k => by
    obtain ⟨t, ρ1, h1, h2⟩ := bnd_some hm
    cases h2
    obtain ⟨w, ρ2, h3, h4⟩ := bnd_some h1
    obtain ⟨dv, ρ3, h5, h6⟩ := bnd_some h4
    obtain ⟨t', h7, h8⟩ := lft_some h6
    cases h8
    refine PEto (pe_notT pe_w) (ha.w O F H σ ρ w ρ2 _ q h3 fun v F' H' st q' rw => ?_)
    obtain ⟨e2, rd⟩ := look_ok q' rw h5
    rw [e2] at k
    exact ⟨t, truV_of rd h7, k _ F' H' st q' rfl⟩
  have ht : SndT X J (.UnaryOp .Not a p) (notT d.t) := fun O F H σ ρ r ρ' Q q hm k => by
    obtain ⟨t, ρ1, h1, h2⟩ := bnd_some hm
    cases h2
    exact PTto (pt_not pt_w) (ha.t O F H σ ρ t _ _ q h1 k)
  exact ⟨hv, sndW_of hv, ht, fun op vs p e => (nomatch e), sndP_of hv, fun i e => (nomatch (show (none : Option Nat) = some i from e)), rfl⟩
theorem snd_iteV {c a b : Expr} {p : Pos} {mc : M Bool} {ma mb : M R} (hc : SndT X J c mc) (ha : SndV X J a ma) (hb : SndV X J b mb) : SndV X J (.IfExp c a b p) (iteV mc ma mb) := fun O F H σ ρ r ρ' Q q hm k => by
  obtain ⟨t, ρ1, h1, h2⟩ := bnd_some hm
  refine PEto (pe_ifExp pt_w pe_w pe_w) (hc O F H σ ρ t ρ1 _ q h1 fun F1 H1 s1 q1 => ?_)
  cases t with
  | true =>
    rw [if_pos rfl]
    exact ha O F1 H1 σ _ _ _ _ q1 h2 fun v F2 H2 s2 q2 r2 => k v F2 H2 (s1.trans s2) q2 r2
  | false =>
    rw [if_neg Bool.false_ne_true]
    exact hb O F1 H1 σ _ _ _ _ q1 h2 fun v F2 H2 s2 q2 r2 => k v F2 H2 (s1.trans s2) q2 r2
end
end Rm

set_option Elab.async false
set_option linter.all false
set_option maxRecDepth 100000
set_option maxHeartbeats 8000000
/-! R8: expressions, further: displays, places, cuts, calls, methods. -/
namespace Rm
open PySem PySem.Spec L2

section
variable {X : Cx} {J : List (Nat × Addr)}
/-- each of some expressions keeps its meaning's promise -/
inductive AllS (X : Cx) (J : List (Nat × Addr)) : List Expr → DEs → Prop
  | nil : AllS X J [] ⟨ret [], ret [], fun _ => ret []⟩
  | cons {x : Expr} {xs : List Expr} {e : DE} {r : DEs} : SndE X J x e → notStar x = true → AllS X J xs r → AllS X J (x :: xs) (consE e r)
theorem AllS.ds {xs : List Expr} {d : DEs} (h : AllS X J xs d) : SndD X J xs d.ds := by
  induction h with
  | nil => intro O F H σ ρ r ρ' Q q hm k; cases hm; exact PAto pa_nil (k [] F H .refl q rfl)
  | cons he hs _ ih =>
    intro O F H σ ρ r ρ' Q q hm k
    obtain ⟨x, ρ1, h1, h2⟩ := bnd_some hm
    obtain ⟨ds, ρ2, h3, h4⟩ := bnd_some h2
    cases h4
    refine PAto (pa_cons pe_w pa_w (star_of hs)) (he.v.toD q h1 fun v F1 H1 s1 q1 r1 => ih O F1 H1 σ _ _ _ _ q1 h3 fun vs F2 H2 s2 q2 r2 => ?_)
    exact k _ F2 H2 (s1.trans s2) q2 ⟨v, vs, rfl, r1.le s2.le, r2⟩
theorem AllS.ws {xs : List Expr} {d : DEs} (h : AllS X J xs d) : SndWs X J xs d.ws := by
  induction h with
  | nil => intro O F H σ ρ r ρ' Q q hm k; cases hm; exact PAto pa_nil (k [] F H .refl q rfl)
  | cons he hs _ ih =>
    intro O F H σ ρ r ρ' Q q hm k
    obtain ⟨x, ρ1, h1, h2⟩ := bnd_some hm
    obtain ⟨ds, ρ2, h3, h4⟩ := bnd_some h2
    cases h4
    refine PAto (pa_cons pe_w pa_w (star_of hs)) (he.w O F H σ _ _ _ _ q h1 fun v F1 H1 s1 q1 r1 => ih O F1 H1 σ _ _ _ _ q1 h3 fun vs F2 H2 s2 q2 r2 => ?_)
    exact k _ F2 H2 (s1.trans s2) q2 ⟨v, vs, rfl, r1.le s2.le, r2⟩
theorem isOwn_some {i : Nat} {ρ : En} {r : Unit × En} (h : isOwn i ρ = some r) : r.2 = ρ ∧ ownAt ρ i := by
  cases e : ρ[i]? with
  | none => simp [isOwn, e] at h
  | some s =>
    cases s with
    | un => simp [isOwn, e] at h
    | d _ => simp [isOwn, e] at h
    | own xs => simp only [isOwn, e, Option.some.injEq] at h; subst h; exact ⟨rfl, _, e, rfl⟩
    | io xs => simp only [isOwn, e, Option.some.injEq] at h; subst h; exact ⟨rfl, _, e, rfl⟩
theorem arg_ok {x : Expr} {e : DE} (he : SndE X J x e) {io : Bool} {O F : Fz} {H : Hp} {σ : L2.St} {ρ ρ' : En} {a : Ar} {Q : VK} (q : Rel X.K J O F H σ ρ) (hm : argOf io e ρ = some (a, ρ'))
    (k : ∀ v F' H', Stp O F H F' H' → Rel X.K J O F' H' σ ρ' → RepAr X.K F' H' σ a v → Q v H') : wE X x σ H Q := by
  cases io with
  | false =>
    obtain ⟨y, ρ1, h1, h2⟩ := bnd_some (show bnd e.v _ ρ = _ from hm)
    cases h2
    exact he.v.toD q h1 fun v F' H' st q' r => k v F' H' st q' r
  | true =>
    unfold argOf at hm
    rw [if_pos rfl] at hm
    cases ev : e.vr with
    | none => rw [ev] at hm; cases hm
    | some i =>
      rw [ev] at hm
      obtain ⟨u, ρ1, h1, h2⟩ := bnd_some hm
      cases h2
      obtain ⟨e1, o⟩ := isOwn_some h1
      have e1 : ρ' = ρ := e1
      subst e1
      obtain ⟨a, xs, e2, _⟩ := q.ownA o
      exact he.vr i ev σ H Q _ e2 (k _ F H .refl q e2)
theorem AllS.as {xs : List Expr} {d : DEs} (h : AllS X J xs d) : ∀ m, SndAs X J xs (d.as m) := by
  induction h with
  | nil => intro m O F H σ ρ r ρ' Q q hm k; cases hm; exact PAto pa_nil (k [] F H .refl q rfl)
  | cons he hs _ ih =>
    intro m O F H σ ρ r ρ' Q q hm k
    obtain ⟨x, ρ1, h1, h2⟩ := bnd_some hm
    obtain ⟨ds, ρ2, h3, h4⟩ := bnd_some h2
    cases h4
    refine PAto (pa_cons pe_w pa_w (star_of hs)) (arg_ok he q h1 fun v F1 H1 s1 q1 r1 => ih _ O F1 H1 σ _ _ _ _ q1 h3 fun vs F2 H2 s2 q2 r2 => ?_)
    exact k _ F2 H2 (s1.trans s2) q2 ⟨v, vs, rfl, r1.le s2.le, r2⟩
theorem AllS.kw : ∀ {kws : List Keyword} {d : DEs}, AllS X J (kws.map (·.value)) d → ∀ m, SndKs X J kws (d.as m)
  | [], _, h => by
    cases h
    intro m O F H σ ρ r ρ' Q q hm k
    cases hm
    exact PKto pk_nil (k [] F H .refl q rfl)
  | ⟨nm, x, kp⟩ :: kws, _, h => by
    cases h with
    | cons he hs hr =>
      intro m O F H σ ρ r ρ' Q q hm k
      obtain ⟨x, ρ1, h1, h2⟩ := bnd_some hm
      obtain ⟨ds, ρ2, h3, h4⟩ := bnd_some h2
      cases h4
      refine PKto (pk_cons pe_w pk_w) (arg_ok he q h1 fun v F1 H1 s1 q1 r1 => AllS.kw hr _ O F1 H1 σ _ _ _ _ q1 h3 fun vs F2 H2 s2 q2 r2 => ?_)
      exact k _ F2 H2 (s1.trans s2) q2 ⟨v, vs, rfl, r1.le s2.le, r2⟩
theorem AllS.stars {xs : List Expr} {d : DEs} (h : AllS X J xs d) : xs.all notStar = true := by
  induction h with
  | nil => rfl
  | cons _ hs _ ih => exact Bool.and_eq_true_iff.mpr ⟨hs, ih⟩
theorem AllS.asLen {xs : List Expr} {d : DEs} (h : AllS X J xs d) : ∀ {m : List Bool} {ρ ρ' : En} {as : List Ar}, d.as m ρ = some (as, ρ') → as.length = xs.length := by
  induction h with
  | nil => intro m ρ ρ' as h; cases h; rfl
  | cons he hs _ ih =>
    intro m ρ ρ' as hm
    obtain ⟨x, ρ1, h1, h2⟩ := bnd_some hm
    obtain ⟨ds, ρ2, h3, h4⟩ := bnd_some h2
    cases h4
    rw [List.length_cons, List.length_cons, ih h3]
theorem RepArs.length {K F H} {σ : L2.St} : ∀ {as : List Ar} {vs : List V}, RepArs K F H σ as vs → vs.length = as.length
  | [], _, h => by rw [show _ = [] from h]; rfl
  | _ :: _, _, ⟨v, r, e, _, t⟩ => by rw [e, List.length_cons, List.length_cons, RepArs.length t]

/-! ### displays -/
theorem snd_tup {xs : List Expr} {d : DEs} {x1 : Nat} {p : Pos} (h : AllS X J xs d) : SndV X J (.Tuple xs x1 p) (bnd d.ds fun ds => lft (mkTup ds)) := fun O F H σ ρ r ρ' Q q hm k => by
  obtain ⟨ds, ρ1, h1, h2⟩ := bnd_some hm
  obtain ⟨t, h3, h4⟩ := lft_some h2
  cases h4
  unfold mkTup at h3
  split at h3
  · rename_i hz
    cases h3
    refine PEto (pe_tup pa_w) (h.ds O F H σ ρ ds _ _ q h1 fun vs F1 H1 s1 q1 r1 => ⟨by rw [r1.length, sz_eq]; exact hz, fun l hl => ?_⟩)
    obtain ⟨s2, q2, r2⟩ := q1.pure (.newTup q1.trk hl hz r1)
    exact k _ _ _ (s1.trans s2) q2 r2
  · cases h3
theorem snd_lst {xs : List Expr} {d : DEs} {p : Pos} (h : AllS X J xs d) : SndV X J (.List xs p) (bnd d.ds fun ds => lft (mkLst ds)) := fun O F H σ ρ r ρ' Q q hm k => by
  obtain ⟨ds, ρ1, h1, h2⟩ := bnd_some hm
  obtain ⟨t, h3, h4⟩ := lft_some h2
  cases h4
  unfold mkLst at h3
  split at h3
  · rename_i hz
    cases h3
    refine PEto (pe_lst pa_w) (h.ds O F H σ ρ ds _ _ q h1 fun vs F1 H1 s1 q1 r1 => ⟨by rw [r1.length, sz_eq]; exact hz, fun l hl => ?_⟩)
    obtain ⟨s2, q2, r2⟩ := q1.pure (.newLst q1.trk hl hz r1)
    exact k _ _ _ (s1.trans s2) q2 r2
  · cases h3

/-! ### places, cuts -/
theorem snd_idx {a b : Expr} {da db : DE} {p : Pos} (hs : notSlice b = true) (ha : SndE X J a da) (hb : SndE X J b db) : SndV X J (.Subscript a b p) (idxV da db) := fun O F H σ ρ r ρ' Q q hm k => by
  obtain ⟨w, ρ1, h1, h2⟩ := bnd_some hm
  obtain ⟨y, ρ2, h3, h4⟩ := bnd_some h2
  obtain ⟨d, ρ3, h5, h6⟩ := bnd_some h4
  obtain ⟨t, h7, h8⟩ := lft_some h6
  cases h8
  refine PEto (pe_ix ix_seq pe_w pe_w (plainIx_of hs)) (ha.w O F H σ _ _ _ _ q h1 fun v F1 H1 s1 q1 r1 => hb.v.toD q1 h3 fun u F2 H2 s2 q2 r2 => ?_)
  obtain ⟨e3, r3⟩ := look_ok q2 (r1.le s2.le) h5
  rw [e3] at k
  refine ops_idx F2 H2 v u _ _ _ _ q2.trk r3 (.inl r2) h7 fun w F3 H3 p3 => ?_
  obtain ⟨s3, q3, r3⟩ := q2.pure p3
  exact k w F3 H3 ((s1.trans s2).trans s3) q3 r3
/-- a part of a cut: left out, or an expression -/
def PartS (X : Cx) (J : List (Nat × Addr)) (x : Option Expr) (d : DE) : Prop := ∀ (O F : Fz) (H : Hp) (σ : L2.St) (ρ : En) (r : Option Int) (ρ' : En) (Q : Option Int → Hp → Prop), Rel X.K J O F H σ ρ → d.p ρ = some (r, ρ') →
    (∀ F' H', Stp O F H F' H' → Rel X.K J O F' H' σ ρ' → Q r H') → wO X x σ H Q
theorem partS_none : PartS X J none mkA := fun O F H σ ρ r ρ' Q q hm k => by
  cases hm
  exact POto po_none (k F H .refl q)
theorem snd_sli {a : Expr} {lo hi : Option Expr} {da dl dh : DE} {p2 p : Pos} (ha : SndE X J a da) (hl : PartS X J lo dl) (hh : PartS X J hi dh) : SndV X J (.Subscript a (.Slice lo hi none p2) p) (sliV da dl dh) := fun O F H σ ρ r ρ' Q q hm k => by
  obtain ⟨w, ρ1, h1, h2⟩ := bnd_some hm
  obtain ⟨l, ρ2, h3, h4⟩ := bnd_some h2
  obtain ⟨h, ρ3, h5, h6⟩ := bnd_some h4
  obtain ⟨d, ρ4, h7, h8⟩ := bnd_some h6
  obtain ⟨t, h9, h10⟩ := lft_some h8
  cases h10
  refine PEto (pe_slice sl_all pe_w po_w po_w) (ha.w O F H σ _ _ _ _ q h1 fun v F1 H1 s1 q1 r1 => hl O F1 H1 σ _ _ _ _ q1 h3 fun F2 H2 s2 q2 => hh O F2 H2 σ _ _ _ _ q2 h5 fun F3 H3 s3 q3 => ?_)
  obtain ⟨e3, r3⟩ := look_ok q3 (r1.le (s2.trans s3).le) h7
  rw [e3] at k
  refine sl_ok q3.trk r3 h9 fun w F4 H4 p4 => ?_
  obtain ⟨s4, q4, r4⟩ := q3.pure p4
  exact k w F4 H4 (((s1.trans s2).trans s3).trans s4) q4 r4

/-! ### calls of the program's own functions -/
variable {T : Tab} {G : Cfg} {N : List Str} {sc : Scope} {st : Str → Bool} {k : Nat}
theorem snd_call (c : Ctx X T G N sc st k) {f : Nat} {fn : Fn} (hf : T.fns[f]? = some fn) {n : Str} (hn : n = sS fn.nm) (hg : gloC sc n = true) (ho : okNm n = true) {xs : List Expr} (hl : xs.length = fn.ps.length) {d : DEs} {p pos : Pos} (h : AllS X J xs d) :
    SndV X J (.Call (.Name n p) xs [] pos) (callV G f d) := fun O F H σ ρ r ρ' Q q hm k => by
  obtain ⟨as, ρ1, h1, h2⟩ := bnd_some hm
  obtain ⟨ad, fd, m1, m2, m3, _, m4⟩ := c.fns f fn hf
  subst hn
  have fin : ∀ vs F1 H1, Stp O F H F1 H1 → Rel X.K J O F1 H1 σ ρ1 → RepArs X.K F1 H1 σ as vs → spC X.K G.C f fn.ps.length (vs ++ []) H1 Q E0 := fun vs F1 H1 s1 q1 r1 => by
    rw [List.append_nil]
    exact doCall_ok q1 r1 (by rw [r1.length, h.asLen h1, hl]) h2 fun v F2 H2 s2 q2 r2 => k v F2 H2 (s1.trans s2) q2 r2
  cases xs with
  | nil =>
    cases h
    cases h1
    exact PEto (pe_call0 m4 c.room (glo_of c hg) m1 m2 m3 .nil pass0 (okNm_of ho).1) (fin [] F H .refl q rfl)
  | cons x xs =>
    have hs := Bool.and_eq_true_iff.mp (show (notStar x && xs.all notStar) = true from h.stars)
    exact PEto (pe_call m4 c.room (glo_of c hg) m1 m2 m3 .nil pass0 pa_w (okNm_of ho).1 (star_of hs.1) (stars_of hs.2)) (h.as _ O F H σ ρ as ρ1 _ q h1 fin)
theorem permute_some {α : Type} : ∀ {ks : List Nat} {l r : List α}, permute l ks = some r → r.length = ks.length
  | [], _, _, h => by cases h; rfl
  | k :: ks, l, r, h => by
    unfold permute at h
    split at h
    · cases h
      rw [List.length_cons, List.length_cons, permute_some (by assumption)]
    · cases h
theorem permute_rel {α β : Type} {P : α → β → Prop} : ∀ {ks : List Nat} {as : List α} {bs : List β} {r : List α}, as.length = bs.length → (∀ (i : Nat) (a : α) (b : β), as[i]? = some a → bs[i]? = some b → P a b) → permute as ks = some r →
    ∃ r', permute bs ks = some r' ∧ Paired P r r'
  | [], _, _, _, _, _, h => by cases h; exact ⟨[], rfl, .nil⟩
  | k :: ks, as, bs, r, hl, hp, h => by
    unfold permute at h
    split at h
    · rename_i a r1 e1 e2
      cases h
      obtain ⟨r', h3, h4⟩ := permute_rel hl hp e2
      have hk : k < bs.length := by rw [← hl]; exact (List.getElem?_eq_some_iff.mp e1).1
      refine ⟨bs[k] :: r', ?_, .cons (hp k a _ e1 (List.getElem?_eq_getElem hk)) h4⟩
      unfold permute
      rw [List.getElem?_eq_getElem hk, h3]
    · cases h
theorem RepArs.of_paired {K F H} {σ : L2.St} : ∀ {as : List Ar} {vs : List V}, Paired (RepAr K F H σ) as vs → RepArs K F H σ as vs
  | _, _, .nil => rfl
  | _, _, .cons h t => ⟨_, _, rfl, h, RepArs.of_paired t⟩
theorem RepArs.get {K F H} {σ : L2.St} : ∀ {as : List Ar} {vs : List V} {i : Nat} {a : Ar} {v : V}, RepArs K F H σ as vs → as[i]? = some a → vs[i]? = some v → RepAr K F H σ a v
  | [], _, _, _, _, _, e, _ => by simp at e
  | _ :: _, _, 0, _, _, ⟨w, r, e, h, _⟩, e1, e2 => by
    subst e
    simp at e1 e2
    subst e1 e2
    exact h
  | _ :: _, _, i + 1, _, _, ⟨w, r, e, _, t⟩, e1, e2 => by
    subst e
    exact RepArs.get (i := i) t (by simpa using e1) (by simpa using e2)
theorem vals_permute : ∀ {ks : List Nat} {vs : List V} {us : List Value} {r : List V}, Vals vs us → permute vs ks = some r → ∃ r', permute us ks = some r' ∧ Vals r r' := fun {ks vs us r} hv h =>
  permute_rel hv.length (fun i a b e1 e2 => by
    obtain ⟨u, h1, h2⟩ := hv.get e1
    rw [e2] at h1; cases h1; exact h2) h
theorem kwAll {kws : List Keyword} {pos : Pos} {env : Env} {ns : List Str} : kws.map (·.arg) = ns.map some →
    (backToKw pos (keywordEach kws env)).all (·.1.isSome) = true ∧ (backToKw pos (keywordEach kws env)).filterMap (·.1) = ns ∧ (backToKw pos (keywordEach kws env)).any (·.1.isNone) = false := by
  induction kws generalizing ns with
  | nil => intro h; cases ns with
    | nil => exact ⟨rfl, rfl, rfl⟩
    | cons _ _ => simp at h
  | cons w kws ih =>
    intro h
    cases ns with
    | nil => simp at h
    | cons n ns =>
      obtain ⟨arg, v, p⟩ := w
      simp only [List.map_cons, List.cons.injEq] at h
      obtain ⟨h1, h2⟩ := h
      obtain ⟨i1, i2, i3⟩ := ih h2
      have ea : arg = some n := h1
      subst ea
      exact ⟨(congrArg (true && ·) i1 : (true && _) = (true && true)), (congrArg (n :: ·) i2 : n :: _ = n :: ns), (congrArg (false || ·) i3 : (false || _) = (false || false))⟩
theorem snd_callK (c : Ctx X T G N sc st k) {f ix : Nat} {fn : Fn} {kw : Kw} (hf : T.fns[f]? = some fn) (hk : T.kws[ix]? = some kw) (hkf : kw.f = f) {n : Str} (hn : n = sS fn.nm) (hg : gloC sc n = true) (ho : okNm n = true) {xs : List Expr} {kws : List Keyword}
    (hl : xs.length = kw.np) (hnm : kws.map (·.arg) = (sSs kw.names).map some) (hpos : 0 < fn.ps.length) {da dk : DEs} {p pos : Pos} (ha : AllS X J xs da) (hks : AllS X J (kws.map (·.value)) dk) :
    SndV X J (.Call (.Name n p) xs kws pos) (callKV G f da dk ix) := fun O F H σ ρ r ρ' Q q hm k => by
  obtain ⟨as, ρ1, h1, h2⟩ := bnd_some hm
  obtain ⟨bs, ρ2, h3, h4⟩ := bnd_some h2
  obtain ⟨ad, fd, m1, m2, m3, m5, m4⟩ := c.fns f fn hf
  have hkb : KwB fd fn.ps kw := m5 kw (List.mem_of_getElem? hk) hkf
  subst hn
  have ep : G.perm ix = kw.perm := by
    rw [c.cfg]
    show (match T.kws[ix]? with | some k => k.perm | none => []) = _
    rw [hk]
  rw [ep] at h4
  cases hp : permute (as ++ bs) kw.perm with
  | none => rw [hp] at h4; cases h4
  | some rs =>
    rw [hp] at h4
    have lk : kws.length = kw.names.length := by
      have := congrArg List.length hnm
      simpa [sSs] using this
    let g : List Value → List Value → List Value := fun us ws => if us.length = kw.np ∧ ws.length = kw.names.length then (permute (us ++ ws) kw.perm).getD [] else []
    let gV : List V → List V → List V := fun us ws => if us.length = kw.np ∧ ws.length = kw.names.length then (permute (us ++ ws) kw.perm).getD [] else []
    have KB : KBinds X.K fd fn.ps (sSs kw.names) g gV := by
      refine ⟨fun s us ws _ hlen => ?_, fun {vs us zs ws} r1 r2 => ?_⟩
      · by_cases hc : us.length = kw.np ∧ ws.length = kw.names.length
        · have eg : g us ws = (permute (us ++ ws) kw.perm).getD [] := if_pos hc
          rw [eg] at hlen ⊢
          cases hp2 : permute (us ++ ws) kw.perm with
          | none => rw [hp2] at hlen; exact absurd hlen (by show ¬ (0 = _); omega)
          | some zs => exact (hkb us ws zs hc.1 hc.2 hp2).2 s
        · have eg : g us ws = [] := if_neg hc
          rw [eg] at hlen
          exact absurd hlen (by show ¬ (0 = _); omega)
      · have l1 := r1.length
        have l2 := r2.length
        show Vals (if _ then _ else _) (if _ then _ else _)
        by_cases hc : us.length = kw.np ∧ ws.length = kw.names.length
        · rw [if_pos hc, if_pos (by rw [l1, l2]; exact hc)]
          cases hp2 : permute (vs ++ zs) kw.perm with
          | some r3 =>
            obtain ⟨r4, h5, h6⟩ := vals_permute (r1.append r2) hp2
            rw [h5]; exact h6
          | none =>
            cases hp3 : permute (us ++ ws) kw.perm with
            | none => exact .nil
            | some r5 =>
              obtain ⟨r6, h7, _⟩ := permute_rel (P := fun _ _ => True) (bs := vs ++ zs) (by rw [List.length_append, List.length_append, l1, l2]) (fun _ _ _ _ _ => trivial) hp3
              rw [hp2] at h7; cases h7
        · rw [if_neg hc, if_neg (by rw [l1, l2]; exact hc)]
          exact .nil
    obtain ⟨w1, w2, w3⟩ := kwAll (pos := pos) (env := X.env) hnm
    have fin : ∀ vs F1 H1, Stp O F H F1 H1 → Rel X.K J O F1 H1 σ ρ1 → RepArs X.K F1 H1 σ as vs → wK X kws σ H1 (fun zs H2 => spC X.K G.C f fn.ps.length (gV vs zs) H2 Q E0) := fun vs F1 H1 s1 q1 r1 => by
      refine hks.kw _ O F1 H1 σ ρ1 bs ρ2 _ q1 h3 fun zs F2 H2 s2 q2 r2 => ?_
      have r3 : RepArs X.K F2 H2 σ (as ++ bs) (vs ++ zs) := (r1.le s2.le).append r2
      have lv : vs.length = kw.np := by rw [r1.length, ha.asLen h1, hl]
      have lz : zs.length = kw.names.length := by rw [r2.length, hks.asLen h3, List.length_map, lk]
      obtain ⟨ys, h5, h6⟩ := permute_rel (P := RepAr X.K F2 H2 σ) (bs := vs ++ zs) r3.length.symm (fun i a b e1 e2 => r3.get e1 e2) hp
      have eg : gV vs zs = ys := by
        show (if _ then _ else _) = _
        rw [if_pos ⟨lv, lz⟩, h5]; rfl
      rw [eg]
      have ly : ys.length = fn.ps.length := by
        obtain ⟨us, hus⟩ : ∃ us : List Value, us.length = vs.length := ⟨List.replicate vs.length .none, by simp⟩
        obtain ⟨ws, hws⟩ : ∃ ws : List Value, ws.length = zs.length := ⟨List.replicate zs.length .none, by simp⟩
        obtain ⟨r7, h8, h9⟩ := permute_rel (P := fun _ _ => True) (bs := us ++ ws) (by rw [List.length_append, List.length_append, hus, hws]) (fun _ _ _ _ _ => trivial) h5
        have := (hkb us ws r7 (by rw [hus, lv]) (by rw [hws, lz]) h8).1
        rw [← this]
        exact h9.length
      exact doCall_ok q2 (.of_paired h6) ly h4 fun v F3 H3 s3 q3 r3 => k v F3 H3 ((s1.trans s2).trans s3) q3 r3
    cases xs with
    | nil =>
      cases ha
      cases h1
      refine fun pins s I => ?_
      refine wpAny_Call_Name_kw (ld_glob I (glo_of c hg) m1 ?_ (okNm_of ho).1)
      refine PySem.W.callWith_KW0 (h₀ := X.base) I.ok.mod.kin m2 w1 (thn (fin [] F H .refl q rfl pos pins s I) fun ws s2 ⟨zs, H2, I2, rz, q2⟩ => ⟨I2.kIn, ?_⟩) (by show (false || _) = false; rw [w3]; rfl)
      rw [w2]
      exact run_fnk m4 c.room KB pass0 I2 (us := []) (vs := []) .nil rz q2
    | cons x xs =>
      have hs := Bool.and_eq_true_iff.mp (show (notStar x && xs.all notStar) = true from ha.stars)
      refine PEto (pe_callK m4 c.room (glo_of c hg) m1 m2 KB pass0 pa_w pk_w w1 w2 (okNm_of ho).1 (star_of hs.1) ?_) (ha.as _ O F H σ ρ as ρ1 _ q h1 fin)
      rw [stars_of (show (x :: xs).all notStar = true from ha.stars), w3]; rfl
end
end Rm

set_option Elab.async false
set_option linter.all false
set_option maxRecDepth 100000
set_option maxHeartbeats 8000000
/-! R9: expressions, further: built-in calls, methods, comprehensions; iterables, targets. -/
namespace Rm
open PySem PySem.Spec L2

section
variable {X : Cx} {J : List (Nat × Addr)}
/-! ### built-in functions -/
theorem RepWs.of_looks {O F : Fz} {H : Hp} {σ : L2.St} {ρ ρ1 : En} (q : Rel X.K J O F H σ ρ) {ws : List W} {vs : List V} {ds : List D} (r : RepWds X.K F H σ ws vs) (h : looks ws ρ = some (ds, ρ1)) : ρ1 = ρ ∧ RepWs X.K F H ds vs := looks_ok q r h
theorem Bf.ok (hc : X.calm = true) (b : Bf) : ∃ (rule : List V → Hp → VK → Prop), FnS X.K rule b.f ∧
    ((∃ id : String, CallR X (.builtin id) rule ∧ bootBuiltins b.nm = some (.builtin id)) ∨ ∃ ty : String, CallR X (.type ty) rule ∧ bootBuiltins b.nm = some (.type ty)) := by
  cases b with
  | len => exact ⟨_, fn_len, .inl ⟨_, call_len, by decide +kernel⟩⟩
  | int => exact ⟨_, fn_int, .inr ⟨_, cr_int, by decide +kernel⟩⟩
  | str => exact ⟨_, fn_str, .inr ⟨_, call_str_int, by decide +kernel⟩⟩
  | abs => exact ⟨_, fn_abs, .inl ⟨_, call_abs, by decide +kernel⟩⟩
  | divmod => exact ⟨_, fn_divmod, .inl ⟨_, call_divmod, by decide +kernel⟩⟩
  | all => exact ⟨_, fn_all, .inl ⟨_, cr_all hc, by decide +kernel⟩⟩
  | any => exact ⟨_, fn_any, .inl ⟨_, cr_any hc, by decide +kernel⟩⟩
  | sum => exact ⟨_, fn_sum, .inl ⟨_, cr_sum hc, by decide +kernel⟩⟩
  | max => exact ⟨_, fn_max, .inl ⟨_, (call_max2 hc).or (cr_max hc), by decide +kernel⟩⟩
  | min => exact ⟨_, fn_min, .inl ⟨_, (call_min2 hc).or (cr_min hc), by decide +kernel⟩⟩
  | tuple => exact ⟨_, fn_tuple, .inr ⟨_, call_tuple_of, by decide +kernel⟩⟩
  | list => exact ⟨_, fn_list, .inr ⟨_, call_list_of, by decide +kernel⟩⟩
theorem Bf.nmOk (b : Bf) : b.nm ∈ bltNames ∧ b.nm ≠ "__name__" ∧ (b.nm == ("__debug__" : Str)) = false := by cases b <;> decide +kernel
variable {T : Tab} {G : Cfg} {N : List Str} {sc : Scope} {st : Str → Bool} {k : Nat}
theorem snd_blt (c : Ctx X T G N sc st k) (b : Bf) (hg : gloC sc b.nm = true) {x : Expr} {xs : List Expr} {d : DEs} {p pos : Pos} (h : AllS X J (x :: xs) d) :
    SndV X J (.Call (.Name b.nm p) (x :: xs) [] pos) (bnd d.ws fun ws => bnd (looks ws) fun ds => lft (b.f ds)) := fun O F H σ ρ r ρ' Q q hm k => by
  obtain ⟨ws, ρ1, h1, h2⟩ := bnd_some hm
  obtain ⟨ds, ρ2, h3, h4⟩ := bnd_some h2
  obtain ⟨t, h5, h6⟩ := lft_some h4
  cases h6
  have hs := Bool.and_eq_true_iff.mp (show (notStar x && xs.all notStar) = true from h.stars)
  obtain ⟨m1, m2, m3⟩ := b.nmOk
  obtain ⟨rule, g1, g2⟩ := Bf.ok c.calm b
  have fin : wA X (x :: xs) σ H fun vs H1 => rule vs H1 Q := h.ws O F H σ ρ ws ρ1 _ q h1 fun vs F1 H1 s1 q1 r1 => by
    obtain ⟨e2, r2⟩ := looks_ok q1 r1 h3
    rw [e2] at k
    refine g1 F1 H1 vs ds r Q q1.trk r2 h5 fun v F2 H2 p2 => ?_
    obtain ⟨s2, q2, r3⟩ := q1.pure p2
    exact k v F2 H2 (s1.trans s2) q2 r3
  rcases g2 with ⟨id, g3, g4⟩ | ⟨ty, g3, g4⟩
  · exact PEto (pe_callB g3 (glo_of c hg) (c.bl _ m1) g4 pa_w m2 m3 (star_of hs.1) (stars_of hs.2)) fin
  · exact PEto (pe_callTy g3 (glo_of c hg) (c.bl _ m1) g4 pa_w m2 m3 (star_of hs.1) (stars_of hs.2)) fin

/-! ### isinstance -/
def D.tyN : D → String
  | .non => "NoneType" | .bl _ => "bool" | .int _ => "int" | .str _ => "str" | .tup _ => "tuple" | .lst _ => "list" | .lk _ => "list"
def Ty.tyN : Ty → String
  | .int => "int" | .bool => "bool" | .str => "str" | .tuple => "tuple" | .list => "list" | .dict => "dict"
theorem kit_has (d : D) (t : Ty) : kitB d.tyN t.tyN = some (t.has d) := by
  have f : ∀ (a : String) (r : Bool), kitB d.tyN a = some r → kitB d.tyN a = some r := fun _ _ h => h
  cases d <;> cases t <;> first
    | exact (by decide +kernel : kitB "NoneType" "int" = some false)
    | exact (by decide +kernel : kitB "NoneType" "bool" = some false)
    | exact (by decide +kernel : kitB "NoneType" "str" = some false)
    | exact (by decide +kernel : kitB "NoneType" "tuple" = some false)
    | exact (by decide +kernel : kitB "NoneType" "list" = some false)
    | exact (by decide +kernel : kitB "NoneType" "dict" = some false)
    | exact (by decide +kernel : kitB "bool" "int" = some true)
    | exact (by decide +kernel : kitB "bool" "bool" = some true)
    | exact (by decide +kernel : kitB "bool" "str" = some false)
    | exact (by decide +kernel : kitB "bool" "tuple" = some false)
    | exact (by decide +kernel : kitB "bool" "list" = some false)
    | exact (by decide +kernel : kitB "bool" "dict" = some false)
    | exact (by decide +kernel : kitB "int" "int" = some true)
    | exact (by decide +kernel : kitB "int" "bool" = some false)
    | exact (by decide +kernel : kitB "int" "str" = some false)
    | exact (by decide +kernel : kitB "int" "tuple" = some false)
    | exact (by decide +kernel : kitB "int" "list" = some false)
    | exact (by decide +kernel : kitB "int" "dict" = some false)
    | exact (by decide +kernel : kitB "str" "int" = some false)
    | exact (by decide +kernel : kitB "str" "bool" = some false)
    | exact (by decide +kernel : kitB "str" "str" = some true)
    | exact (by decide +kernel : kitB "str" "tuple" = some false)
    | exact (by decide +kernel : kitB "str" "list" = some false)
    | exact (by decide +kernel : kitB "str" "dict" = some false)
    | exact (by decide +kernel : kitB "tuple" "int" = some false)
    | exact (by decide +kernel : kitB "tuple" "bool" = some false)
    | exact (by decide +kernel : kitB "tuple" "str" = some false)
    | exact (by decide +kernel : kitB "tuple" "tuple" = some true)
    | exact (by decide +kernel : kitB "tuple" "list" = some false)
    | exact (by decide +kernel : kitB "tuple" "dict" = some false)
    | exact (by decide +kernel : kitB "list" "int" = some false)
    | exact (by decide +kernel : kitB "list" "bool" = some false)
    | exact (by decide +kernel : kitB "list" "str" = some false)
    | exact (by decide +kernel : kitB "list" "tuple" = some false)
    | exact (by decide +kernel : kitB "list" "list" = some true)
    | exact (by decide +kernel : kitB "list" "dict" = some false)
theorem ty_of {F : Fz} {H : Hp} {d : D} {v : V} (h : RepW X.K F H d v) : TyX X.K H v (.type d.tyN) := by
  have sql : ∀ {a : Addr} {vs : List V}, SqL X.K H a vs → TyX X.K H (.ref a) (.type "list") := fun {a vs} q => by
    rcases q with (q | ⟨o, q⟩) | ⟨o, its, n, q, cl, _⟩
    · exact .base (.lst q)
    · exact .base (.frz q)
    · exact .kList q cl
  cases d with
  | non => rw [h.non]; exact .base .non
  | bl b => rw [h.bl]; exact .base (.bl b)
  | int i => rw [h.int]; exact .base (.int i)
  | str s => rw [h.str.1]; exact .base (.str _)
  | tup ds =>
    obtain ⟨a, vs, rfl, t, _, _⟩ := h.tup
    rcases t.sq with (q | ⟨o, q⟩) | ⟨o, its, n, q, cl, _⟩
    · exact .base (.tup q)
    · exact .fTuple q
    · exact .kTuple q cl
  | lst ds =>
    obtain ⟨a, vs, rfl, t, _, _⟩ := h.lst
    exact .base (.lst t)
  | lk ns =>
    obtain ⟨a, rfl, t, _⟩ := h.lk
    exact sql t.sq
theorem Ty.ok (t : Ty) : bootBuiltins t.nm = some (.type t.tyN) ∧ t.nm ∈ bltNames ∧ t.nm ≠ "__name__" ∧ (t.nm == ("__debug__" : Str)) = false := by cases t <;> decide +kernel
theorem snd_isi (c : Ctx X T G N sc st k) (t : Ty) (hg : gloC sc "isinstance" = true) (hg2 : gloC sc t.nm = true) {x : Expr} {d : DE} {p p2 pos : Pos} (he : SndE X J x d) (hs : notStar x = true) :
    SndV X J (.Call (.Name "isinstance" p) [x, .Name t.nm p2] [] pos) (bnd d.w fun w => bnd (look w) fun d => ret (.d (.bl (t.has d)))) := fun O F H σ ρ r ρ' Q q hm k => by
  obtain ⟨w, ρ1, h1, h2⟩ := bnd_some hm
  obtain ⟨dv, ρ2, h3, h4⟩ := bnd_some h2
  cases h4
  obtain ⟨t1, t2, t3, t4⟩ := t.ok
  have pt : PE X (.Name t.nm p2) (tC (.ty t.tyN)) := pe_bltn (glo_of c hg2) (c.bl _ t2) t1 rfl t3 t4
  refine PEto (pe_callB call_isi (glo_of c hg) (c.bl _ (by decide +kernel)) PyProof.Rows.boot_isinstance (pa_cons pe_w (pa_cons pt pa_nil) (star_of hs)) (by decide +kernel) (by decide +kernel) (star_of hs)) ?_
  refine he.w O F H σ ρ w ρ1 _ q h1 fun v F1 H1 s1 q1 r1 => ?_
  obtain ⟨e2, r2⟩ := look_ok q1 r1 h3
  rw [e2] at k
  exact ⟨v, _, _, _, _, rfl, .ty _, ty_of r2, kit_ty (kit_has dv t), k _ F1 H1 s1 q1 rfl⟩

/-! ### methods of texts -/
theorem tl_joinL (sep : List Nat) : ∀ ss : List (List Nat), Txt.join (mkS sep) (ss.map mkS) = mkS (joinL sep ss) := fun ss => by
  rw [TL.join_eq]
  apply TL.ext_tl
  rw [TL.tl_join, List.map_map]
  have e : (TL.tl ∘ mkS) = id := by funext s; rfl
  rw [e, List.map_id]
  show TL.joinL sep ss = joinL sep ss
  induction ss with
  | nil => rfl
  | cons a r ih =>
    cases r with
    | nil => rfl
    | cons b r =>
      show a ++ (sep ++ TL.joinL sep (b :: r)) = a ++ (sep ++ joinL sep (b :: r))
      rw [ih]
theorem joinL_mem {sep : List Nat} {c : Nat} : ∀ {ss : List (List Nat)}, c ∈ joinL sep ss → c ∈ sep ∨ ∃ s ∈ ss, c ∈ s
  | [], h => by cases h
  | [s], h => .inr ⟨s, List.mem_cons_self, h⟩
  | s :: t :: r, h => by
    rcases List.mem_append.mp (show c ∈ s ++ (sep ++ joinL sep (t :: r)) from h) with h | h
    · exact .inr ⟨s, List.mem_cons_self, h⟩
    · rcases List.mem_append.mp h with h | h
      · exact .inl h
      · rcases joinL_mem h with h | ⟨u, hu, h⟩
        · exact .inl h
        · exact .inr ⟨u, List.mem_cons_of_mem _ hu, h⟩
theorem joinL_len {sep : List Nat} : ∀ ss : List (List Nat), (joinL sep ss).length ≤ (ss.map (·.length)).sum + ss.length * sep.length
  | [] => Nat.zero_le _
  | [s] => by simp [joinL]
  | s :: t :: r => by
    have ih := joinL_len (sep := sep) (t :: r)
    show (s ++ (sep ++ joinL sep (t :: r))).length ≤ _
    rw [List.length_append, List.length_append]
    simp only [List.map_cons, List.sum_cons, List.length_cons] at ih ⊢
    rw [Nat.succ_mul (r.length + 1)]
    omega
theorem sum_lens (ss : List (List Nat)) : ((ss.map mkS).map (·.length)).sum = (ss.map (·.length)).sum := by
  induction ss with
  | nil => rfl
  | cons s r ih => simp only [List.map_cons, List.sum_cons, ih, mkS_len]
/-- a method's rule by deep values -/
def MtS (K : PySem.W.Frag) (rule : V → List V → Hp → VK → Prop) (f : D → List D → Option R) : Prop := ∀ (F : Fz) (H : Hp) (x : V) (xs : List V) (a : D) (as : List D) (r : R) (Q : VK), Trk F H → Rep K F H a x → RepWs K F H as xs → f a as = some r →
  (∀ v F' H', PRes K F H r v F' H' → Q v H') → rule x xs H Q
theorem RepL.strv {K F H} {ds : List D} {vs : List V} {ss : List (List Nat)} (r : RepL K F H ds vs) (e : strsOf ds = some ss) : vs = (ss.map mkS).map V.str ∧ ∀ s ∈ ss, okS s = true := by
  rw [strsOf_eq e] at r
  obtain ⟨h1, h2⟩ := r.strs
  exact ⟨by rw [h1, List.map_map]; rfl, h2⟩
abbrev rJoin (K : PySem.W.Frag) : V → List V → Hp → VK → Prop := fun x xs H Q => ∃ a p, ∃ ys : List Str, x = .str a ∧ xs = [.ref p] ∧ (SqL K H p (ys.map V.str) ∨ SqT K H p (ys.map V.str)) ∧ (ys.map (·.length)).sum + ys.length * a.length ≤ 16777216 ∧ Q (.str (Txt.join a ys)) H
abbrev rZf : V → List V → Hp → VK → Prop := fun x xs H Q => ∃ (a : Str) (i : Int), x = .str a ∧ xs = [.int i] ∧ PadOk i = true ∧ Q (.str (Txt.zfill a i)) H
abbrev rSix : V → List V → Hp → VK → Prop := fun x xs H Q => ∃ a b i rest, x = .str a ∧ xs = [.str b] ∧ Builtin.Str.occurrences a b 0 a.length 1 = i :: rest ∧ Q (.int (i : Nat)) H
def rLjF : V → List V → Hp → VK → Prop := fun x xs H Q => ∃ (a : Str) (i : Int) (c : Nat), x = .str a ∧ xs = [.int i, .str ⟨#[c]⟩] ∧ PadOk i = true ∧ Q (.str (Txt.ljustF a i c)) H
theorem mt_ljF : MtR X "str.ljust" rLjF := by
  intro pins s σ H x xs v us Q I rx rs ⟨a, i, c, e1, e2, hp, q⟩
  subst e1 e2
  obtain ⟨t, rfl⟩ := rx
  cases rs with
  | cons r1 rs =>
    cases rs with
    | cons r2 rs =>
      cases rs
      obtain ⟨t1, rfl⟩ := r1
      obtain ⟨t2, rfl⟩ := r2
      exact PyProof.Rows.ljust_fill hp rfl fun t' k => ⟨.str _, H, I.tok _, ⟨_, rfl⟩, q⟩
theorem idx_sign (s : List Nat) (c i : Nat) (h : s.findIdx? (· == c) = some i) : ∃ rest, Builtin.Str.occurrences (mkS s) ⟨#[c]⟩ 0 (mkS s).length 1 = i :: rest := by
  have hat : ∀ j, PySem.StrLaws.At (mkS s) ⟨#[c]⟩ (mkS s).length j ↔ s[j]? = some c := fun j => PySem.StrLaws.subAt_one (mkS s) c j
  obtain ⟨h1, h2, h3⟩ := List.findIdx?_eq_some_iff_getElem.mp h
  have hi : s[i]? = some c := by rw [List.getElem?_eq_getElem h1]; simpa using h2
  rcases PySem.StrLaws.occ_head (mkS s) ⟨#[c]⟩ 1 (Nat.le_refl _) with ⟨_, hn⟩ | ⟨j, r, e, hj, hk⟩
  · exact absurd ((hat i).mpr hi) (hn i)
  · refine ⟨r, ?_⟩
    have hj' := (hat j).mp hj
    have : i = j := by
      rcases Nat.lt_trichotomy i j with z | z | z
      · exact absurd ((hat i).mpr hi) (hk i z)
      · exact z
      · have hjl : j < s.length := (List.getElem?_eq_some_iff.mp hj').1
        have z2 := h3 j z
        rw [List.getElem?_eq_getElem hjl] at hj'
        simp at hj'
        simp [hj'] at z2
    rw [this]; exact e
theorem padOk_of {i : Int} (h0 : 0 ≤ i) (h1 : i ≤ 1000) : PadOk i = true := by
  unfold PadOk
  rw [Bool.and_eq_true]
  have hs : sizeLine = 16777216 := sizeLine_eq
  constructor
  · unfold fitsSsize
    simp
    omega
  · simp [Builtin.Str.tooLong, hs]
    omega
theorem ms_join {K : PySem.W.Frag} : MtS K (rJoin K) mJoin := by
  intro F H x xs a as r Q tr ha has e h
  unfold mJoin at e
  split at e
  · rename_i sep d
    obtain ⟨ss, e1, e2⟩ := Option.bind_eq_some_iff.mp e
    obtain ⟨ds, e3, e4⟩ := Option.bind_eq_some_iff.mp e1
    split at e2
    · rename_i hz
      cases e2
      cases has with
      | cons hd hr =>
        cases hr
        obtain ⟨p, vs, rfl, sq, _, rl⟩ := hd.seq e3
        obtain ⟨ev, ok⟩ := rl.strv e4
        subst ev
        refine ⟨mkS sep, p, ss.map mkS, ha.1, rfl, sq, by rw [sum_lens, List.length_map, mkS_len]; exact hz, ?_⟩
        rw [tl_joinL]
        refine h _ F H (.val ⟨rfl, okS_mk (Nat.le_trans (joinL_len ss) hz) fun c hc => ?_⟩)
        rcases joinL_mem hc with hc | ⟨s, hs, hc⟩
        · exact okS_lt ha.2 c hc
        · exact okS_lt (ok s hs) c hc
    · cases e2
  · cases e
theorem pad_len {a b : Nat} (h1 : a ≤ 1000) (h2 : b ≤ 1000) : a - b + b ≤ SZ := by
  have hz : (SZ : Nat) = 16777216 := rfl
  omega
theorem ms_zfill {K : PySem.W.Frag} : MtS K rZf mZfill := by
  intro F H x xs a as r Q tr ha has e h
  unfold mZfill at e
  split at e
  · rename_i s i
    cases s with
    | nil => cases e
    | cons c s =>
      simp only at e
      split at e
      · rename_i hc
        obtain ⟨c1, c2, c3, c4, c5⟩ := hc
        cases e
        cases has with
        | cons hd hr =>
          cases hr
          refine ⟨mkS (c :: s), i, ha.1, by rw [hd.int], padOk_of c3 c4, ?_⟩
          have e5 : Txt.zfill (mkS (c :: s)) i = mkS (List.replicate (i.toNat - (c :: s).length) 48 ++ (c :: s)) := by
            unfold Txt.zfill
            rw [mkS_len]
            split
            · rename_i hl
              have : i.toNat - (c :: s).length = 0 := by omega
              rw [this]; rfl
            · unfold zfilled
              have : (mkS (c :: s)).cps[0]? = some c := rfl
              rw [this]
              split
              · rename_i z; cases z; exact absurd rfl c1
              · rename_i z; cases z; exact absurd rfl c2
              · unfold Builtin.Str.padded
                apply TL.ext_tl
                simp [TL.tl, mkS]
          rw [e5]
          refine h _ F H (.val ⟨rfl, okS_mk ?_ fun z hz => ?_⟩)
          · rw [List.length_append, List.length_replicate]
            exact pad_len (by omega) c5
          · rcases List.mem_append.mp hz with hz | hz
            · rw [List.eq_of_mem_replicate hz]; decide
            · exact okS_lt ha.2 z hz
      · cases e
  · cases e
theorem ms_index {K : PySem.W.Frag} : MtS K rSix mIndex := by
  intro F H x xs a as r Q tr ha has e h
  unfold mIndex at e
  split at e
  · rename_i s c
    obtain ⟨i, e1, rfl⟩ := Option.map_eq_some_iff.mp e
    cases has with
    | cons hd hr =>
      cases hr
      obtain ⟨rest, e2⟩ := idx_sign s c i e1
      exact ⟨mkS s, ⟨#[c]⟩, i, rest, ha.1, by rw [hd.str.1]; rfl, e2, h _ F H (.val rfl)⟩
  · cases e
theorem ms_ljust {K : PySem.W.Frag} : MtS K rLjF mLjust := by
  intro F H x xs a as r Q tr ha has e h
  unfold mLjust at e
  split at e
  · rename_i s i c
    split at e
    · rename_i hc
      obtain ⟨c1, c2, c3⟩ := hc
      cases e
      cases has with
      | cons hd hr =>
        cases hr with
        | cons hd2 hr =>
          cases hr
          refine ⟨mkS s, i, c, ha.1, by rw [hd.int, hd2.str.1]; rfl, padOk_of c1 c2, ?_⟩
          have e5 : Txt.ljustF (mkS s) i c = mkS (s ++ List.replicate (i.toNat - s.length) c) := by
            unfold Txt.ljustF
            rw [mkS_len]
            split
            · rename_i hl
              have : i.toNat - s.length = 0 := by omega
              rw [this, List.replicate_zero, List.append_nil]
            · unfold Builtin.Str.padded
              apply TL.ext_tl
              simp [TL.tl, mkS]
          rw [e5]
          refine h _ F H (.val ⟨rfl, okS_mk ?_ fun z hz => ?_⟩)
          · rw [List.length_append, List.length_replicate, Nat.add_comm]
            exact pad_len (by omega) c3
          · rcases List.mem_append.mp hz with hz | hz
            · exact okS_lt ha.2 z hz
            · rw [List.eq_of_mem_replicate hz]
              exact okS_lt hd2.str.2 c (by simp)
    · cases e
  · cases e
theorem Mt.ok (m : Mt) : ∃ (rule : V → List V → Hp → VK → Prop) (id : String), MtR X id rule ∧ MtS X.K rule m.f ∧ Slot "str" m.nm id ∧ typeOf (.builtin id) = pure (.type "method_descriptor") := by
  cases m with
  | join => exact ⟨rJoin X.K, _, mt_join, ms_join, PySem.F.slot_str_join, PySem.F.type_str_join⟩
  | zfill => exact ⟨rZf, _, mt_zfill, ms_zfill, PySem.F.slot_str_zfill, PySem.F.type_str_zfill⟩
  | index => exact ⟨rSix, _, mt_sindex, ms_index, PySem.F.slot_str_index, PySem.F.type_str_index⟩
  | ljust => exact ⟨rLjF, _, mt_ljF, ms_ljust, PySem.F.slot_str_ljust, PySem.F.type_str_ljust⟩
end
end Rm

set_option Elab.async false
set_option linter.all false
set_option maxRecDepth 100000
set_option maxHeartbeats 8000000
/-! R10: methods called, targets, iterables, comprehensions. -/
namespace Rm
open PySem PySem.Spec L2

section
variable {X : Cx} {J : List (Nat × Addr)}
variable {T : Tab} {G : Cfg} {N : List Str} {sc : Scope} {st : Str → Bool} {k : Nat}
theorem base_ok {o : Expr} {f : Str} {env : Env} {w : Sem Value} (h : plainO o = true) : attributeBase o f env w = w := by
  cases o with
  | Call fn as ks p =>
    cases fn with
    | Name x p' => exact base_call (by
        have h : (!as.isEmpty || !ks.isEmpty || !decide (x = ("super" : Str))) = true := h
        rw [show (x != ("super" : Str)) = !decide (x = ("super" : Str)) by rw [bne, Bool.beq_eq_decide_eq]]
        exact h)
    | _ => cases h
  | _ => rfl
theorem few_of {xs : List Expr} {pos : Pos} {env : Env} (h : xs.all notStar = true) (hl : xs.length < 20) : ((backTo pos (starEach xs env)).all (fun x => !x.1) && (backToKw pos (keywordEach [] env)).all (fun x => x.1.isSome)
      && decide (xs.length + ([] : List Keyword).length + (if ([] : List Keyword).isEmpty then 0 else 1) < 30)) = true := by
  rw [stars_all h]
  show (true && true && decide (xs.length + 0 + 0 < 30)) = true
  rw [decide_eq_true (by omega)]; rfl
theorem snd_met (m : Mt) {o x : Expr} {xs : List Expr} {dr : DE} {d : DEs} {ap pos : Pos} (hr : SndE X J o dr) (hp : plainO o = true) (h : AllS X J (x :: xs) d) (hl : (x :: xs).length < 20) (hline : (ap.endLine == pos.line) = true) :
    SndV X J (.Call (.Attribute o m.nm ap) (x :: xs) [] pos) (metV m dr d) := fun O F H σ ρ r ρ' Q q hm k => by
  obtain ⟨y, ρ1, h1, h2⟩ := bnd_some hm
  obtain ⟨ws, ρ2, h3, h4⟩ := bnd_some h2
  obtain ⟨ds, ρ3, h5, h6⟩ := bnd_some h4
  obtain ⟨t, h7, h8⟩ := lft_some h6
  cases h8
  obtain ⟨rule, id, g1, g2, g3, g4⟩ := Mt.ok (X := X) m
  have hs := Bool.and_eq_true_iff.mp (show (notStar x && xs.all notStar) = true from h.stars)
  refine PEto (pe_bm PySem.F.plainAttrs_str g3 g4 g1 pe_w pa_w (base_ok hp) (few_of h.stars hl) hline (star_of hs.1) (stars_of hs.2)) (hr.v.toD q h1 fun v F1 H1 s1 q1 r1 => ?_)
  have hty : tyV X.K "str" v H1 := by
    have : ∃ s, y.toD = .str s := by
      cases e : y.toD <;> rw [e] at h7 <;> first | exact ⟨_, rfl⟩ | (cases m <;> cases h7)
    obtain ⟨s, e⟩ := this
    rw [e] at r1
    rw [r1.1]; rfl
  refine ⟨hty, h.ws O F1 H1 σ _ ws _ _ q1 h3 fun vs F2 H2 s2 q2 r2 => ?_⟩
  obtain ⟨e3, r3⟩ := looks_ok q2 r2 h5
  rw [e3] at k
  refine g2 F2 H2 v vs _ _ _ _ q2.trk (r1.le s2.le) r3 h7 fun w F3 H3 p3 => ?_
  obtain ⟨s3, q3, r3⟩ := q2.pure p3
  exact k w F3 H3 ((s1.trans s2).trans s3) q3 r3
theorem chg_some {i : Nat} {f : List D → Option (List D)} {ρ ρ' : En} {u : Unit} (h : chg i f ρ = some (u, ρ')) : ∃ xs ys s s', ρ[i]? = some s ∧ f xs = some ys ∧ ρ' = ρ.set i s' ∧ ((s = .own xs ∧ s' = .own ys) ∨ (s = .io xs ∧ s' = .io ys)) := by
  cases e : ρ[i]? with
  | none => simp [chg, e] at h
  | some s =>
    cases s with
    | un => simp [chg, e] at h
    | d _ => simp [chg, e] at h
    | own xs =>
      simp only [chg, e] at h
      cases e2 : f xs with
      | none => rw [e2] at h; cases h
      | some ys => rw [e2] at h; cases h; exact ⟨xs, ys, _, _, rfl, e2, rfl, .inl ⟨rfl, rfl⟩⟩
    | io xs =>
      simp only [chg, e] at h
      cases e2 : f xs with
      | none => rw [e2] at h; cases h
      | some ys => rw [e2] at h; cases h; exact ⟨xs, ys, _, _, rfl, e2, rfl, .inr ⟨rfl, rfl⟩⟩
/-- what is written at slot i -/
theorem Rel.chg {O F : Fz} {H : Hp} {σ : L2.St} {ρ ρ' : En} {K : PySem.W.Frag} (q : Rel K J O F H σ ρ) {i : Nat} {f : List D → Option (List D)} {u : Unit} {a : Addr} (ea : σ[i]? = some (some (.ref a))) (h : chg i f ρ = some (u, ρ')) :
    ∃ xs ys vs, f xs = some ys ∧ H a = some (.lst vs) ∧ RepL K F H xs vs ∧ xs.length ≤ SZ ∧ (ys.length ≤ SZ → ∀ ws, RepL K F H ys ws → Stp O F H F (upd H a (.lst ws)) ∧ Rel K J O F (upd H a (.lst ws)) σ ρ') := by
  obtain ⟨xs, ys, s, s', e, hf, rfl, hs⟩ := chg_some h
  have own : ∃ a', σ[i]? = some (some (.ref a')) ∧ Ow K O F H a' xs := by
    have t := q.slot i s e
    rcases hs with ⟨rfl, _⟩ | ⟨rfl, _⟩
    · exact t
    · obtain ⟨a', e1, _, o⟩ := t; exact ⟨a', e1, o⟩
  obtain ⟨a', e1, o⟩ := own
  rw [ea] at e1; cases e1
  obtain ⟨vs, hv, rl⟩ := o.at_
  exact ⟨xs, ys, vs, hf, hv, rl, o.ln, fun hz ws hw => q.write ea hz hw e (hs.imp (fun z => ⟨xs, z⟩) fun z => ⟨xs, z⟩)⟩
theorem snd_mut (c : Ctx X T G N sc st k) (m : Mc) {i : Nat} {n : Str} {x : Expr} {d : DE} {p ap pos : Pos} (h1 : nmAt N i n = true) (h2 : visC sc n = true) (h3 : okNm n = true) (he : SndE X J x d) (hs : notStar x = true) (hline : (ap.endLine == pos.line) = true) :
    SndV X J (.Call (.Attribute (.Name n p) m.nm ap) [x] [] pos) (mutV m i d) := fun O F H σ ρ r ρ' Q q hm k => by
  obtain ⟨u0, ρ0, g1, g2⟩ := bnd_some hm
  obtain ⟨y, ρ1, g3, g4⟩ := bnd_some g2
  obtain ⟨u, ρ2, g5, g6⟩ := bnd_some g4
  cases g6
  obtain ⟨e0, o0⟩ := isOwn_some g1
  have e0 : ρ0 = ρ := e0
  subst e0
  obtain ⟨a, zs, ea, oa, _⟩ := q.ownA o0
  obtain ⟨vz, hz, _⟩ := oa.at_
  have ty : tyV X.K "list" (.ref a) H := .inl ⟨rfl, vz, SqL.of hz⟩
  have pv := pe_slot c (p := p) h1 h2 h3
  have few := few_of (xs := [x]) (pos := pos) (env := X.env) (by simp [hs]) (by show 1 < 20; decide)
  cases m with
  | append =>
    refine PEto (pe_bm PySem.F.plainAttrs_list PySem.F.slot_list_append PySem.F.type_list_append mt_append pv (pa_cons pe_w pa_nil (star_of hs)) rfl few hline (star_of hs) rfl) ⟨_, ea, ty, he.v.toD q g3 fun v F1 H1 s1 q1 r1 => ?_⟩
    obtain ⟨xs, ys, vs, hf, hv, rl, zx, fin⟩ := q1.chg ea g5
    simp only [Mc.f] at hf
    split at hf
    · rename_i hlt
      cases hf
      obtain ⟨s2, q2⟩ := fin (by rw [List.length_append]; exact hlt) _ (rl.append (.one r1))
      exact ⟨a, vs, v, rfl, rfl, hv, by rw [rl.length, sz_eq]; exact hlt, k _ F1 _ (s1.trans s2) q2 rfl⟩
    · cases hf
  | extend =>
    refine PEto (pe_bm PySem.F.plainAttrs_list PySem.F.slot_list_extend PySem.F.type_list_extend mt_extend pv (pa_cons pe_w pa_nil (star_of hs)) rfl few hline (star_of hs) rfl) ⟨_, ea, ty, he.v.toD q g3 fun v F1 H1 s1 q1 r1 => ?_⟩
    obtain ⟨xs, ys, vs, hf, hv, rl, zx, fin⟩ := q1.chg ea g5
    cases e : y.toD <;> rw [e] at hf r1 <;> first | (cases hf; done) | skip
    rename_i zs
    simp only [Mc.f] at hf
    split at hf
    · rename_i hlt
      cases hf
      obtain ⟨b, ws, rfl, _, hb, _, rb⟩ := r1
      obtain ⟨s2, q2⟩ := fin (by rw [List.length_append]; exact hlt) _ (rl.append rb)
      exact ⟨a, b, vs, ws, rfl, rfl, hv, hb, by rw [rl.length, rb.length, sz_eq]; exact hlt, k _ F1 _ (s1.trans s2) q2 rfl⟩
    · cases hf

/-! ### targets -/
def wG (X : Cx) (tg : Expr) : TG := fun v σ H Q => ∀ pins s u, Inv X pins σ H s → RelV v u → wpAny (model X.prog X.w) X.A (assign tg X.env u) (fun _ s' => ∃ σ' H', Inv X pins σ' H' s' ∧ Q σ' H') X.xe s
theorem pg_w {X : Cx} {tg : Expr} : PG X tg (wG X tg) := ⟨fun pins s _ _ _ u _ I r h => h pins s u I r⟩
theorem PGto {X : Cx} {tg : Expr} {t : TG} {v σ H Q} (p : PG X tg t) (h : t v σ H Q) : wG X tg v σ H Q := fun pins s u I r => p.run pins s σ H v u Q I r h
def SndG (X : Cx) (J : List (Nat × Addr)) (tg : Expr) (sl : List Nat) (m : D → M Unit) : Prop := ∀ (O F : Fz) (H : Hp) (σ : L2.St) (ρ : En) (d : D) (v : V) (u : Unit) (ρ' : En) (Q : L2.St → Hp → Prop), Rel X.K J O F H σ ρ → Rep X.K F H d v → m d ρ = some (u, ρ') →
  (∀ σ' F' H', Stp O F H F' H' → Rel X.K J O F' H' σ' ρ' → σ'.length = σ.length → (∀ j, j ∉ sl → σ'[j]? = σ[j]?) → Q σ' H') → wG X tg v σ H Q
def SndGs (X : Cx) (J : List (Nat × Addr)) (tgs : List Expr) (sl : List Nat) (m : List D → M Unit) : Prop := ∃ t : TGs, PGs X tgs t ∧ ∀ (O F : Fz) (H : Hp) (σ : L2.St) (ρ : En) (ds : List D) (vs : List V) (u : Unit) (ρ' : En) (Q : L2.St → Hp → Prop), Rel X.K J O F H σ ρ → RepL X.K F H ds vs → m ds ρ = some (u, ρ') →
  (∀ σ' F' H', Stp O F H F' H' → Rel X.K J O F' H' σ' ρ' → σ'.length = σ.length → (∀ j, j ∉ sl → σ'[j]? = σ[j]?) → Q σ' H') → t vs σ H Q
theorem loc_of {sc : Scope} {st : Str → Bool} {x : Str} (h : locC sc st x = true) : Loc sc x ∧ (st x = true ∨ sc.names.lookup x = some .local) := by
  unfold locC at h
  split at h
  · exact ⟨.inl (by assumption), .inr (by assumption)⟩
  · exact ⟨.inr (by assumption), .inl h⟩
  · cases h
theorem setVar_some {i : Nat} {r : R} {ρ ρ' : En} {u : Unit} (h : setVar i r ρ = some (u, ρ')) : ρ' = ρ.set i r.sv ∧ i < ρ.length ∧ ∀ xs, ρ[i]? ≠ some (.io xs) := by
  cases e : ρ[i]? with
  | none => simp [setVar, e] at h
  | some s =>
    have hi : i < ρ.length := (List.getElem?_eq_some_iff.mp e).1
    cases s with
    | io _ => simp [setVar, e] at h
    | un => simp only [setVar, e, Option.some.injEq, Prod.mk.injEq] at h; exact ⟨h.2.symm, hi, fun xs z => by cases z⟩
    | d _ => simp only [setVar, e, Option.some.injEq, Prod.mk.injEq] at h; exact ⟨h.2.symm, hi, fun xs z => by cases z⟩
    | own _ => simp only [setVar, e, Option.some.injEq, Prod.mk.injEq] at h; exact ⟨h.2.symm, hi, fun xs z => by cases z⟩
theorem pg_slot (c : Ctx X T G N sc st k) {i : Nat} {n : Str} {p : Pos} (h1 : nmAt N i n = true) (h2 : locC sc st n = true) : PG X (.Name n p) (gName i) := by
  obtain ⟨a, b⟩ := loc_of h2
  refine pg_name (by rw [c.n]; exact c.nd) (by rw [c.n]; exact of_decide_eq_true h1) (by rw [c.scE]; exact a) ?_
  rcases b with b | b
  · exact .inl (c.stE n b)
  · exact .inr (by rw [c.scE]; exact b)
theorem snd_tname (c : Ctx X T G N sc st k) {i : Nat} {n : Str} {p : Pos} (h1 : nmAt N i n = true) (h2 : locC sc st n = true) : SndG X J (.Name n p) [i] (fun d => setVar i (.d d)) := fun O F H σ ρ d v u ρ' Q q r hm k => by
  obtain ⟨rfl, hi, _⟩ := setVar_some hm
  refine PGto (pg_slot c h1 h2) (k _ F H .refl (q.store (r := .d d) r hi) (by rw [List.length_set]) (fun j hj => List.getElem?_set_ne fun z => hj (by rw [z]; exact List.mem_singleton.mpr rfl)))
theorem assignEach_len {env : Env} : ∀ {ts : List Expr}, (assignEach ts env).length = ts.length
  | [] => rfl
  | t :: ts => by
    have ih := assignEach_len (env := env) (ts := ts)
    cases t <;> first | (show _ + 1 = _ + 1; rw [ih])
theorem assignEach_no {env : Env} : ∀ {ts : List Expr}, ts.all notStar = true → (assignEach ts env).findIdx? (·.1) = none
  | [], _ => rfl
  | t :: ts, h => by
    have q := Bool.and_eq_true_iff.mp (show (notStar t && ts.all notStar) = true from h)
    have ih := assignEach_no (env := env) q.2
    have e : ∃ m, assignEach (t :: ts) env = (false, m) :: assignEach ts env := by cases t <;> first | exact ⟨_, rfl⟩ | (simp [notStar] at q)
    obtain ⟨m, e⟩ := e
    rw [e, List.findIdx?_cons]
    simp [ih]
theorem snd_ttup (c : Ctx X T G N sc st k) {ts : List Expr} {kk : Nat} {p : Pos} {sl : List Nat} {m : List D → M Unit} (h : SndGs X J ts sl m) (hs : ts.all notStar = true) (hl : ∀ ds ρ u ρ', m ds ρ = some (u, ρ') → ds.length = ts.length) :
    SndG X J (.Tuple ts kk p) sl (fun d => match d with | .tup ds => m ds | _ => fail) := fun O F H σ ρ d v u ρ' Q q r hm k => by
  obtain ⟨t, h1, h2⟩ := h
  cases d <;> first | (cases hm; done) | skip
  rename_i ds
  obtain ⟨a, vs, rfl, tp, _, rl⟩ := r
  refine PGto (pg_tup (n := ts.length) c.calm h1 assignEach_len (assignEach_no hs)) ⟨a, vs, rfl, tp.sq, by rw [rl.length]; exact hl _ _ _ _ hm, ?_⟩
  exact h2 O F H σ ρ ds vs u ρ' Q q rl hm k
theorem sndGs_nil : SndGs X J [] [] (fun ds => match ds with | [] => ret () | _ :: _ => fail) := ⟨gNil, pgs_nil, fun O F H σ ρ ds vs u ρ' Q q r hm k => by
  cases ds with
  | nil =>
    cases hm
    exact ⟨r, k σ F H .refl q rfl (fun _ _ => rfl)⟩
  | cons _ _ => cases hm⟩
theorem sndGs_cons {t : Expr} {ts : List Expr} {s1 s2 : List Nat} {m : D → M Unit} {ms : List D → M Unit} (h : SndG X J t s1 m) (hs : SndGs X J ts s2 ms) (hn : notStar t = true) : SndGs X J (t :: ts) (s1 ++ s2) (fun ds => match ds with | [] => fail | d :: ds => bnd (m d) fun _ => ms ds) := by
  obtain ⟨tr, p2, g2⟩ := hs
  refine ⟨gCons (wG X t) tr, pgs_cons pg_w p2 ?_, fun O F H σ ρ ds vs u ρ' Q q r hm k => ?_⟩
  · cases t <;> first | rfl | (simp [notStar] at hn)
  · cases ds with
    | nil => cases hm
    | cons d ds =>
      obtain ⟨v, vr, rfl, r1, r2⟩ := r
      obtain ⟨u1, ρ1, h1, h2⟩ := bnd_some (show bnd (m d) _ ρ = _ from hm)
      refine ⟨v, vr, rfl, h O F H σ ρ d v u1 ρ1 _ q r1 h1 fun σ1 F1 H1 st1 q1 l1 e1 => ?_⟩
      refine g2 O F1 H1 σ1 ρ1 ds vr u ρ' Q q1 (r2.le st1.le) h2 fun σ2 F2 H2 st2 q2 l2 e2 => ?_
      exact k σ2 F2 H2 (st1.trans st2) q2 (l2.trans l1) (fun j hj => (e2 j fun z => hj (List.mem_append_right _ z)).trans (e1 j fun z => hj (List.mem_append_left _ z)))
theorem snd_tsub (c : Ctx X T G N sc st k) {i : Nat} {n : Str} {x : Expr} {d : DE} {p pos : Pos} (h1 : nmAt N i n = true) (h2 : visC sc n = true) (h3 : okNm n = true) (he : SndE X J x d) (hs : notSlice x = true) :
    SndG X J (.Subscript (.Name n p) x pos) [] (subG i d) := fun O F H σ ρ dv v u ρ' Q q r hm k => by
  obtain ⟨u0, ρ0, g1, g2⟩ := bnd_some hm
  obtain ⟨y, ρ1, g3, g4⟩ := bnd_some g2
  obtain ⟨z, ρ2, g5, g6⟩ := bnd_some g4
  obtain ⟨z', g7, g8⟩ := lft_some g5
  cases g8
  obtain ⟨e0, o0⟩ := isOwn_some g1
  have e0 : ρ0 = ρ := e0
  subst e0
  obtain ⟨a, zs, ea, oa, _⟩ := q.ownA o0
  have pv := pe_slot c (p := p) h1 h2 h3
  refine PGto (pg_sub pv pe_w set_list ?_) ⟨_, ea, he.v.toD q g3 fun w F1 H1 s1 q1 r1 => ?_⟩
  · intro v
    cases x <;> first | rfl | (simp [notSlice] at hs)
  · obtain ⟨xs, ys, vs, hf, hv, rl, zx, fin⟩ := q1.chg ea g6
    obtain ⟨j, hj, rfl⟩ := Option.map_eq_some_iff.mp hf
    obtain ⟨s2, q2⟩ := fin (by rw [List.length_set]; exact zx) _ (rl.set j (r.le s1.le))
    unfold toI at g7
    split at g7
    · rename_i ii ei
      cases g7
      rw [ei] at r1
      exact ⟨a, vs, _, j, rfl, r1, hv, by rw [rl.length]; exact hj, k σ F1 _ (s1.trans s2) q2 rfl (fun _ _ => rfl)⟩
    · cases g7
end
end Rm

set_option Elab.async false
set_option linter.all false
set_option maxRecDepth 100000
set_option maxHeartbeats 8000000
/-! R10e: enumerate of a list, a tuple, a text, from any start. -/
namespace Rm
open PySem PySem.Spec PyProof.Rows L2
open Sem (wp)

/-- an iterator's own thing over a source whose items are xs as long as Sq stands -/
structure SrcE (P : Program) (w : World) (K : PySem.W.Frag) (it : Addr) (xs : List V) (Sq : Hp → Prop) (St : Nat → Heap → Prop) : Prop where
  obj : ∀ i h, St i h → ∃ o, h.get? it = some o ∧ ∀ v, o.data ≠ .cell v
  keep : ∀ i h h', St i h → (∀ o, h.get? it = some o → h'.get? it = some o) → St i h'
  draws : ∀ (X : Cx) (pins : List (Addr × Obj)) (σ : L2.St) (H : Hp) (s : Shared) (i : Nat), X.prog = P → X.w = w → X.K = K → X.calm = true → Inv X pins σ H s → Sq H → St i s.heap → H it = none →
    ∃ (fp : List Addr) (Pi : Nat → Value → Prop) (Sd : Nat → Heap → Prop), Draws P w X.A.in1 it fp xs.length Pi Sd ∧ (∀ i u, Pi i u → ∃ x, xs[i]? = some x ∧ RelV x u) ∧ Sd i s.heap ∧ (∀ i h, Sd i h → St i h) ∧
      ∀ e, e ≠ it → (∀ its, ¬ s.heap.IsList e its) → (∀ its, ¬ s.heap.IsTuple e its) → e ∉ fp
/-- what may be walked as a source -/
inductive SrcOf (K : PySem.W.Frag) (H : Hp) : V → List V → (Hp → Prop) → Prop
  | text (z : Str) : SrcOf K H (.str z) (z.cps.toList.map fun c => .str ⟨#[c]⟩) (fun _ => True)
  | tup (a : Addr) (xs : List V) (h : SqT K H a xs) : SrcOf K H (.ref a) xs (fun H => SqT K H a xs)
  | lst (a : Addr) (xs : List V) (h : SqL K H a xs) : SrcOf K H (.ref a) xs (fun H => SqL K H a xs)
theorem SrcOf.now {K H v xs Sq} (h : SrcOf K H v xs Sq) : Sq H := by
  cases h with
  | text z => trivial
  | tup a xs h => exact h
  | lst a xs h => exact h
theorem SrcOf.begins {X : Cx} {pins : List (Addr × Obj)} {σ : L2.St} {H : Hp} {s : Shared} (I : Inv X pins σ H s) {v : V} {u : Value} {xs : List V} {Sq : Hp → Prop} (h : SrcOf X.K H v xs Sq) (r : RelV v u) :
    ∃ (o : Obj) (Hq : Heap → Prop), Begins u o Hq ∧ Hq s.heap ∧ ∀ it, s.heap.objs.size ≤ it → ∃ St, SrcE X.prog X.w X.K it xs Sq St ∧ ∀ h, h.get? it = some o → St 0 h := by
  cases h with
  | text z =>
    obtain ⟨t, rfl⟩ := r
    refine ⟨_, _, begins_text z t, trivial, fun it _ => ⟨fun i h => h.IsStrIter it (strIterType z) z t i, ⟨fun i h ⟨o, q, _, d⟩ => ⟨o, q, fun v e => by rw [d] at e; cases e⟩, fun i h h' ⟨o, q, x⟩ k => ⟨o, k o q, x⟩, ?_⟩, fun h e => ⟨_, e, rfl, rfl⟩⟩⟩
    intro X pins σ H s i hP hw hK hc I _ st _
    rw [← hP, ← hw]
    have D := Draws.text (prog := X.prog) (w := X.w) (A := X.A.in1) (I.ok.hd hc) it z t
    rw [show z.cps.size = (z.cps.toList.map fun c => V.str ⟨#[c]⟩).length by simp] at D
    refine ⟨_, _, _, D, fun i u ⟨c, t, e, q⟩ => ⟨.str ⟨#[c]⟩, ?_, t, q⟩, st, fun _ _ x => x, fun e ne _ _ z => ?_⟩
    · rw [List.getElem?_map]
      have : z.cps.toList[i]? = some c := by simpa using e
      rw [this]; rfl
    · exact ne (List.mem_singleton.mp z)
  | tup a xs h =>
    cases r
    obtain ⟨its, rv, p, _⟩ := I.tuple h
    have la : a < s.heap.objs.size := by obtain ⟨o, q, _⟩ := p; exact Heap.lt_size q
    refine ⟨_, _, begins_tuple a its.toArray, p, fun it hit => ⟨fun i h => h.IsTupleIter it a i, ⟨fun i h ⟨o, q, _, d⟩ => ⟨o, q, fun v e => by rw [d] at e; cases e⟩, fun i h h' ⟨o, q, x⟩ k => ⟨o, k o q, x⟩, ?_⟩, fun h e => ⟨_, e, rfl, rfl⟩⟩⟩
    intro X2 pins2 σ2 H2 s2 i hP hw hK hc I2 hs st _
    rw [← hP, ← hw]
    rw [← hK] at hs
    obtain ⟨its2, rv2, p2, _⟩ := I2.tuple hs
    have D := Draws.tuple (prog := X2.prog) (w := X2.w) (A := X2.A.in1) (I2.ok.hd hc) it a (Nat.ne_of_lt (Nat.lt_of_lt_of_le la hit)) its2.toArray
    rw [show its2.toArray.size = xs.length by simp [rv2.length]] at D
    refine ⟨_, _, _, D, fun i u q => ?_, ⟨st, p2⟩, fun _ _ x => x.1, fun e ne _ nt z => ?_⟩
    · have q : its2[i]? = some u := by simpa using q
      have hi : i < xs.length := by rw [rv2.length]; exact (List.getElem?_eq_some_iff.mp q).1
      obtain ⟨u2, e2, r2⟩ := rv2.get (List.getElem?_eq_getElem hi)
      rw [q] at e2; cases e2
      exact ⟨_, List.getElem?_eq_getElem hi, r2⟩
    · rcases List.mem_cons.mp z with z | z
      · exact ne z
      · rw [List.mem_singleton.mp z] at nt; exact nt _ p2
  | lst a xs h =>
    cases r
    obtain ⟨its, rv, p, _⟩ := I.list h
    have la : a < s.heap.objs.size := p.lt
    refine ⟨_, _, begins_list a its.toArray, p.isList, fun it hit => ⟨fun i h => h.IsListIter it a i, ⟨fun i h ⟨o, q, _, d⟩ => ⟨o, q, fun v e => by rw [d] at e; cases e⟩, fun i h h' ⟨o, q, x⟩ k => ⟨o, k o q, x⟩, ?_⟩, fun h e => ⟨_, e, rfl, rfl⟩⟩⟩
    intro X2 pins2 σ2 H2 s2 i hP hw hK hc I2 hs st _
    rw [← hP, ← hw]
    rw [← hK] at hs
    obtain ⟨its2, rv2, p2, _⟩ := I2.list hs
    have D := Draws.list (prog := X2.prog) (w := X2.w) (A := X2.A.in1) (I2.ok.hd hc) it a (Nat.ne_of_lt (Nat.lt_of_lt_of_le la hit)) its2.toArray
    rw [show its2.toArray.size = xs.length by simp [rv2.length]] at D
    refine ⟨_, _, _, D, fun i u q => ?_, ⟨st, p2.isList⟩, fun _ _ x => x.1, fun e ne nl _ z => ?_⟩
    · have q : its2[i]? = some u := by simpa using q
      have hi : i < xs.length := by rw [rv2.length]; exact (List.getElem?_eq_some_iff.mp q).1
      obtain ⟨u2, e2, r2⟩ := rv2.get (List.getElem?_eq_getElem hi)
      rw [q] at e2; cases e2
      exact ⟨_, List.getElem?_eq_getElem hi, r2⟩
    · rcases List.mem_cons.mp z with z | z
      · exact ne z
      · rw [List.mem_singleton.mp z] at nl; exact nl _ p2.isList

/-! ### it is made -/
theorem meets_enum0 {v : Value} {o : Obj} {H : Heap → Prop} (B : Begins v o H) :
    Meets (Builtin.«enumerate.__new__» ⟨[.type "enumerate", v], []⟩) (fun _ R s => H s.heap ∧
      R (.ok (.ret (.ref (s.heap.push o).objs.size))) { s with heap := (s.heap.push o).push { cls := .type "enumerate", data := .fields #[.none, .bool false, .ref s.heap.objs.size, rawInt 0, .none, .none] } }) :=
  .of_wp fun prog w A R s h => by
    obtain ⟨hp, g, d, tk, os⟩ := s; obtain ⟨h1, h⟩ := h
    have hsub := sub_enumerate
    have q1 : ∀ {A' : Around} {E : Value → Shared → Prop} {Q : Value → Shared → Prop}, Q (.ref hp.objs.size) ⟨hp.push o, g, d, tk, os⟩ → wpAny (model prog w) A' (pyIter v) Q E ⟨hp, g, d, tk, os⟩ :=
      fun q => B.iter prog w _ _ ⟨hp, g, d, tk, os⟩ _ h1 q
    wp_walk using q1
    refine wpAny_stack_any fun st => wpAny_pure ?_
    split
    · rename_i c _ _ _ _ _
      cases (c == Value.type "enumerate")
      · wp_walk using q1
        exact ⟨_, rfl, h⟩
      · wp_walk using q1
        exact ⟨_, rfl, h⟩
    · wp_walk using q1
      exact ⟨_, rfl, h⟩
section
variable {prog : Program} {w : World} {A : Around} {E : Value → Shared → Prop} {s : Shared}
theorem enum_begins0 {v : Value} {o : Obj} {H : Heap → Prop} {Q : Value → Shared → Prop} (B : Begins v o H) (h1 : H s.heap)
    (h : ∀ h', IsEnum h' (s.heap.objs.size + 1) s.heap.objs.size 0 .none → h'.get? s.heap.objs.size = some o → h'.objs.size = s.heap.objs.size + 2 →
      (∀ b o, s.heap.get? b = some o → h'.get? b = some o) → Q (.ref (s.heap.objs.size + 1)) { s with heap := h' }) :
    wpAny (model prog w) A (call (.type "enumerate") [v]) Q E s := by
  refine callType_new F.called_enumerate (by decide) (F.typeCall_enumerate_1 _) (F.newCall_enumerate_1 _) (fun obj => F.args_object_init_2 obj _) F.entry_enumerate_new
    (meets_enum0 B) ⟨h1, ?_⟩
  have hz : (s.heap.push o).objs.size = s.heap.objs.size + 1 := Heap.size_push ..
  show _ ∧ _
  rw [hz]
  have he : IsEnum ((s.heap.push o).push { cls := .type "enumerate", data := .fields #[.none, .bool false, .ref s.heap.objs.size, rawInt 0, .none, .none] }) (s.heap.objs.size + 1) s.heap.objs.size 0 .none := by
    have := Heap.get?_push_size (s.heap.push o) (o := { cls := .type "enumerate", data := .fields #[.none, .bool false, .ref s.heap.objs.size, rawInt 0, .none, .none] }) rfl
    rw [hz] at this; exact this
  refine ⟨⟨_, he, rfl⟩, h _ he (Heap.get?_push_of_some _ (Heap.get?_push_size _ B.free)) (by rw [Heap.size_push, hz]) fun b o x => Heap.get?_push_of_some _ (Heap.get?_push_of_some _ x)⟩
end

/-! ### its turns -/
def IteG (xs : List V) (Sq : Hp → Prop) (k0 : Int) : L2.It :=
  ⟨fun i H => Sq H ∧ i < xs.length, fun i H v H' => ∃ T x, v = .ref T ∧ H T = none ∧ H' = upd H T (.tup [.int (k0 + (i : Nat)), x]) ∧ xs[i]? = some x, fun i H => Sq H ∧ i = xs.length⟩
theorem turn_enumG {P : Program} {w : World} {K : PySem.W.Frag} {elts : List Expr} {kk : Nat} {tpos : Pos} {e it : Addr} {xs : List V} {Sq : Hp → Prop} {St : Nat → Heap → Prop} (S : SrcE P w K it xs Sq St) (hne : e ≠ it) (k0 : Int) :
    Turn P w K (.Tuple elts kk tpos) (IteG xs Sq k0) [e, it] e (fun i h => (∃ old, IsEnum h e it (k0 + ((i : Nat) : Int)) old) ∧ St i h) where
  mem := by simp
  obj := fun i h st b hb => by
    obtain ⟨⟨old, he⟩, st⟩ := st
    have e' : b = e ∨ b = it := by simpa using hb
    rcases e' with z | z
    · rw [z]; exact ⟨_, he, fun v q => nomatch q⟩
    · rw [z]; exact S.obj i h st
  keep := fun i h h' st k => let ⟨⟨old, he⟩, hi⟩ := st; ⟨⟨old, k e (by simp) _ he⟩, S.keep i h h' hi (fun o q => k it (by simp) o q)⟩
  item := by
    intro X hP hw hK hc i pins s σ H E I hf st hg
    obtain ⟨⟨old, he⟩, hst⟩ := st
    obtain ⟨hq, hi⟩ := hg
    obtain ⟨fp, Pi, Sd, D, hPi, hSd, back, hef⟩ := S.draws X pins σ H s i hP hw hK hc I hq hst (hf it (by simp)).1
    have hefp : e ∉ fp := hef e hne (fun its ⟨o, q, c, _⟩ => by rw [he] at q; cases q; injection c with c; exact absurd c (by decide)) (fun its ⟨o, q, c, _⟩ => by rw [he] at q; cases q; injection c with c; exact absurd c (by decide))
    subst hP hw hK
    have hel : e < s.heap.objs.size := Heap.lt_size he
    have hil : it < s.heap.objs.size := by obtain ⟨_, q, _⟩ := S.obj i _ hst; exact Heap.lt_size q
    refine wpAny_pyNext_enum_itemC D he hSd hi hne hefp fun u h' tk hP ho hit' hT hsz hk => ?_
    obtain ⟨x, hx, ru⟩ := hPi i u hP
    refine ⟨_, rfl, wpAny_letOwnedTupleGo_enum (s := { s with heap := h', toks := tk + 1 }) ho fun h'' he' sb => ?_⟩
    have hT2 : h''.get? s.heap.objs.size = some { cls := .type "tuple", data := .seq #[.int (k0 + ((i : Nat) : Int)) tk, u] } := (sb.2 _ (Nat.ne_of_gt hel)).trans hT
    have new : ObjOk X.prog X.w (upd H s.heap.objs.size (.tup [.int (k0 + (i : Nat)), x])) h'' s.heap.objs.size (.tup [.int (k0 + (i : Nat)), x]) :=
      ⟨by show 2 ≤ sizeLine; decide, [.int (k0 + ((i : Nat) : Int)) tk, u], .cons ⟨_, rfl⟩ (.cons ru .nil), ⟨_, hT2, rfl, _, rfl⟩⟩
    have I1 : Inv X pins σ (upd H s.heap.objs.size (.tup [.int (k0 + (i : Nat)), x])) { s with heap := h'', toks := tk + 1 } :=
      I.turnedNew (ch := [e, it]) (fun b ob hb q => (sb.2 b (fun z => hb (by simp [z]))).trans (hk b ob (fun z => hb (by simp [z])) (fun z => hb (by simp [z])) q)) hf (Nat.le_refl _) new
    refine ⟨.ref s.heap.objs.size, _, I1, rfl, ⟨_, x, rfl, I.hok.fresh (Nat.le_refl _), rfl, hx⟩, ⟨⟨u, ?_⟩, S.keep _ _ _ (back _ _ hit') fun o q => (sb.2 it (Ne.symm hne)).trans q⟩, fun b hb => ?_⟩
    · have e1 : k0 + ((i + 1 : Nat) : Int) = k0 + (i : Int) + 1 := by omega
      rw [e1]; exact he'
    · have hb' : b < s.heap.objs.size := by
        have e' : b = e ∨ b = it := by simpa using hb
        rcases e' with z | z
        · rw [z]; exact hel
        · rw [z]; exact hil
      rw [upd_ne (Nat.ne_of_lt hb')]
      exact (hf b hb).1
  done := by
    intro X hP hw hK hc i pins s σ H E I hf st hg
    obtain ⟨⟨old, he⟩, hst⟩ := st
    obtain ⟨hq, rfl⟩ := hg
    obtain ⟨fp, Pi, Sd, D, hPi, hSd, back, hef⟩ := S.draws X pins σ H s _ hP hw hK hc I hq hst (hf it (by simp)).1
    subst hP hw hK
    obtain ⟨f0, f1, f2, f3, f4, f5⟩ := hf it (by simp)
    exact wpAny_pyNext_enum_endD D he hSd fun h' eb => ⟨rfl, I.turned (t' := s.toks) (fun b o hb q => eb b o hb q) f0 f1 f3 f4 f5⟩
  self := fun A i s Q E st h => let ⟨⟨_, he⟩, _⟩ := st; wpAny_pyIter_enum he h
theorem walk_enumG {xs : List V} {Sq : Hp → Prop} {k0 : Int} : Walk (IteG xs Sq k0) xs.length Sq (YPair (fun i => some (.int (k0 + (i : Nat)))) (fun i => xs[i]?)) := by
  refine ⟨fun i _ hi q => ⟨q, hi⟩, fun _ q => ⟨q, rfl⟩, fun i H v H' _ q y => ?_⟩
  obtain ⟨T, x, h1, h2, h3, h4⟩ := y
  exact ⟨T, .int (k0 + (i : Nat)), x, h1, h2, h3, rfl, h4⟩
def iEnG (K : PySem.W.Frag) (ta : TA) (n : Nat) : TI := fun σ H R => ta σ H fun vs H1 => ∃ v xs Sq k0, vs = v :: (if n = 0 then [] else [.int k0]) ∧ (n = 0 → k0 = 0) ∧ -(2 ^ 62) ≤ k0 ∧ k0 < 2 ^ 62 ∧ SrcOf K H1 v xs Sq ∧ R (IteG xs Sq k0) H1
section
variable {X : Cx} {e e2 : Expr} {ta : TA} {p pos tpos : Pos} {elts : List Expr} {kk : Nat}
theorem enumG_end {pins : List (Addr × Obj)} {σ : L2.St} {H1 : Hp} {s1 : Shared} {R : L2.It → Hp → Prop} (I1 : Inv X pins σ H1 s1) {xs : List V} {Sq : Hp → Prop} {St : Nat → Heap → Prop} {o : Obj} {k0 : Int} {h' : Heap}
    (S : SrcE X.prog X.w X.K s1.heap.objs.size xs Sq St) (h0 : ∀ h, h.get? s1.heap.objs.size = some o → St 0 h) (he : IsEnum h' (s1.heap.objs.size + 1) s1.heap.objs.size k0 .none) (hit : h'.get? s1.heap.objs.size = some o) (hk : ∀ b o, s1.heap.get? b = some o → h'.get? b = some o) (q : R (IteG xs Sq k0) H1) :
    PIE X pins σ (.Tuple elts kk tpos) R (.ref (s1.heap.objs.size + 1)) { s1 with heap := h' } := by
  have I2 : Inv X pins σ H1 { s1 with heap := h' } := I1.kept (t' := s1.toks) hk
  have e0 : k0 + ((0 : Nat) : Int) = k0 := by omega
  have he0 : IsEnum h' (s1.heap.objs.size + 1) s1.heap.objs.size (k0 + ((0 : Nat) : Int)) .none := e0.symm ▸ he
  refine ⟨s1.heap.objs.size + 1, [s1.heap.objs.size + 1, s1.heap.objs.size], _, _, H1, rfl, I2, turn_enumG S (Nat.succ_ne_self _) k0, ⟨⟨.none, he0⟩, h0 _ hit⟩, fun b hb => ?_, q⟩
  have e' : b = s1.heap.objs.size + 1 ∨ b = s1.heap.objs.size := by simpa using hb
  have hle : s1.heap.objs.size ≤ b := by
    rcases e' with z | z
    · rw [z]; exact Nat.le_add_right _ _
    · rw [z]; exact Nat.le_refl _
  exact I1.fpOk hle (I1.hok.fresh hle)
theorem pi_enum1 (hg : Gl X "enumerate") (hm : X.mg "enumerate" = none) (ha : PA X [e] ta) (hs : starEach [e] X.env = [(false, eval e X.env)]) :
    PI X (.Tuple elts kk tpos) (.Call (.Name "enumerate" p) [e] [] pos) (iEnG X.K ta 0) := by
  refine ⟨fun pins s σ H R I h => ?_⟩
  refine Call_ (ld_blt I hg hm boot_enumerate (PyProof.Rows.callWith_type1 (thn (ha.run pos pins s σ H _ I h) fun us s1 ⟨vs, H1, I1, r1, q1⟩ => ?_) hs rfl))
  obtain ⟨v, xs, Sq, k0, rfl, z0, _, _, hS, q⟩ := q1
  obtain rfl := z0 rfl
  cases r1 with
  | cons r rr =>
    cases rr
    obtain ⟨o, Hq, B, hq, mk⟩ := hS.begins I1 r
    obtain ⟨St, S, h0⟩ := mk s1.heap.objs.size (Nat.le_refl _)
    exact enum_begins0 B hq fun h' he hit hsz hk => wpAny_pyIter_enum he (enumG_end I1 S h0 he hit hk q)
theorem pi_enum2 (hg : Gl X "enumerate") (hm : X.mg "enumerate" = none) (ha : PA X [e, e2] ta) (hs : starEach [e, e2] X.env = (false, eval e X.env) :: starEach [e2] X.env) (hpl : (backTo pos (starEach [e2] X.env)).any (·.1) = false) :
    PI X (.Tuple elts kk tpos) (.Call (.Name "enumerate" p) [e, e2] [] pos) (iEnG X.K ta 1) := by
  refine ⟨fun pins s σ H R I h => ?_⟩
  refine Call_ (ld_blt I hg hm boot_enumerate (PyProof.Rows.callWith_type1 (thn (ha.run pos pins s σ H _ I h) fun us s1 ⟨vs, H1, I1, r1, q1⟩ => ?_) hs hpl))
  obtain ⟨v, xs, Sq, k0, rfl, z0, b0, b1, hS, q⟩ := q1
  cases r1 with
  | cons r rr =>
    cases rr with
    | cons r2 rr =>
      cases rr
      obtain ⟨t, rfl⟩ := r2
      obtain ⟨o, Hq, B, hq, mk⟩ := hS.begins I1 r
      obtain ⟨St, S, h0⟩ := mk s1.heap.objs.size (Nat.le_refl _)
      exact enum_begins B hq (by omega) (by omega) fun h' he hit hsz hk => wpAny_pyIter_enum he (enumG_end I1 S h0 he hit hk q)
end
end Rm

set_option Elab.async false
set_option linter.all false
set_option maxRecDepth 100000
set_option maxHeartbeats 8000000
/-! R11: iterables, comprehensions. -/
namespace Rm
open PySem PySem.Spec L2

/-! ### what is walked -/
structure Yld (K : PySem.W.Frag) (F : Fz) (H : Hp) (J' : L2.It) (ds : List D) : Prop where
  ex : ∃ (Gd : Hp → Prop) (Y : Nat → Hp → V → Hp → Prop), Walk J' ds.length Gd Y ∧ (∀ F' H', Le F H F' H' → Gd H') ∧
    ∀ i F' H' v H'' d, Le F H F' H' → Trk F' H' → Y i H' v H'' → ds[i]? = some d → ∃ F'', PRes K F' H' (.d d) v F'' H''
def SndI (X : Cx) (J : List (Nat × Addr)) (tg it : Expr) (m : M (List D)) : Prop := ∀ (O F : Fz) (H : Hp) (σ : L2.St) (ρ : En) (ds : List D) (ρ' : En) (R : L2.It → Hp → Prop), Rel X.K J O F H σ ρ → m ρ = some (ds, ρ') →
  (∀ J' F' H', Stp O F H F' H' → Rel X.K J O F' H' σ ρ' → Yld X.K F' H' J' ds → R J' H') → wI X tg it σ H R
section
variable {X : Cx} {J : List (Nat × Addr)}
theorem yld_sq {K : PySem.W.Frag} {F : Fz} {H : Hp} {a : Addr} {vs : List V} {ds : List D} {J' : L2.It} {sq : Hp → Prop} (w : Walk J' vs.length sq (YAt vs)) (hs : ∀ F' H', Le F H F' H' → sq H') (rl : RepL K F H ds vs) : Yld K F H J' ds := by
  rw [rl.length] at w
  refine ⟨sq, YAt vs, w, hs, fun i F' H' v H'' d l _ y e => ?_⟩
  obtain ⟨rfl, hv⟩ := y
  obtain ⟨v', e1, r⟩ := rl.get e
  rw [hv] at e1; cases e1
  exact ⟨F', .val (r.le l)⟩
theorem TupF.le {K F H F' H' a vs} (l : Le F H F' H') (t : TupF K F H a vs) : TupF K F' H' a vs := by
  rcases t with ⟨f, q⟩ | t
  · exact .inl ⟨l.sub a f, (l.keep a f).trans q⟩
  · exact .inr t
theorem snd_of {tg e : Expr} {m : M R} (h : SndV X J e m) : SndI X J tg e (bnd m fun x => lft (items x.toD)) := fun O F H σ ρ ds ρ' R q hm k => by
  obtain ⟨x, ρ1, h1, h2⟩ := bnd_some hm
  obtain ⟨t, h3, h4⟩ := lft_some h2
  cases h4
  cases e : x.toD with
  | non => rw [e] at h3; cases h3
  | bl b => rw [e] at h3; cases h3
  | int i => rw [e] at h3; cases h3
  | str s =>
    rw [e] at h3; cases h3
    refine PIto (pi_str pe_w) (h.toD q h1 fun v F' H' st q' r => ?_)
    rw [e] at r
    refine ⟨mkS s, r.1, k _ F' H' st q' ?_⟩
    have w := walk_str (z := mkS s)
    have hl : (mkS s).cps.size = (s.map fun c => D.str [c]).length := by rw [List.length_map]; exact mkS_len s
    rw [hl] at w
    refine ⟨_, _, w, fun _ _ _ => trivial, fun i F2 H2 v H3 d l _ y ed => ?_⟩
    obtain ⟨rfl, c, ec, rfl⟩ := y
    have ec : s[i]? = some c := by
      rw [← ec]; show _ = (s.toArray)[i]?; simp
    rw [List.getElem?_map, ec] at ed
    cases ed
    refine ⟨F2, .val ⟨rfl, okS_sub r.2 (t := [c]) ?_ fun z hz => ?_⟩⟩
    · exact Nat.succ_le_of_lt (List.length_pos_of_mem (List.mem_of_getElem? ec))
    · rw [List.mem_singleton.mp hz]; exact List.mem_of_getElem? ec
  | tup xs =>
    rw [e] at h3; cases h3
    refine PIto (pi_tup pe_w) (h.toD q h1 fun v F' H' st q' r => ?_)
    rw [e] at r
    obtain ⟨a, vs, rfl, tp, _, rl⟩ := r
    exact ⟨a, rfl, ⟨vs, tp.sq⟩, k _ F' H' st q' (yld_sq (a := a) walk_tup (fun F2 H2 l => (tp.le l).sq) rl)⟩
  | lst xs =>
    rw [e] at h3; cases h3
    refine PIto (pi_list pe_w) (h.toD q h1 fun v F' H' st q' r => ?_)
    rw [e] at r
    obtain ⟨a, vs, rfl, fa, tp, _, rl⟩ := r
    exact ⟨a, rfl, ⟨vs, SqL.of tp⟩, k _ F' H' st q' (yld_sq (a := a) walk_list (fun F2 H2 l => SqL.of ((l.keep a fa).trans tp)) rl)⟩
  | lk ns =>
    rw [e] at h3; cases h3
    refine PIto (pi_list pe_w) (h.toD q h1 fun v F' H' st q' r => ?_)
    rw [e] at r
    obtain ⟨a, rfl, tp, _⟩ := r
    exact ⟨a, rfl, ⟨_, tp.sq⟩, k _ F' H' st q' (yld_sq (a := a) walk_list (fun F2 H2 l => (tp.le l).sq) (repL_ints ns))⟩
theorem rangeL_get : ∀ (n : Nat) (lo : Int) (i : Nat) (d : D), (rangeL lo n)[i]? = some d → d = .int (lo + i)
  | 0, _, _, _, h => by simp [rangeL] at h
  | n + 1, lo, 0, d, h => by simp [rangeL] at h; rw [← h]; simp
  | n + 1, lo, i + 1, d, h => by
    have := rangeL_get n (lo + 1) i d (by simpa [rangeL] using h)
    rw [this]
    congr 1
    omega
theorem rangeL_len : ∀ (n : Nat) (lo : Int), (rangeL lo n).length = n
  | 0, _ => rfl
  | n + 1, lo => by rw [rangeL, List.length_cons, rangeL_len]
theorem rangeC_get : ∀ (n : Nat) (lo c : Int) (i : Nat) (d : D), (rangeC lo c n)[i]? = some d → d = .int (lo + (i : Nat) * c)
  | 0, _, _, _, _, h => by simp [rangeC] at h
  | n + 1, lo, c, 0, d, h => by simp [rangeC] at h; rw [← h]; simp
  | n + 1, lo, c, i + 1, d, h => by
    have := rangeC_get n (lo + c) c i d (by simpa [rangeC] using h)
    rw [this]
    congr 1
    have e : ((i + 1 : Nat) : Int) = (i : Int) + 1 := by omega
    rw [e, Int.add_mul]
    omega
theorem rangeC_len : ∀ (n : Nat) (lo c : Int), (rangeC lo c n).length = n
  | 0, _, _ => rfl
  | n + 1, lo, c => by rw [rangeC, List.length_cons, rangeC_len]
theorem yld_rg {K : PySem.W.Frag} {F : Fz} {H : Hp} {lo : Int} {n : Nat} : Yld K F H (Itr lo n) (rangeL lo n) := by
  have w := walk_range (lo := lo) (n := n)
  rw [show n = (rangeL lo n).length from (rangeL_len n lo).symm] at w
  refine ⟨_, _, by rw [rangeL_len] at w ⊢; exact w, fun _ _ _ => trivial, fun i F' H' v H'' d l _ y e => ?_⟩
  obtain ⟨rfl, rfl⟩ := y
  rw [rangeL_get n lo i d e]
  exact ⟨F', .val rfl⟩
theorem yld_rc {K : PySem.W.Frag} {F : Fz} {H : Hp} {lo c : Int} {n : Nat} : Yld K F H (Itc lo c n) (rangeC lo c n) := by
  refine ⟨_, _, by rw [rangeC_len]; exact walk_rangeC, fun _ _ _ => trivial, fun i F' H' v H'' d l _ y e => ?_⟩
  obtain ⟨rfl, rfl⟩ := y
  rw [rangeC_get n lo c i d e]
  exact ⟨F', .val rfl⟩
theorem rgB_of {i : Int} (h : rgB i = true) : -(2 ^ 62) ≤ i ∧ i < 2 ^ 62 := by
  have h : i.natAbs < 4611686018427387904 := of_decide_eq_true h
  omega
theorem rgC_pos {i j c : Int} (hi : rgB i = true) (hj : rgB j = true) (h0 : 0 < c) (h1 : c < 1073741824) : RgC i j c (if i < j then ((j - i - 1) / c + 1).toNat else 0) := by
  obtain ⟨i0, i1⟩ := rgB_of hi
  obtain ⟨j0, j1⟩ := rgB_of hj
  have hsz : Builtin.Range.rangeSize i j c = ((if i < j then ((j - i - 1) / c + 1).toNat else 0 : Nat) : Int) := by
    unfold Builtin.Range.rangeSize
    rw [if_pos h0]
    split
    · have := Int.ediv_nonneg (a := j - i - 1) (b := c) (by omega) (by omega)
      omega
    · rfl
  refine ⟨by omega, by omega, ?_, hsz⟩
  have hb : 0 ≤ Builtin.Range.rangeSize i j c ∧ Builtin.Range.rangeSize i j c < 2 ^ 63 := by
    unfold Builtin.Range.rangeSize
    rw [if_pos h0]
    split
    · have h2 := Int.ediv_nonneg (a := j - i - 1) (b := c) (by omega) (by omega)
      have h3 := Int.ediv_le_self c (show (0 : Int) ≤ j - i - 1 by omega)
      omega
    · omega
  unfold Builtin.Range.small
  simp only [Builtin.Range.rangeFitsLong, Bool.and_eq_true, Bool.or_eq_true, decide_eq_true_eq, beq_iff_eq, if_pos h0]
  refine ⟨⟨⟨⟨⟨by omega, by omega⟩, by omega, by omega⟩, by omega, by omega⟩, by omega, hb.2⟩, .inr ⟨by omega, by omega⟩⟩
theorem RepL.int1 {K F H} {i : Int} {vs : List V} (h : RepL K F H [.int i] vs) : vs = [.int i] := by
  obtain ⟨v, r, e, h1, h2⟩ := h
  rw [e, show v = .int i from h1, show r = [] from h2]
theorem RepL.int2 {K F H} {i j : Int} {vs : List V} (h : RepL K F H [.int i, .int j] vs) : vs = [.int i, .int j] := by
  obtain ⟨v, r, e, h1, h2⟩ := h
  rw [e, show v = .int i from h1, h2.int1]
theorem RepL.int3 {K F H} {i j l : Int} {vs : List V} (h : RepL K F H [.int i, .int j, .int l] vs) : vs = [.int i, .int j, .int l] := by
  obtain ⟨v, r, e, h1, h2⟩ := h
  rw [e, show v = .int i from h1, h2.int2]
variable {T : Tab} {G : Cfg} {N : List Str} {sc : Scope} {st : Str → Bool} {k : Nat}
theorem AllS.dsLen {xs : List Expr} {d : DEs} (h : AllS X J xs d) : ∀ {ρ ρ' : En} {ds : List D}, d.ds ρ = some (ds, ρ') → ds.length = xs.length := by
  induction h with
  | nil => intro ρ ρ' as h; cases h; rfl
  | cons he hs _ ih =>
    intro ρ ρ' as hm
    obtain ⟨x, ρ1, h1, h2⟩ := bnd_some hm
    obtain ⟨ds, ρ2, h3, h4⟩ := bnd_some h2
    cases h4
    rw [List.length_cons, List.length_cons, ih h3]
theorem snd_range (c : Ctx X T G N sc st k) {tg : Expr} {xs : List Expr} {d : DEs} {p pos : Pos} (hg : gloC sc "range" = true) (h : AllS X J xs d) :
    SndI X J tg (.Call (.Name "range" p) xs [] pos) (bnd d.ds fun ds => lft (rangeD ds)) := fun O F H σ ρ ds ρ' R q hm k => by
  obtain ⟨as, ρ1, h1, h2⟩ := bnd_some hm
  obtain ⟨t, h3, h4⟩ := lft_some h2
  cases h4
  have hl := h.dsLen h1
  have gl := glo_of c hg
  have mg := c.bl "range" (by decide +kernel)
  have hs := h.stars
  unfold rangeD at h3
  split at h3
  · rename_i j
    split at h3
    · rename_i hj
      cases h3
      obtain ⟨b0, b1⟩ := rgB_of hj
      match xs, hl with
      | [a], _ =>
        have s1 := (Bool.and_eq_true_iff.mp (show (notStar a && true) = true from hs)).1
        exact PIto (pi_range1 gl mg pa_w (star_of s1)) (h.ds O F H σ ρ _ _ _ q h1 fun vs F1 H1 st q1 r1 => ⟨j, r1.int1, b0, b1, k _ F1 H1 st q1 yld_rg⟩)
    · cases h3
  · rename_i i j
    split at h3
    · rename_i hj
      cases h3
      obtain ⟨hi, hj⟩ := Bool.and_eq_true_iff.mp hj
      obtain ⟨a0, a1⟩ := rgB_of hi
      obtain ⟨b0, b1⟩ := rgB_of hj
      match xs, hl with
      | [a, b], _ =>
        have s1 := Bool.and_eq_true_iff.mp (show (notStar a && [b].all notStar) = true from hs)
        have s2 := (Bool.and_eq_true_iff.mp (show (notStar b && true) = true from s1.2)).1
        refine PIto (pi_range2 gl mg pa_w ?_ (star_of s2)) (h.ds O F H σ ρ _ _ _ q h1 fun vs F1 H1 st q1 r1 => ⟨i, j, r1.int2, ⟨a0, a1, b0, b1⟩, k _ F1 H1 st q1 yld_rg⟩)
        rw [star_of s1.1, star_of s2]; rfl
    · cases h3
  · rename_i i j cc
    split at h3
    · rename_i hj
      cases h3
      obtain ⟨hj, h1c⟩ := Bool.and_eq_true_iff.mp hj
      obtain ⟨hj, h0c⟩ := Bool.and_eq_true_iff.mp hj
      obtain ⟨hi, hj⟩ := Bool.and_eq_true_iff.mp hj
      match xs, hl with
      | [a, b, e], _ =>
        have s1 := Bool.and_eq_true_iff.mp (show (notStar a && [b, e].all notStar) = true from hs)
        exact PIto (pi_range3 gl mg pa_w (star_of s1.1) (stars_of s1.2)) (h.ds O F H σ ρ _ _ _ q h1 fun vs F1 H1 st q1 r1 => ⟨i, j, cc, _, r1.int3, rgC_pos hi hj (of_decide_eq_true h0c) (by have : cc.natAbs < 1073741824 := of_decide_eq_true h1c; omega), k _ F1 H1 st q1 yld_rc⟩)
    · cases h3
  · cases h3

/-! ### comprehensions -/
theorem wipeE_len (own : List Nat) (ρ : En) : (wipeE own ρ).length = ρ.length := by
  induction own with
  | nil => rfl
  | cons i own ih => show ((wipeE own ρ).set i .un).length = _; rw [List.length_set, ih]
theorem wipeE_at (own : List Nat) (ρ : En) (j : Nat) : (wipeE own ρ)[j]? = if j ∈ own then (if j < ρ.length then some .un else none) else ρ[j]? := by
  induction own with
  | nil => simp [wipeE]
  | cons i own ih =>
    show ((wipeE own ρ).set i .un)[j]? = _
    by_cases e : i = j
    · subst e
      rw [if_pos List.mem_cons_self]
      by_cases hl : i < ρ.length
      · rw [if_pos hl, List.getElem?_set_self (by rw [wipeE_len]; exact hl)]
      · rw [if_neg hl, List.getElem?_eq_none (by rw [List.length_set, wipeE_len]; omega)]
    · rw [List.getElem?_set_ne e, ih]
      by_cases hm : j ∈ own
      · rw [if_pos hm, if_pos (List.mem_cons_of_mem _ hm)]
      · rw [if_neg hm, if_neg (fun z => (List.mem_cons.mp z).elim (fun z => e z.symm) hm)]
theorem wipe_at (own : List Nat) (σ : L2.St) (j : Nat) : (wipe σ own)[j]? = if j ∈ own then (if j < σ.length then some none else none) else σ[j]? := by
  induction own with
  | nil => simp [wipe]
  | cons i own ih =>
    show ((wipe σ own).set i none)[j]? = _
    by_cases e : i = j
    · subst e
      rw [if_pos List.mem_cons_self]
      by_cases hl : i < σ.length
      · rw [if_pos hl, List.getElem?_set_self (by rw [wipe_length]; exact hl)]
      · rw [if_neg hl, List.getElem?_eq_none (by rw [List.length_set, wipe_length]; omega)]
    · rw [List.getElem?_set_ne e, ih]
      by_cases hm : j ∈ own
      · rw [if_pos hm, if_pos (List.mem_cons_of_mem _ hm)]
      · rw [if_neg hm, if_neg (fun z => (List.mem_cons.mp z).elim (fun z => e z.symm) hm)]
theorem restore_at (own : List Nat) (ρ0 ρ : En) (hl : ρ0.length = ρ.length) (j : Nat) : (restore own ρ0 ρ)[j]? = if j ∈ own then ρ0[j]? else ρ[j]? := by
  have len : ∀ own : List Nat, (restore own ρ0 ρ).length = ρ.length := fun own => by
    induction own with
    | nil => rfl
    | cons i own ih => show ((restore own ρ0 ρ).set i _).length = _; rw [List.length_set, ih]
  induction own with
  | nil => simp [restore]
  | cons i own ih =>
    show ((restore own ρ0 ρ).set i (ρ0.getD i .un))[j]? = _
    by_cases e : i = j
    · subst e
      rw [if_pos List.mem_cons_self]
      by_cases h : i < ρ0.length
      · rw [List.getElem?_set_self (by rw [len, ← hl]; exact h), List.getD_eq_getElem?_getD, List.getElem?_eq_getElem h]; rfl
      · rw [List.getElem?_eq_none (by rw [List.length_set, len]; omega), List.getElem?_eq_none (by omega)]
    · rw [List.getElem?_set_ne e, ih]
      by_cases hm : j ∈ own
      · rw [if_pos hm, if_pos (List.mem_cons_of_mem _ hm)]
      · rw [if_neg hm, if_neg (fun z => (List.mem_cons.mp z).elim (fun z => e z.symm) hm)]
theorem restore_len (own : List Nat) (ρ0 ρ : En) : (restore own ρ0 ρ).length = ρ.length := by
  induction own with
  | nil => rfl
  | cons i own ih => show ((restore own ρ0 ρ).set i _).length = _; rw [List.length_set, ih]
theorem free_at {own : List Nat} {ρ : En} (h : freeSlots own ρ = true) {j : Nat} (hj : j ∈ own) : ρ[j]? = some .un ∨ ∃ d, ρ[j]? = some (.d d) := by
  have := List.all_eq_true.mp h j hj
  split at this
  · exact .inl (by assumption)
  · exact .inr ⟨_, by assumption⟩
  · cases this
variable {K : PySem.W.Frag} {O F F' : Fz} {H H' : Hp} {σ σ' : L2.St} {ρ ρ' : En}
theorem Rel.wiped (q : Rel K J O F H σ ρ) (own : List Nat) : Rel K J O F H (wipe σ own) (wipeE own ρ) := by
  have low : ∀ {j}, ownAt (wipeE own ρ) j → j ∉ own ∧ ownAt ρ j := fun {j} ⟨s, e, o⟩ => by
    rw [wipeE_at] at e
    by_cases hj : j ∈ own
    · rw [if_pos hj] at e
      split at e
      · cases e; cases o
      · cases e
    · rw [if_neg hj] at e; exact ⟨hj, s, e, o⟩
  refine ⟨by rw [wipe_length, wipeE_len]; exact q.len, q.tr, q.dj, fun j s e => ?_, fun i j a hij oi oj ei ej => ?_⟩
  · rw [wipeE_at] at e
    by_cases hj : j ∈ own
    · rw [if_pos hj] at e
      split at e
      · cases e; trivial
      · cases e
    · rw [if_neg hj] at e
      have t := q.slot j s e
      have ew : (wipe σ own)[j]? = σ[j]? := by rw [wipe_at, if_neg hj]
      cases s with
      | un => trivial
      | d d => obtain ⟨v, e1, t⟩ := t; exact ⟨v, ew.trans e1, t⟩
      | own d => obtain ⟨v, e1, t⟩ := t; exact ⟨v, ew.trans e1, t⟩
      | io d => obtain ⟨v, e1, t⟩ := t; exact ⟨v, ew.trans e1, t⟩
  · obtain ⟨n1, o1⟩ := low oi
    obtain ⟨n2, o2⟩ := low oj
    rw [wipe_at, if_neg n1] at ei
    rw [wipe_at, if_neg n2] at ej
    exact q.sep i j a hij o1 o2 ei ej
theorem Rel.addO (q : Rel K J O F H σ ρ) {b : Addr} (hb : H b ≠ none) (hF : ¬ F b) (ho : ∀ j, ownAt ρ j → σ[j]? ≠ some (some (.ref b))) : Rel K J (fun a => O a ∨ a = b) F H σ ρ := by
  have ow : ∀ {j a xs}, ownAt ρ j → σ[j]? = some (some (.ref a)) → Ow K O F H a xs → Ow K (fun a => O a ∨ a = b) F H a xs := fun {j a xs} oj ej o =>
    ⟨o.nf, fun z => z.elim o.no fun z => ho j oj (by rw [ej, z]), o.ln, o.at_⟩
  refine ⟨q.len, fun a h => ?_, fun a h => ?_, fun j s e => ?_, q.sep⟩
  · rcases h with h | h | rfl
    · exact q.tr a (.inl h)
    · exact q.tr a (.inr h)
    · exact hb
  · rcases h with h | rfl
    · exact q.dj a h
    · exact hF
  · have t := q.slot j s e
    cases s with
    | un => trivial
    | d d => exact t
    | own xs => obtain ⟨a, e1, t⟩ := t; exact ⟨a, e1, ow ⟨_, e, rfl⟩ e1 t⟩
    | io xs => obtain ⟨a, e1, m, t⟩ := t; exact ⟨a, e1, m, ow ⟨_, e, rfl⟩ e1 t⟩
theorem Rel.subO {O' : Fz} (q : Rel K J O F H σ ρ) (h : ∀ a, O' a → O a) : Rel K J O' F H σ ρ := by
  have ow : ∀ {a xs}, Ow K O F H a xs → Ow K O' F H a xs := fun {a xs} o => ⟨o.nf, fun z => o.no (h a z), o.ln, o.at_⟩
  refine ⟨q.len, fun a z => q.tr a (z.imp id (h a)), fun a z => q.dj a (h a z), fun j s e => ?_, q.sep⟩
  have t := q.slot j s e
  cases s with
  | un => trivial
  | d d => exact t
  | own xs => obtain ⟨a, e1, t⟩ := t; exact ⟨a, e1, ow t⟩
  | io xs => obtain ⟨a, e1, m, t⟩ := t; exact ⟨a, e1, m, ow t⟩
theorem Rel.restored {O0 F0 : Fz} {H0 : Hp} {ρ0 : En} {own : List Nat} (q : Rel K J O F H (wipe σ own) ρ) (q0 : Rel K J O0 F0 H0 σ ρ0) (l : Le F0 H0 F H) (hf : freeSlots own ρ0 = true) : Rel K J O F H σ (restore own ρ0 ρ) := by
  have hlen : ρ0.length = ρ.length := by rw [← q0.len, ← q.len, wipe_length]
  have low : ∀ {j}, ownAt (restore own ρ0 ρ) j → j ∉ own ∧ ownAt ρ j := fun {j} ⟨s, e, o⟩ => by
    rw [restore_at _ _ _ hlen] at e
    by_cases hj : j ∈ own
    · rw [if_pos hj] at e
      rcases free_at hf hj with z | ⟨d, z⟩
      · rw [z] at e; cases e; cases o
      · rw [z] at e; cases e; cases o
    · rw [if_neg hj] at e; exact ⟨hj, s, e, o⟩
  refine ⟨by rw [restore_len, ← q.len, wipe_length], q.tr, q.dj, fun j s e => ?_, fun i j a hij oi oj ei ej => ?_⟩
  · rw [restore_at _ _ _ hlen] at e
    by_cases hj : j ∈ own
    · rw [if_pos hj] at e
      have t := q0.slot j s e
      rcases free_at hf hj with z | ⟨d, z⟩
      · rw [z] at e; cases e; trivial
      · rw [z] at e; cases e
        obtain ⟨v, e1, t⟩ := t
        exact ⟨v, e1, t.le l⟩
    · rw [if_neg hj] at e
      have t := q.slot j s e
      have ew : (wipe σ own)[j]? = σ[j]? := by rw [wipe_at, if_neg hj]
      cases s with
      | un => trivial
      | d d => obtain ⟨v, e1, t⟩ := t; exact ⟨v, ew.symm.trans e1, t⟩
      | own d => obtain ⟨v, e1, t⟩ := t; exact ⟨v, ew.symm.trans e1, t⟩
      | io d => obtain ⟨v, e1, t⟩ := t; exact ⟨v, ew.symm.trans e1, t⟩
  · obtain ⟨n1, o1⟩ := low oi
    obtain ⟨n2, o2⟩ := low oj
    have e1 : (wipe σ own)[i]? = some (some (.ref a)) := by rw [wipe_at, if_neg n1]; exact ei
    have e2 : (wipe σ own)[j]? = some (some (.ref a)) := by rw [wipe_at, if_neg n2]; exact ej
    exact q.sep i j a hij o1 o2 e1 e2
theorem wipe_eq {own : List Nat} (hl : σ'.length = σ.length) (h : ∀ j, j ∉ own → σ'[j]? = σ[j]?) : wipe σ' own = wipe σ own := by
  apply List.ext_getElem?
  intro j
  rw [wipe_at, wipe_at, hl]
  by_cases hj : j ∈ own
  · rw [if_pos hj, if_pos hj]
  · rw [if_neg hj, if_neg hj, h j hj]
theorem wipe_wipe {own : List Nat} (σ : L2.St) : wipe (wipe σ own) own = wipe σ own := wipe_eq (wipe_length σ own) fun j hj => by rw [wipe_at, if_neg hj]
end
end Rm

set_option Elab.async false
set_option linter.all false
set_option maxRecDepth 100000
set_option maxHeartbeats 8000000
/-! R12: a comprehension; then: what the small language gives is what the code does, for expressions. -/
namespace Rm
open PySem PySem.Spec L2

section
variable {X : Cx} {J : List (Nat × Addr)}
/-- the block of a comprehension -/
abbrev blkX (X : Cx) (scope : Scope) (s : Shared) (H : Hp) (C : Addr) (cl : List (Str × Addr)) (fp : List Addr) : Cx := X.blk s H scope (compEnvC scope cl C X.env) fp
theorem Rel.updO {K : PySem.W.Frag} {O F : Fz} {H : Hp} {σ : L2.St} {ρ : En} {b : Addr} {o : HO} (q : Rel K J O F H σ ρ) (hb : O b) : Le F H F (upd H b o) ∧ Rel K J O F (upd H b o) σ ρ := by
  have nb : ∀ {a}, F a → a ≠ b := fun {a} h e => q.dj b hb (e ▸ h)
  have l : Le F H F (upd H b o) := ⟨fun a h => upd_ne (nb h), fun _ h => h⟩
  have ow : ∀ {a xs}, Ow K O F H a xs → Ow K O F (upd H b o) a xs := fun {a xs} w => w.keep l (upd_ne fun e => w.no (by rw [e]; exact hb)) w.nf
  refine ⟨l, q.len, fun a h => ?_, q.dj, fun j s e => ?_, q.sep⟩
  · by_cases e : a = b
    · rw [e, upd_same]; intro z; cases z
    · rw [upd_ne e]; exact q.tr a h
  · have t := q.slot j s e
    cases s with
    | un => trivial
    | d d => obtain ⟨v, e1, t⟩ := t; exact ⟨v, e1, t.le l⟩
    | own d => obtain ⟨v, e1, t⟩ := t; exact ⟨v, e1, ow t⟩
    | io d => obtain ⟨v, e1, m, t⟩ := t; exact ⟨v, e1, m, ow t⟩
variable {T : Tab} {G : Cfg} {N : List Str} {sc : Scope} {st : Str → Bool} {k : Nat}
theorem Ctx.blk (c : Ctx X T G N sc st k) {scope : Scope} (hk : scope.kind = .function) (s : Shared) (H : Hp) (C : Addr) (cl : List (Str × Addr)) (fp : List Addr) :
    Ctx (blkX X scope s H C cl fp) T G N (relS scope sc) (fun y => decide (scope.names.lookup y = some .cell)) k where
  n := c.n
  nd := c.nd
  scE := by
    have e := c.scE
    subst e
    rfl
  kd := hk
  calm := c.calm
  room := c.room
  xe := rfl
  stE := fun x h => by
    have h := of_decide_eq_true h
    show (scope.names.lookup x == some .cell) = true
    rw [h]; rfl
  bl := c.bl
  con := c.con
  fns := c.fns
  cfg := c.cfg
def teX (X : Cx) (scope : Scope) (e : Expr) : TE := fun σ H Q => ∀ s H0 C cl fp, wE (blkX X scope s H0 C cl fp) e σ H Q
def ttX (X : Cx) (scope : Scope) (e : Expr) : TT := fun σ H Q => ∀ s H0 C cl fp, wT (blkX X scope s H0 C cl fp) e σ H Q
def tgX (X : Cx) (scope : Scope) (e : Expr) : TG := fun v σ H Q => ∀ s H0 C cl fp, wG (blkX X scope s H0 C cl fp) e v σ H Q
theorem comp_rd (c : Ctx X T G N sc st k) {own sl : List Nat} {tg iter elt : Expr} {scope : Scope} {tt : TT} {mi : M (List D)} {mt : D → M Unit} {dc de : DE}
    (hi : SndI X J tg iter mi) (hg : ∀ s H C cl fp, SndG (blkX X scope s H C cl fp) J tg sl mt) (hsub : ∀ i ∈ sl, i ∈ own)
    (ht : ∀ {O F : Fz} {H : Hp} {σ : L2.St} {ρ ρ' : En} {b : Bool} {Q : Bool → Hp → Prop}, Rel X.K J O F H σ ρ → testC dc ρ = some (b, ρ') → (∀ F' H', Stp O F H F' H' → Rel X.K J O F' H' σ ρ' → Q b H') → tt σ H Q)
    (he : ∀ s H C cl fp, SndE (blkX X scope s H C cl fp) J elt de)
    {O F : Fz} {H : Hp} {σ : L2.St} {ρ ρ' : En} {r : R} {Q : VK} (q : Rel X.K J O F H σ ρ) (hm : compV own mi (turnC mt dc de) ρ = some (r, ρ'))
    (kq : ∀ v F' H', Stp O F H F' H' → Rel X.K J O F' H' σ ρ' → RepR X.K O F' H' σ ρ' r v → Q v H') :
    tLc (wI X tg iter) (tgX X scope tg) tt (teX X scope elt) own σ H Q := by
  obtain ⟨ds, ρ1, h1, h2⟩ := bnd_some hm
  split at h2
  · rename_i hfz
    obtain ⟨hf, hz⟩ := Bool.and_eq_true_iff.mp hfz
    have hz := of_decide_eq_true hz
    split at h2
    · cases h2
    · rename_i YS ρ2 hcl
      cases h2
      refine hi O F H σ ρ ds ρ1 _ q h1 fun J' F1 H1 s1 q1 yl D hD => ?_
      obtain ⟨Gd, Y, w, hG, hY⟩ := yl.ex
      have nO : ¬ O D := fun z => q1.tr D (.inr z) hD
      have nF : ¬ F1 D := fun z => q1.tr D (.inl z) hD
      let O' : Fz := fun a => O a ∨ a = D
      refine lc_it w (fun i H' => ∃ F' vs ys ρi rest, Stp O F1 H1 F' H' ∧ Rel X.K J O' F' H' (wipe σ own) (wipeE own ρi) ∧ H' D = some (.lst vs) ∧ RepL X.K F' H' ys vs ∧ ys.length ≤ i ∧
          compL own (turnC mt dc de) (ds.drop i) ρi = some (rest, ρ2) ∧ ys ++ rest = YS) ?_ ?_ ?_ ?_
      · have lq : Le F1 H1 F1 (upd H1 D (.lst [])) := ⟨fun a h => upd_of_none hD (q1.tr a (.inl h)), fun _ h => h⟩
        have q2 : Rel X.K J O F1 (upd H1 D (.lst [])) σ ρ1 := q1.grow lq (fun a h => upd_of_none hD h) fun a h => .inl h
        have q3 : Rel X.K J O' F1 (upd H1 D (.lst [])) σ ρ1 := q2.addO (by rw [upd_same]; intro z; cases z) nF fun j oj ej => by
          obtain ⟨b, xs, e1, o, _⟩ := q1.ownA oj
          rw [ej] at e1; cases e1
          obtain ⟨ws, e2, _⟩ := o.at_
          rw [hD] at e2; cases e2
        exact ⟨F1, [], [], ρ1, YS, ⟨fun a h => upd_of_none hD (q1.tr a h), fun _ h => h⟩, q3.wiped own, upd_same, rfl, Nat.le_refl _, hcl, rfl⟩
      · rintro i H' hin ⟨F', vs, ys, ρi, rest, sI, _⟩
        exact hG F' H' sI.le
      · rintro i x H' H'' hin ⟨F', vs, ys, ρi, rest, sI, qI, eD, rI, lI, cI, eI⟩ yx
        obtain ⟨F2, p2⟩ := hY i F' H' x H'' _ sI.le (fun a h => qI.tr a (.inl h)) yx (List.getElem?_eq_getElem hin)
        obtain ⟨s2, q2, r2⟩ := qI.pure p2
        rw [List.drop_eq_getElem_cons hin] at cI
        unfold compL at cI
        split at cI
        · obtain ⟨o, ρa, c1, c2⟩ := bnd_some cI
          obtain ⟨rest', ρb, c3, c4⟩ := bnd_some c2
          cases c4
          obtain ⟨u, ρc, d1, d2⟩ := bnd_some c1
          obtain ⟨b, ρd, d3, d4⟩ := bnd_some d2
          have r2 : Rep X.K F2 H'' ds[i] x := r2
          intro s0 H0 C0 cl0 fp0
          refine hg s0 H0 C0 cl0 fp0 O' F2 H'' (wipe σ own) (wipeE own ρi) ds[i] x u ρc _ q2 r2 d1 fun σ2 F3 H3 s3 q3 l3 e3 => ⟨?_, ?_⟩
          · rw [← wipe_wipe (own := own) σ]
            exact wipe_eq l3 fun j hj => e3 j fun z => hj (hsub j z)
          have ew : wipe σ2 own = wipe σ own := by
            rw [← wipe_wipe (own := own) σ]
            exact wipe_eq l3 fun j hj => e3 j fun z => hj (hsub j z)
          refine ht q3 d3 fun F4 H4 s4 q4 => ?_
          have keepD : ∀ {Fa Ha Fb Hb}, Stp O' Fa Ha Fb Hb → Hb D = Ha D := fun s => s.keep D (.inr (.inr rfl))
          have dn : ∀ {Fa Ha Fb Hb}, Stp O' Fa Ha Fb Hb → Stp O Fa Ha Fb Hb := fun s => ⟨fun a h => s.keep a (h.imp id .inl), s.sub⟩
          cases b with
          | false =>
            rw [if_neg Bool.false_ne_true]
            cases d4
            have s24 := (s2.trans s3).trans s4
            have q5 := q4.wiped own
            rw [ew] at q5
            exact ⟨F4, vs, ys, ρa, rest', sI.trans (dn s24), q5, by rw [keepD s24, eD], rI.le s24.le, by omega, c3, eI⟩
          | true =>
            rw [if_pos rfl]
            obtain ⟨y, ρe, d5, d6⟩ := bnd_some d4
            cases d6
            intro s0 H0 C0 cl0 fp0
            refine (he s0 H0 C0 cl0 fp0).v.toD q4 d5 fun yv F5 H5 s5 q5 r5 => ?_
            have s25 := ((s2.trans s3).trans s4).trans s5
            have eD5 : H5 D = some (.lst vs) := by rw [keepD s25, eD]
            have rI5 := rI.le s25.le
            refine ⟨vs, eD5, by rw [rI.length, sz_eq]; omega, ?_⟩
            obtain ⟨l6, q6⟩ := q5.updO (o := .lst (vs ++ [yv])) (show O' D from .inr rfl)
            have q7 := q6.wiped own
            rw [ew] at q7
            refine ⟨F5, vs ++ [yv], ys ++ [y.toD], ρa, rest', (sI.trans (dn s25)).trans ⟨fun a h => upd_ne fun z => ?_, fun _ h => h⟩, q7, upd_same, (rI5.le l6).append (.one (r5.le l6)), by rw [List.length_append]; show _ + 1 ≤ _; omega, c3, by rw [List.append_assoc]; exact eI⟩
            rw [z] at h
            rcases h with h | h
            · exact q5.dj D (.inr rfl) h
            · exact nO h
        · cases cI
      · rintro H' ⟨F', vs, ys, ρi, rest, sI, qI, eD, rI, lI, cI, eI⟩
        rw [List.drop_length] at cI
        cases cI
        rw [List.append_nil] at eI
        subst eI
        have q5 : Rel X.K J O' F' H' σ (restore own ρ1 (wipeE own ρ2)) := qI.restored q1 sI.le hf
        have er : restore own ρ1 (wipeE own ρ2) = restore own ρ1 ρ2 := by
          have hl : ρ1.length = ρ2.length := by
            have := qI.len
            rw [wipe_length, wipeE_len] at this
            rw [← this]; exact q1.len.symm
          apply List.ext_getElem?
          intro j
          rw [restore_at _ _ _ (by rw [wipeE_len]; exact hl), restore_at _ _ _ hl]
          by_cases hj : j ∈ own
          · rw [if_pos hj, if_pos hj]
          · rw [if_neg hj, if_neg hj, wipeE_at, if_neg hj]
        rw [er] at q5
        refine kq (.ref D) F' H' (s1.trans sI) (q5.subO fun a h => .inl h) ⟨D, rfl, ⟨q5.dj D (.inr rfl), nO, by omega, vs, eD, rI⟩, fun j oj ej => ?_⟩
        obtain ⟨b, xs, e1, o, _⟩ := q5.ownA oj
        rw [ej] at e1; cases e1
        exact o.no (.inr rfl)
  · cases h2
theorem blk_facts {own : List Nat} {scope : Scope} (c : Ctx X T G N sc st k) (h : blkC N sc scope (ownOf N own) = true) : BlkOk X.N X.env.scope scope (ownOf N own) := by
  rw [c.n, c.scE]
  exact blkOk_by h
theorem snd_comp (c : Ctx X T G N sc st k) {own sl : List Nat} {tg iter elt : Expr} {ifs : List Expr} {scope : Scope} {pos : Pos} {mi : M (List D)} {mt : D → M Unit} {dc de : DE}
    (hk : blkC N sc scope (ownOf N own) = true) (ho : (ownOf N own).map (·.2) = own) (hs : notSet iter = true)
    (hi : SndI X J tg iter mi) (hg : ∀ s H C cl fp, SndG (blkX X scope s H C cl fp) J tg sl mt) (hsub : ∀ i ∈ sl, i ∈ own)
    (ht : (ifs = [] ∧ dc.ab = true) ∨ ∃ i, ifs = [i] ∧ dc.ab = false ∧ ∀ s H C cl fp, SndE (blkX X scope s H C cl fp) J i dc)
    (he : ∀ s H C cl fp, SndE (blkX X scope s H C cl fp) J elt de) : SndV X J (.ListComp elt [⟨tg, iter, ifs, 0⟩] scope pos) (compV own mi (turnC mt dc de)) := fun O F H σ ρ r ρ' Q q hm kq => by
  have nd : X.N.Nodup := by rw [c.n]; exact c.nd
  have pE : ∀ s H C cl fp, PE (blkX X scope s H C cl fp) elt (teX X scope elt) := fun s H C cl fp => ⟨fun pins s' σ H' Q I h => h s H C cl fp pins s' I⟩
  have pG : ∀ s H C cl fp, PG (blkX X scope s H C cl fp) tg (tgX X scope tg) := fun s H C cl fp => ⟨fun pins s' σ H' v u Q I r h => h s H C cl fp pins s' u I r⟩
  rcases ht with ⟨rfl, ha⟩ | ⟨i, rfl, ha, hT⟩
  · refine PEto (pe_lc c.calm nd pi_w (blk_facts c hk) pG (fun _ _ _ _ _ => pts_nil) pE (folded_of hs)) ?_
    rw [ho]
    refine comp_rd c hi hg hsub (fun {O F H σ ρ ρ' b Q} q h k => ?_) he q hm kq
    unfold testC at h
    rw [if_pos ha] at h
    cases h
    exact k F H .refl q
  · refine PEto (pe_lc c.calm nd pi_w (blk_facts c hk) pG (fun s H C cl fp => pts_one (t := ttX X scope i) ⟨fun pins s' σ H' Q I h => h s H C cl fp pins s' I⟩) pE (folded_of hs)) ?_
    rw [ho]
    refine comp_rd c hi hg hsub (fun {O F H σ ρ ρ' b Q} q h k => ?_) he q hm kq
    unfold testC at h
    rw [if_neg (by rw [ha]; exact Bool.false_ne_true)] at h
    intro s H0 C cl fp
    exact (hT s H0 C cl fp).t O F H σ ρ b ρ' Q q h k
end
end Rm

set_option Elab.async false
set_option linter.all false
set_option maxRecDepth 100000
set_option maxHeartbeats 8000000
/-! R12e: enumerate, list(range(..)), min(.., default=None): what the small language gives. -/
namespace Rm
open PySem PySem.Spec L2

section
variable {X : Cx} {J : List (Nat × Addr)} {T : Tab} {G : Cfg} {N : List Str} {sc : Scope} {st : Str → Bool} {k : Nat}
theorem bnd_eq {α β : Type} {m : M α} {f : α → M β} {ρ ρ1 : En} {a : α} (h : m ρ = some (a, ρ1)) : bnd m f ρ = f a ρ1 := by
  unfold bnd; rw [h]
theorem enumL_len : ∀ (ds : List D) (k : Int), (enumL k ds).length = ds.length
  | [], _ => rfl
  | d :: ds, k => by rw [enumL, List.length_cons, List.length_cons, enumL_len]
theorem enumL_get : ∀ (ds : List D) (k : Int) (i : Nat) (d : D), (enumL k ds)[i]? = some d → ∃ x, ds[i]? = some x ∧ d = .tup [.int (k + (i : Nat)), x]
  | [], _, _, _, h => by simp [enumL] at h
  | d :: ds, k, 0, e, h => by
    simp [enumL] at h
    exact ⟨d, rfl, by rw [← h]; simp⟩
  | d :: ds, k, i + 1, e, h => by
    obtain ⟨x, h1, h2⟩ := enumL_get ds (k + 1) i e (by simpa [enumL] using h)
    refine ⟨x, by simpa using h1, h2.trans ?_⟩
    have e1 : k + 1 + (i : Nat) = k + ((i + 1 : Nat) : Int) := by omega
    rw [e1]
theorem repL_signs {K F H} : ∀ (s : List Nat), okS s = true → RepL K F H (s.map fun c => .str [c]) (s.map fun c => V.str ⟨#[c]⟩) := by
  intro s hs
  have q : ∀ r : List Nat, (∀ z ∈ r, z ∈ s) → RepL K F H (r.map fun c => .str [c]) (r.map fun c => V.str ⟨#[c]⟩) := by
    intro r
    induction r with
    | nil => intro _; rfl
    | cons c r ih =>
      intro hr
      refine ⟨_, _, rfl, ⟨rfl, okS_sub hs (t := [c]) ?_ fun z hz => ?_⟩, ih fun z hz => hr z (List.mem_cons_of_mem _ hz)⟩
      · exact Nat.succ_le_of_lt (List.length_pos_of_mem (hr c List.mem_cons_self))
      · rw [List.mem_singleton.mp hz]; exact hr c List.mem_cons_self
  exact q s fun z hz => hz
/-- what may be gone through stands as a source -/
theorem src_of {K : PySem.W.Frag} {F : Fz} {H : Hp} {d : D} {v : V} {ds : List D} (r : Rep K F H d v) (h : items d = some ds) : ∃ xs Sq, SrcOf K H v xs Sq ∧ RepL K F H ds xs ∧ ∀ F' H', Le F H F' H' → Sq H' := by
  cases d with
  | non => cases h
  | bl b => cases h
  | int i => cases h
  | str s =>
    cases h
    obtain ⟨rfl, hs⟩ := r
    refine ⟨_, _, .text (mkS s), ?_, fun _ _ _ => trivial⟩
    have e : (mkS s).cps.toList = s := by show (s.toArray).toList = s; simp
    rw [e]; exact repL_signs s hs
  | tup xs =>
    cases h
    obtain ⟨a, vs, rfl, tp, _, rl⟩ := r
    exact ⟨_, _, .tup a vs tp.sq, rl, fun F' H' l => (tp.le l).sq⟩
  | lst xs =>
    cases h
    obtain ⟨a, vs, rfl, fa, tp, _, rl⟩ := r
    exact ⟨_, _, .lst a vs (SqL.of tp), rl, fun F' H' l => SqL.of ((l.keep a fa).trans tp)⟩
  | lk ns =>
    cases h
    obtain ⟨a, rfl, tp, _⟩ := r
    exact ⟨_, _, .lst a _ tp.sq, repL_ints ns, fun F' H' l => (tp.le l).sq⟩
theorem yld_enum {K : PySem.W.Frag} {F : Fz} {H : Hp} {xs : List V} {Sq : Hp → Prop} {ds : List D} {k0 : Int} (rl : RepL K F H ds xs) (hs : ∀ F' H', Le F H F' H' → Sq H') : Yld K F H (IteG xs Sq k0) (enumL k0 ds) := by
  have w := walk_enumG (xs := xs) (Sq := Sq) (k0 := k0)
  have hl : xs.length = (enumL k0 ds).length := by rw [enumL_len]; exact rl.length
  rw [hl] at w
  refine ⟨_, _, w, hs, fun i F' H' v H'' d l tr y e => ?_⟩
  obtain ⟨T, x, z, rfl, hT, rfl, h1, h2⟩ := y
  cases h1
  obtain ⟨x', e1, rfl⟩ := enumL_get ds k0 i d e
  obtain ⟨v', e2, r⟩ := rl.get e1
  have h2 : xs[i]? = some z := h2
  rw [h2] at e2; cases e2
  exact ⟨_, .newTup tr hT (by show 2 ≤ SZ; decide) ⟨_, _, rfl, rfl, _, _, rfl, r.le l, rfl⟩⟩
theorem snd_enum1 (c : Ctx X T G N sc st k) {e : Expr} {elts : List Expr} {kk : Nat} {m : DE} {tpos p pos : Pos} (hg : gloC sc "enumerate" = true) (hs : notStar e = true) (h : SndE X J e m) :
    SndI X J (.Tuple elts kk tpos) (.Call (.Name "enumerate" p) [e] [] pos) (bnd m.v fun x => lft ((items x.toD).map (enumL 0))) := fun O F H σ ρ ds ρ' R q hm k => by
  obtain ⟨x, ρ1, h1, h2⟩ := bnd_some hm
  obtain ⟨t, h3, h4⟩ := lft_some h2
  cases h4
  cases ei : items x.toD with
  | none => rw [ei] at h3; cases h3
  | some l =>
    rw [ei] at h3
    cases h3
    have A : AllS X J [e] (consE m ⟨ret [], ret [], fun _ => ret []⟩) := .cons h hs .nil
    have hd : (consE m ⟨ret [], ret [], fun _ => ret []⟩).ds ρ = some ([x.toD], ρ') := by
      show bnd m.v _ ρ = _
      rw [bnd_eq h1]; rfl
    refine PIto (pi_enum1 (glo_of c hg) (c.bl "enumerate" (by decide +kernel)) pa_w (star_of hs)) (A.ds O F H σ ρ _ _ _ q hd fun vs F1 H1 s1 q1 r1 => ?_)
    obtain ⟨v, r, rfl, rv, hr⟩ := r1
    cases hr
    obtain ⟨xs, Sq, S, rl, hq⟩ := src_of rv ei
    exact ⟨v, xs, Sq, 0, rfl, fun _ => rfl, by decide, by decide, S, k _ F1 H1 s1 q1 (yld_enum rl hq)⟩
theorem snd_enum2 (c : Ctx X T G N sc st k) {e : Expr} {elts : List Expr} {kk k1 : Nat} {n : Int} {m : DE} {tpos p pos p1 : Pos} (hn : rgB n = true) (hg : gloC sc "enumerate" = true) (hs : notStar e = true) (h : SndE X J e m) :
    SndI X J (.Tuple elts kk tpos) (.Call (.Name "enumerate" p) [e, .Constant (.int n) k1 p1] [] pos) (bnd m.v fun x => lft ((items x.toD).map (enumL n))) := fun O F H σ ρ ds ρ' R q hm k => by
  obtain ⟨x, ρ1, h1, h2⟩ := bnd_some hm
  obtain ⟨t, h3, h4⟩ := lft_some h2
  cases h4
  obtain ⟨n0, n1⟩ := rgB_of hn
  cases ei : items x.toD with
  | none => rw [ei] at h3; cases h3
  | some l =>
    rw [ei] at h3
    cases h3
    have hc : SndE X J (.Constant (.int n) k1 p1) (mkE (ret (.d (.int n)))) := snd_mk (sndV_const pe_int fun _ _ => rfl) rfl
    have A : AllS X J [e, .Constant (.int n) k1 p1] (consE m (consE (mkE (ret (.d (.int n)))) ⟨ret [], ret [], fun _ => ret []⟩)) := .cons h hs (.cons hc rfl .nil)
    have hd : (consE m (consE (mkE (ret (.d (.int n)))) ⟨ret [], ret [], fun _ => ret []⟩)).ds ρ = some ([x.toD, .int n], ρ') := by
      show bnd m.v _ ρ = _
      rw [bnd_eq h1]; rfl
    have s2 : notStar (.Constant (.int n) k1 p1) = true := rfl
    refine PIto (pi_enum2 (glo_of c hg) (c.bl "enumerate" (by decide +kernel)) pa_w (star_of hs) (stars_of (es := [.Constant (.int n) k1 p1]) rfl)) (A.ds O F H σ ρ _ _ _ q hd fun vs F1 H1 s1 q1 r1 => ?_)
    obtain ⟨v, r, rfl, rv, v2, r2, rfl, rn, hr⟩ := r1
    cases hr
    cases rn
    obtain ⟨xs, Sq, S, rl, hq⟩ := src_of rv ei
    exact ⟨v, xs, Sq, n, rfl, (fun z => absurd z (by decide)), n0, n1, S, k _ F1 H1 s1 q1 (yld_enum rl hq)⟩
theorem repL_rg {K F H} : ∀ (n : Nat) (lo : Int), RepL K F H (rangeL lo n) ((List.range n).map fun i => V.int (lo + (i : Nat)))
  | 0, _ => rfl
  | n + 1, lo => by
    rw [List.range_succ_eq_map, List.map_cons, List.map_map]
    refine ⟨_, _, rfl, ?_, ?_⟩
    · show V.int (lo + ((0 : Nat) : Int)) = .int lo; congr 1; omega
    · have := repL_rg (K := K) (F := F) (H := H) n (lo + 1)
      have e : (List.map (fun i => V.int (lo + 1 + (i : Nat))) (List.range n)) = List.map ((fun i : Nat => V.int (lo + (i : Nat))) ∘ Nat.succ) (List.range n) := by
        apply List.map_congr_left
        intro i _
        show V.int _ = V.int _
        congr 1
        show lo + 1 + (i : Int) = lo + ((i + 1 : Nat) : Int)
        omega
      rw [← e]; exact this
theorem snd_listRg1 (c : Ctx X T G N sc st k) {a : Expr} {d : DE} {p p2 pos pos2 : Pos} (hg : gloC sc "list" = true) (hg2 : gloC sc "range" = true) (hs : notStar a = true) (h : SndE X J a d) :
    SndV X J (.Call (.Name "list" p) [.Call (.Name "range" p2) [a] [] pos2] [] pos) (bnd (bnd (consE d ⟨ret [], ret [], fun _ => ret []⟩).ds fun ds => lft (rangeD ds)) fun ds => lft (mkLst ds)) := fun O F H σ ρ r ρ' Q q hm k => by
  obtain ⟨ds, ρ1, h1, h2⟩ := bnd_some hm
  obtain ⟨t, h3, h4⟩ := lft_some h2
  cases h4
  obtain ⟨as, ρ2, h5, h6⟩ := bnd_some h1
  obtain ⟨t2, h7, h8⟩ := lft_some h6
  cases h8
  obtain ⟨x, ρ3, h9, h10⟩ := bnd_some (show bnd d.v _ ρ = _ from h5)
  cases h10
  have h7 : rangeD [x.toD] = some _ := h7
  cases ej : x.toD with
  | non => rw [ej] at h7; cases h7
  | bl b => rw [ej] at h7; cases h7
  | str b => rw [ej] at h7; cases h7
  | tup b => rw [ej] at h7; cases h7
  | lst b => rw [ej] at h7; cases h7
  | lk b => rw [ej] at h7; cases h7
  | int j =>
    rw [ej] at h7
    have h7 : (if rgB j then some (rangeL 0 j.toNat) else none) = some _ := h7
    split at h7
    · rename_i hj
      cases h7
      unfold mkLst at h3
      split at h3
      · rename_i hz
        cases h3
        obtain ⟨b0, b1⟩ := rgB_of hj
        rw [rangeL_len] at hz
        refine PEto (pe_listRg c.calm (glo_of c hg) (c.bl "list" (by decide +kernel)) (prg_1 (glo_of c hg2) (c.bl "range" (by decide +kernel)) pe_w (star_of hs)) rfl) (h.v.toD q h9 fun v F1 H1 s1 q1 r1 => ?_)
        rw [ej] at r1
        refine ⟨j, r1, ⟨by decide, by decide, b0, b1, by rw [Int.sub_zero]; exact hz⟩, fun l hl => ?_⟩
        have rl := repL_rg (K := X.K) (F := F1) (H := H1) j.toNat 0
        have e2 : rgV 0 j = (List.range j.toNat).map fun i => V.int (0 + (i : Nat)) := by
          show (List.range (j - 0).toNat).map _ = _
          rw [Int.sub_zero]
        rw [e2]
        obtain ⟨s2, q2, r2⟩ := q1.pure (.newLst q1.trk hl (by rw [rangeL_len]; exact hz) rl)
        exact k _ _ _ (s1.trans s2) q2 r2
      · cases h3
    · cases h7

/-! ### min(.., default=None) of nothing -/
theorem call_minN (hc : X.calm = true) : CallRK X (.builtin "min") ["default"] (fun xs zs H Q => ∃ q, xs = [.ref q] ∧ SqL X.K H q [] ∧ zs = [.non] ∧ Q .non H) := by
  intro pins s σ H xs zs us ws Q I r1 r2 h
  obtain ⟨q, rfl, hs, rfl, hq⟩ := h
  obtain ⟨its, rv, p, _⟩ := I.list hs
  cases rv
  cases r1 with
  | cons ra rr =>
    cases rr
    cases ra
    cases r2 with
    | cons rb rr =>
      cases rr
      cases rb
      show wpAny _ _ (call (.builtin "min") [.ref q] [(Str.ofString "default", Value.none)]) _ _ _
      refine PySem.call_min_walkD (PySem.W.iter_listW (I.ok.hd hc) p.isList fun s₂ e W st hfp hw hk => ?_)
      refine ⟨_, _, _, _, _, _, _, s.heap, (fun _ _ => false), rfl, W, st, hfp, hw, hk, fun hz s' m => ?_, fun hp => absurd hp (by simp)⟩
      obtain ⟨h', tk, rfl, hk'⟩ := PySem.W.moved_old e rfl m
      exact ⟨.non, H, I.kept hk', rfl, hq⟩
theorem snd_minN (c : Ctx X T G N sc st k) {a : Expr} {m : M R} {k1 : Nat} {p pos p1 kp : Pos} (hg : gloC sc "min" = true) (hs : notStar a = true) (h : SndV X J a m) :
    SndV X J (.Call (.Name "min" p) [a] [⟨some "default", .Constant .none k1 p1, kp⟩] pos) (bnd m fun x => match x.toD with | .lst [] => ret (.d .non) | _ => fail) := fun O F H σ ρ r ρ' Q q hm k => by
  obtain ⟨x, ρ1, h1, h2⟩ := bnd_some hm
  have ex : x.toD = .lst [] ∧ r = .d .non ∧ ρ1 = ρ' := by
    revert h2
    generalize x.toD = y
    intro h2
    cases y with
    | lst l =>
      cases l with
      | nil => cases h2; exact ⟨rfl, rfl, rfl⟩
      | cons _ _ => cases h2
    | non => cases h2
    | bl b => cases h2
    | str b => cases h2
    | tup b => cases h2
    | int b => cases h2
    | lk b => cases h2
  obtain ⟨e1, rfl, rfl⟩ := ex
  refine PEto (pe_callBK (call_minN c.calm) (glo_of c hg) (c.bl "min" (by decide +kernel)) PyProof.Rows.boot_min (pa_cons pe_w pa_nil (star_of hs)) (pk_cons pe_non pk_nil) (by decide) (by decide) ?_ ?_ rfl rfl rfl) (h.toD q h1 fun v F1 H1 s1 q1 r1 => ?_)
  · rw [star_of hs]; rfl
  · exact stars_of (by simp [hs])
  · rw [e1] at r1
    obtain ⟨a, vs, rfl, fa, tp, _, rl⟩ := r1
    cases rl
    exact ⟨a, rfl, SqL.of tp, rfl, k _ F1 H1 s1 q1 rfl⟩
end
end Rm

set_option Elab.async false
set_option linter.all false
set_option maxRecDepth 100000
set_option maxHeartbeats 8000000
/-! R13: what the small language gives is what the code does: every checked expression. -/
namespace Rm
open PySem PySem.Spec L2

section
variable {J : List (Nat × Addr)} {T : Tab} {G : Cfg} {N : List Str} {k : Nat}
theorem snd_pair_part {X : Cx} {sc : Scope} {st : Str → Bool} {e : E} {l : Option Expr} (h : (match l with | none => ckA e | some l => ckE T N e sc st l && !ckA e) = true) (ih : ∀ x, ckE T N e sc st x = true → SndE X J x (evE G e)) : PartS X J l (evE G e) := by
  cases l with
  | none =>
    cases e <;> first | exact partS_none | cases h
  | some l =>
    have q := Bool.and_eq_true_iff.mp h
    exact (ih l q.1).p
theorem ab_of {X : Cx} {x : Expr} {e : E} (h : SndE X J x (evE G e)) : (evE G e).ab = false := h.ab
theorem tst_of {X : Cx} {sc : Scope} {scope : Scope} {c : E} {ifs : List Expr} {st : Str → Bool} (h : (match ifs with | [] => ckA c | [i] => ckE T N c sc st i && !ckA c | _ => false) = true)
    (ih : ∀ x, ckE T N c sc st x = true → ∀ s H C cl fp, SndE (blkX X scope s H C cl fp) J x (evE G c)) :
    (ifs = [] ∧ (evE G c).ab = true) ∨ ∃ i, ifs = [i] ∧ (evE G c).ab = false ∧ ∀ s H C cl fp, SndE (blkX X scope s H C cl fp) J i (evE G c) := by
  match ifs, h with
  | [], h => cases c <;> first | exact .inl ⟨rfl, rfl⟩ | cases h
  | [i], h =>
    have q := Bool.and_eq_true_iff.mp h
    refine .inr ⟨i, rfl, ?_, ih i q.1⟩
    have a : ckA c = false := by simpa using q.2
    cases c <;> first | rfl | cases a
theorem subs_of {own sl : List Nat} (h : (sl.all fun i => own.contains i) = true) : ∀ i ∈ sl, i ∈ own := fun i hi => List.contains_iff_mem.mp (List.all_eq_true.mp h i hi)

set_option maxHeartbeats 0 in
mutual
theorem okE : ∀ (e : E) {X : Cx} {sc : Scope} {st : Str → Bool}, Ctx X T G N sc st k → ∀ {x : Expr}, ckE T N e sc st x = true → SndE X J x (evE G e)
  | .var i, X, sc, st, c, x, h => by
    cases x <;> first | cases h | skip
    simp only [ckE, Bool.and_eq_true] at h
    exact snd_var c h.1.1 h.1.2 h.2
  | .int n, X, sc, st, c, x, h => by
    cases x <;> first | cases h | skip
    rename_i v j p
    cases v <;> first | cases h | skip
    have e := of_decide_eq_true h
    subst e
    exact snd_mk (sndV_const pe_int fun _ _ => rfl) rfl
  | .str z, X, sc, st, c, x, h => by
    cases x <;> first | cases h | skip
    rename_i v j p
    cases v <;> first | cases h | skip
    have q := Bool.and_eq_true_iff.mp h
    have e := of_decide_eq_true q.1
    subst e
    exact snd_mk (sndV_const pe_str fun _ _ => ⟨rfl, q.2⟩) rfl
  | .bl b, X, sc, st, c, x, h => by
    cases x <;> first | cases h | skip
    rename_i v j p
    cases v <;> first | cases h | skip
    have e := eq_of_beq h
    subst e
    exact snd_mk (sndV_const pe_bl fun _ _ => rfl) rfl
  | .non, X, sc, st, c, x, h => by
    cases x <;> first | cases h | skip
    rename_i v j p
    cases v <;> first | cases h | skip
    exact snd_mk (sndV_const pe_non fun _ _ => rfl) rfl
  | .glob g, X, sc, st, c, x, h => by
    cases x <;> first | cases h | skip
    rename_i n p
    simp only [ckE, Bool.and_eq_true] at h
    obtain ⟨⟨h1, h2⟩, h3⟩ := h
    cases e : T.con[g]? with
    | none => rw [e] at h1; cases h1
    | some cc =>
      rw [e] at h1
      have en := of_decide_eq_true h1
      subst en
      obtain ⟨u, v, m1, m2, m3⟩ := c.con g cc e
      have eg : G.con g = cc.2 := by
        rw [c.cfg]
        show (match T.con[g]? with | some c => c.2 | none => .non) = _
        rw [e]
      show SndE X J _ (mkE (ret (.d (G.con g))))
      rw [eg]
      exact snd_mk (sndV_const (pe_glob (glo_of c h2) m1 m2 (okNm_of h3).1) m3) rfl
  | .bin o a b, X, sc, st, c, x, h => by
    cases x <;> first | cases h | skip
    simp only [ckE, Bool.and_eq_true] at h
    have e := of_decide_eq_true h.1.1
    subst e
    exact snd_mk (snd_bin o (okE a c h.1.2).v (okE b c h.2).v) rfl
  | .neg a, X, sc, st, c, x, h => by
    cases x <;> first | cases h | skip
    rename_i op p ps
    cases op <;> first | cases h | skip
    exact snd_mk (snd_neg (okE a c h).v) rfl
  | .cmp o a b, X, sc, st, c, x, h => by
    cases x <;> first | cases h | skip
    rename_i p ops qs ps
    match ops, qs, h with
    | [op], [q], h =>
      simp only [ckE, Bool.and_eq_true] at h
      have e := of_decide_eq_true h.1.1.1
      subst e
      exact snd_cmp c o h.2 (okE a c h.1.1.2) (okE b c h.1.2)
  | .chain o o' a b d, X, sc, st, c, x, h => by
    cases x <;> first | cases h | skip
    rename_i p ops qs ps
    match ops, qs, h with
    | [op, op'], [q, r], h =>
      simp only [ckE, Bool.and_eq_true] at h
      have e := of_decide_eq_true h.1.1.1.1.1.1
      have e' := of_decide_eq_true h.1.1.1.1.1.2
      subst e e'
      exact snd_chain c o o' h.2 (okE a c h.1.1.1.1.2) (okE b c h.1.1.1.2) (okE d c h.1.1.2)
  | .and a b, X, sc, st, c, x, h => by
    cases x <;> first | cases h | skip
    rename_i op vs ps
    cases op <;> first | cases h | skip
    match vs, h with
    | p :: q :: [], h =>
      have h := Bool.and_eq_true_iff.mp h
      have ha := okE a c h.1
      have hb := okE b c h.2
      exact snd_bool (snd_andV ha.v (snd_oneV hb.v)) (snd_andB ha.t (snd_oneB hb.t))
    | p :: q :: r :: rs, h =>
      have h := Bool.and_eq_true_iff.mp h
      have ha := okE a c h.1
      have hb := okE b c h.2
      exact snd_bool (snd_andV ha.v hb.v) (snd_andB ha.t (hb.b _ _ _ rfl))
  | .or a b, X, sc, st, c, x, h => by
    cases x <;> first | cases h | skip
    rename_i op vs ps
    cases op <;> first | cases h | skip
    match vs, h with
    | p :: q :: [], h =>
      have h := Bool.and_eq_true_iff.mp h
      have ha := okE a c h.1
      have hb := okE b c h.2
      exact snd_bool (snd_orV ha.v (snd_oneV hb.v)) (snd_orB ha.t (snd_oneB hb.t))
    | p :: q :: r :: rs, h =>
      have h := Bool.and_eq_true_iff.mp h
      have ha := okE a c h.1
      have hb := okE b c h.2
      exact snd_bool (snd_orV ha.v hb.v) (snd_orB ha.t (hb.b _ _ _ rfl))
  | .not a, X, sc, st, c, x, h => by
    cases x <;> first | cases h | skip
    rename_i op p ps
    cases op <;> first | cases h | skip
    exact snd_notV (okE a c h)
  | .ife d a b, X, sc, st, c, x, h => by
    cases x <;> first | cases h | skip
    simp only [ckE, Bool.and_eq_true] at h
    exact snd_ite (snd_iteV (okE d c h.1.1).t (okE a c h.1.2).v (okE b c h.2).v) fun _ _ _ e => by cases e
  | .tup es, X, sc, st, c, x, h => by
    cases x <;> first | cases h | skip
    have h := Bool.and_eq_true_iff.mp h
    exact snd_mk (snd_tup (okEs es c h.1 h.2)) rfl
  | .lst es, X, sc, st, c, x, h => by
    cases x <;> first | cases h | skip
    have h := Bool.and_eq_true_iff.mp h
    exact snd_mk (snd_lst (okEs es c h.1 h.2)) rfl
  | .idx a b, X, sc, st, c, x, h => by
    cases x <;> first | cases h | skip
    simp only [ckE, Bool.and_eq_true] at h
    exact snd_mk (snd_idx h.2 (okE a c h.1.1) (okE b c h.1.2)) rfl
  | .sli a lo hi, X, sc, st, c, x, h => by
    cases x <;> first | cases h | skip
    rename_i p s ps
    cases s <;> first | cases h | skip
    rename_i l u stp ps2
    cases stp <;> first | cases h | skip
    have h := Bool.and_eq_true_iff.mp h
    have h1 := Bool.and_eq_true_iff.mp h.1
    exact snd_mk (snd_sli (okE a c h1.1) (snd_pair_part h1.2 fun x hx => okE lo c hx) (snd_pair_part h.2 fun x hx => okE hi c hx)) rfl
  | .absent, X, sc, st, c, x, h => by cases h
  | .call f as, X, sc, st, c, x, h => by
    cases x <;> first | cases h | skip
    rename_i fn ps kws pos
    cases fn <;> first | cases h | skip
    cases kws <;> first | cases h | skip
    simp only [ckE, Bool.and_eq_true] at h
    obtain ⟨⟨⟨⟨h1, h2⟩, h3⟩, h4⟩, h5⟩ := h
    cases e : T.fns[f]? with
    | none => rw [e] at h1; cases h1
    | some fn =>
      rw [e] at h1
      have h1 := Bool.and_eq_true_iff.mp h1
      exact snd_mk (snd_call c e (of_decide_eq_true h1.1) h2 h3 (of_decide_eq_true h1.2) (okEs as c h4 h5)) rfl
  | .callK f as ks ix, X, sc, st, c, x, h => by
    cases x <;> first | cases h | skip
    rename_i fn ps kws pos
    cases fn <;> first | cases h | skip
    simp only [ckE, Bool.and_eq_true] at h
    obtain ⟨⟨⟨⟨⟨⟨⟨h1, h2⟩, h3⟩, h4⟩, h5⟩, h6⟩, h6b⟩, h7⟩ := h
    cases e : T.fns[f]? with
    | none => simp [e] at h1
    | some fn =>
      cases e2 : T.kws[ix]? with
      | none => simp [e, e2] at h1
      | some kw =>
        rw [e, e2] at h1
        simp only [Bool.and_eq_true] at h1
        obtain ⟨⟨⟨⟨g1, g2⟩, g3⟩, g4⟩, g5⟩ := h1
        exact snd_mk (snd_callK c e e2 (of_decide_eq_true g2) (of_decide_eq_true g1) h2 h3 (of_decide_eq_true g3) (of_decide_eq_true g4) (of_decide_eq_true g5) (okEs as c h4 h5) (okEs ks c h6 h6b)) rfl
  | .blt b as, X, sc, st, c, x, h => by
    cases x <;> first | cases h | skip
    rename_i fn ps kws pos
    cases fn <;> first | cases h | skip
    cases ps <;> first | cases h | skip
    cases kws <;> first | cases h | skip
    simp only [ckE, Bool.and_eq_true] at h
    obtain ⟨⟨⟨h1, h2⟩, h3⟩, h4⟩ := h
    have e := of_decide_eq_true h1
    subst e
    exact snd_mk (snd_blt c b h2 (okEs as c h3 h4)) rfl
  | .minN e, X, sc, st, c, x, h => by
    cases x <;> first | cases h | skip
    rename_i fn ps kws pos
    cases fn <;> first | cases h | skip
    match ps, kws, h with
    | [p], [⟨some m, .Constant .none _ _, _⟩], h =>
      simp only [ckE, Bool.and_eq_true] at h
      obtain ⟨⟨⟨⟨h1, h2⟩, h3⟩, h4⟩, h5⟩ := h
      have e1 := of_decide_eq_true h1
      have e2 := of_decide_eq_true h3
      subst e1 e2
      exact snd_mk (snd_minN c h2 h5 (okE e c h4).v) rfl
  | .isi e t, X, sc, st, c, x, h => by
    cases x <;> first | cases h | skip
    rename_i fn ps kws pos
    cases fn <;> first | cases h | skip
    match ps, kws, h with
    | [p, q], [], h =>
      simp only [ckE, Bool.and_eq_true] at h
      obtain ⟨⟨⟨⟨h1, h2⟩, h3⟩, h4⟩, h5⟩ := h
      have e1 := of_decide_eq_true h1
      subst e1
      cases q <;> first | cases h5 | skip
      have h5 := Bool.and_eq_true_iff.mp h5
      have e2 := of_decide_eq_true h5.1
      subst e2
      exact snd_mk (snd_isi c t h2 h5.2 (okE e c h3) h4) rfl
  | .met m r as, X, sc, st, c, x, h => by
    cases x <;> first | cases h | skip
    rename_i fn ps kws pos
    cases fn <;> first | cases h | skip
    cases ps <;> first | cases h | skip
    cases kws <;> first | cases h | skip
    simp only [ckE, Bool.and_eq_true] at h
    obtain ⟨⟨⟨⟨⟨⟨h1, h2⟩, h3⟩, h4⟩, h5⟩, h6⟩, h7⟩ := h
    have e := of_decide_eq_true h1
    subst e
    exact snd_mk (snd_met m (okE r c h2) h3 (okEs as c h4 h5) (of_decide_eq_true h6) h7) rfl
  | .mut m i e, X, sc, st, c, x, h => by
    cases x <;> first | cases h | skip
    rename_i fn ps kws pos
    cases fn <;> first | cases h | skip
    rename_i o n ap
    cases o <;> first | cases h | skip
    match ps, kws, h with
    | [p], [], h =>
      simp only [ckE, Bool.and_eq_true] at h
      obtain ⟨⟨⟨⟨⟨⟨h1, h2⟩, h3⟩, h4⟩, h5⟩, h6⟩, h7⟩ := h
      have e1 := of_decide_eq_true h1
      subst e1
      exact snd_mk (snd_mut c m h2 h3 h4 (okE e c h5) h6 h7) rfl
  | .comp own t it d e, X, sc, st, c, x, h => by
    cases x <;> first | cases h | skip
    rename_i elt gens scope pos
    match gens, h with
    | [⟨tg, iter, ifs, as⟩], h =>
      simp only [ckE, Bool.and_eq_true] at h
      obtain ⟨⟨⟨⟨⟨⟨⟨⟨⟨h1, h2⟩, h3⟩, h3b⟩, h4⟩, h5⟩, h6⟩, h7⟩, h8⟩, h9⟩ := h
      have e1 := of_decide_eq_true h1
      subst e1
      have hk := of_decide_eq_true h4
      exact snd_mk (snd_comp c (own := own) (sl := tgS t) h3 (of_decide_eq_true h2) h6 (okI it c h5) (fun s H C cl fp => okG t (c.blk hk s H C cl fp) h7) (subs_of h3b)
        (tst_of h8 fun x hx s H C cl fp => okE d (c.blk hk s H C cl fp) hx) (fun s H C cl fp => okE e (c.blk hk s H C cl fp) h9)) rfl
  | .listIt (.range (.cons e .nil)), X, sc, st, c, x, h => by
    cases x <;> first | cases h | skip
    rename_i fn ps kws pos
    cases fn <;> first | cases h | skip
    match ps, kws, h with
    | [.Call (.Name m _) [p] [] _], [], h =>
      simp only [ckE, Bool.and_eq_true] at h
      obtain ⟨⟨⟨⟨⟨h1, h2⟩, h3⟩, h4⟩, h5⟩, h6⟩ := h
      have e1 := of_decide_eq_true h1
      have e2 := of_decide_eq_true h3
      subst e1 e2
      exact snd_mk (snd_listRg1 c h2 h4 h6 (okE e c h5)) rfl
  | .listIt (.range .nil), X, sc, st, c, x, h => by cases h
  | .listIt (.range (.star _ _)), X, sc, st, c, x, h => by cases h
  | .listIt (.range (.cons _ (.cons _ _))), X, sc, st, c, x, h => by cases h
  | .listIt (.range (.cons _ (.star _ _))), X, sc, st, c, x, h => by cases h
  | .listIt (.of _), X, sc, st, c, x, h => by cases h
  | .listIt (.enum _ _), X, sc, st, c, x, h => by cases h
  | .listIt (.zip _ _), X, sc, st, c, x, h => by cases h
theorem okEs : ∀ (es : Es) {X : Cx} {sc : Scope} {st : Str → Bool}, Ctx X T G N sc st k → ∀ {xs : List Expr}, ckEs T N es sc st xs = true → xs.all notStar = true → AllS X J xs (evEs G es)
  | .nil, X, sc, st, c, xs, h, hs => by
    cases xs with
    | nil => exact .nil
    | cons _ _ => cases h
  | .cons e r, X, sc, st, c, xs, h, hs => by
    cases xs with
    | nil => cases h
    | cons x xs =>
      have h := Bool.and_eq_true_iff.mp h
      have q := Bool.and_eq_true_iff.mp (show (notStar x && xs.all notStar) = true from hs)
      exact .cons (okE e c h.1) q.1 (okEs r c h.2 q.2)
  | .star e r, X, sc, st, c, xs, h, hs => by cases h
theorem okI : ∀ (it : It) {X : Cx} {sc : Scope} {st : Str → Bool}, Ctx X T G N sc st k → ∀ {tg x : Expr}, ckI T N it sc st tg x = true → SndI X J tg x (evI G it)
  | .of e, X, sc, st, c, tg, x, h => snd_of (okE e c h).v
  | .range es, X, sc, st, c, tg, x, h => by
    cases x <;> first | cases h | skip
    rename_i fn ps kws pos
    cases fn <;> first | cases h | skip
    cases kws <;> first | cases h | skip
    simp only [ckI, Bool.and_eq_true] at h
    obtain ⟨⟨⟨⟨⟨h1, h2⟩, h3⟩, h4⟩, h5⟩, h6⟩ := h
    have e := of_decide_eq_true h1
    subst e
    exact snd_range c h2 (okEs es c h3 h4)
  | .enum e n, X, sc, st, c, tg, x, h => by
    cases tg <;> first | cases h | skip
    cases x <;> first | cases h | skip
    rename_i fn ps kws pos
    cases fn <;> first | cases h | skip
    match ps, kws, h with
    | [p], [], h =>
      simp only [ckI, Bool.and_eq_true] at h
      obtain ⟨⟨⟨⟨h1, h2⟩, h3⟩, h4⟩, h5⟩ := h
      have e1 := of_decide_eq_true h1
      have e2 := of_decide_eq_true h3
      subst e1 e2
      exact snd_enum1 c h2 h5 (okE e c h4)
    | [p, .Constant (.int j) _ _], [], h =>
      simp only [ckI, Bool.and_eq_true] at h
      obtain ⟨⟨⟨⟨⟨h1, h2⟩, h3⟩, h3b⟩, h4⟩, h5⟩ := h
      have e1 := of_decide_eq_true h1
      have e2 := of_decide_eq_true h3
      subst e1 e2
      exact snd_enum2 c h3b h2 h5 (okE e c h4)
  | .zip a b, X, sc, st, c, tg, x, h => by cases h
theorem okG : ∀ (t : Tg) {X : Cx} {sc : Scope} {st : Str → Bool}, Ctx X T G N sc st k → ∀ {x : Expr}, ckG T N t sc st x = true → SndG X J x (tgS t) (evG G t)
  | .name i, X, sc, st, c, x, h => by
    cases x <;> first | cases h | skip
    have h := Bool.and_eq_true_iff.mp h
    exact snd_tname c h.1 h.2
  | .tup ts, X, sc, st, c, x, h => by
    cases x <;> first | cases h | skip
    rename_i xs kk ps
    obtain ⟨h1, h2, h3⟩ := okGs ts c h
    exact snd_ttup c h1 h2 h3
  | .sub i e, X, sc, st, c, x, h => by
    cases x <;> first | cases h | skip
    rename_i v s ps
    cases v <;> first | cases h | skip
    simp only [ckG, Bool.and_eq_true] at h
    obtain ⟨⟨⟨⟨h1, h2⟩, h3⟩, h4⟩, h5⟩ := h
    exact snd_tsub c h1 h2 h3 (okE e c h4) h5
theorem okGs : ∀ (ts : Tgs) {X : Cx} {sc : Scope} {st : Str → Bool}, Ctx X T G N sc st k → ∀ {xs : List Expr}, ckGs T N ts sc st xs = true → SndGs X J xs (tgSs ts) (evGs G ts) ∧ xs.all notStar = true ∧ ∀ ds ρ u ρ', evGs G ts ds ρ = some (u, ρ') → ds.length = xs.length
  | .nil, X, sc, st, c, xs, h => by
    cases xs with
    | nil => exact ⟨sndGs_nil, rfl, fun ds ρ u ρ' h => by cases ds with | nil => rfl | cons _ _ => cases h⟩
    | cons _ _ => cases h
  | .cons t r, X, sc, st, c, xs, h => by
    cases xs with
    | nil => cases h
    | cons x xs =>
      have h := Bool.and_eq_true_iff.mp h
      obtain ⟨h1, h2, h3⟩ := okGs r c h.2
      have ns : notStar x = true := by
        have hx := h.1
        cases x <;> first | rfl | (cases t <;> cases hx)
      refine ⟨sndGs_cons (okG t c h.1) h1 ns, Bool.and_eq_true_iff.mpr ⟨ns, h2⟩, fun ds ρ u ρ' hm => ?_⟩
      cases ds with
      | nil => cases hm
      | cons d ds =>
        obtain ⟨u1, ρ1, g1, g2⟩ := bnd_some (show bnd (evG G t d) _ ρ = _ from hm)
        rw [List.length_cons, List.length_cons, h3 _ _ _ _ g2]
end
end
end Rm

set_option Elab.async false
set_option linter.all false
set_option maxRecDepth 100000
set_option maxHeartbeats 8000000
/-! R14: statements: the checker; side conditions; what each form promises. -/
namespace Rm
open PySem PySem.Spec L2

/-! ### side conditions -/
def isTupX : Expr → Bool
  | .Tuple .. => true
  | .List .. => true
  | _ => false
theorem sw_none {t e : Expr} {env : Env} (h : isTupX t = false ∨ isTupX e = false) : swappedStores [t] e env = pure none := by
  cases t <;> cases e <;> first | rfl | (rcases h with h | h <;> cases h)
theorem sole_none {t e : Expr} {l : Nat} {env : Env} (h : notComp e = true ∨ isTupX t = true) : swapsWithSole [t] e l env = pure false := by
  rcases h with h | h
  · exact swaps_of h
  · cases t <;> first | (cases h; done) | (cases e <;> rfl)
theorem each_one {t : Expr} {env : Env} (h : notStar t = true) : (assignEach [t] env).map (·.2) = [assign t env] := by
  cases t <;> first | rfl | (simp [notStar] at h)
/-- names that are stored at once -/
def nmOf : Expr → Option (Str × Nat)
  | .Name x p => some (x, p.line)
  | _ => none
def locK (sc : Scope) (x : Str) : Bool := match sc.names.lookup x with
  | some .local => true
  | _ => false
/-- whether the stores go from the right without a tuple: two or three plain local names of one row -/
def swS (sc : Scope) (ts vs : List Expr) : Option Bool :=
  if vs.all (foldedForSure 8) then some false
  else match ts with
    | [a, b] => (match nmOf a, nmOf b with
      | some (x, l), some (y, m) => if locK sc x && locK sc y then (if decide (l = m) && !decide (x = y) && !(vs.all (constantsAlone 8)) && decide (vs.length = 2) then some true else none) else some false
      | _, _ => none)
    | [a, b, c] => (match nmOf a, nmOf b, nmOf c with
      | some (x, l), some (y, m), some (z, o) => if locK sc x && locK sc y && locK sc z then (if decide (l = m) && decide (l = o) && !decide (x = y) && !decide (x = z) && !decide (y = z) && !(vs.all (constantsAlone 8)) && decide (vs.length = 3) then some true else none) else some false
      | _, _, _ => none)
    | _ => if 4 ≤ ts.length then some false else none
theorem locK_of {sc : Scope} {x : Str} {env : Env} (he : env.scope = sc) : locK sc x = (env.kindOf x == some .local) := by
  have e : env.kindOf x = sc.names.lookup x := by rw [← he]; rfl
  rw [e]
  unfold locK
  cases sc.names.lookup x with
  | none => rfl
  | some k => cases k <;> rfl
theorem noStar_any {vs : List Expr} (h : vs.all notStar = true) : (vs.any fun | .Starred .. => true | _ => false) = false := by
  induction vs with
  | nil => rfl
  | cons v vs ih =>
    have q := Bool.and_eq_true_iff.mp (show (notStar v && vs.all notStar) = true from h)
    rw [List.any_cons, ih q.2]
    cases v <;> first | rfl | (simp [notStar] at q)
theorem sw_true2 {sc : Scope} {x y : Str} {px py pt : Pos} {kt k2 : Nat} {pt2 : Pos} {vs : List Expr} {env : Env} (he : env.scope = sc) (hk : sc.kind = .function) (hs : vs.all notStar = true)
    (h : swS sc [.Name x px, .Name y py] vs = some true) : swappedStores [.Tuple [.Name x px, .Name y py] kt pt] (.Tuple vs k2 pt2) env = pure (some [x, y]) ∧ locK sc x = true ∧ locK sc y = true ∧ x ≠ y ∧ vs.length = 2 := by
  unfold swS at h
  split at h
  · cases h
  · rename_i hf
    simp only [nmOf] at h
    split at h
    · rename_i hl
      have hl' := Bool.and_eq_true_iff.mp hl
      split at h
      · rename_i hc
        simp only [Bool.and_eq_true, Bool.not_eq_true', decide_eq_true_eq, decide_eq_false_iff_not] at hc
        obtain ⟨⟨⟨h1, h2⟩, h3⟩, h4⟩ := hc
        refine ⟨?_, hl'.1, hl'.2, h2, h4⟩
        have kx : (env.kindOf x == some .local) = true := by rw [← locK_of he]; exact hl'.1
        have ky : (env.kindOf y == some .local) = true := by rw [← locK_of he]; exact hl'.2
        have hb : env.blockKind = .function := by unfold Env.blockKind; rw [he, hk]; rfl
        have hxy : (x == y) = false := beq_eq_false_iff_ne.mpr h2
        have hyx : (y == x) = false := beq_eq_false_iff_ne.mpr (Ne.symm h2)
        unfold swappedStores
        simp only [Expr.pos] at *
        simp [hb, h4, kx, ky, h1, noStar_any hs, List.filterMap, List.eraseDups_cons, hxy, hyx, hf, h3]
        simp_all
        intro v hv hm
        have := hs v hv
        cases v <;> first | (cases hm; done) | (simp [notStar] at this)
      · cases h
    · cases h
theorem sw_true3 {sc : Scope} {x y z : Str} {px py pz pt : Pos} {kt k2 : Nat} {pt2 : Pos} {vs : List Expr} {env : Env} (he : env.scope = sc) (hk : sc.kind = .function) (hs : vs.all notStar = true)
    (h : swS sc [.Name x px, .Name y py, .Name z pz] vs = some true) : swappedStores [.Tuple [.Name x px, .Name y py, .Name z pz] kt pt] (.Tuple vs k2 pt2) env = pure (some [x, y, z]) ∧ locK sc x = true ∧ locK sc y = true ∧ locK sc z = true ∧ x ≠ y ∧ x ≠ z ∧ y ≠ z ∧ vs.length = 3 := by
  unfold swS at h
  split at h
  · cases h
  · rename_i hf
    simp only [nmOf] at h
    split at h
    · rename_i hl
      have hl' := Bool.and_eq_true_iff.mp hl
      have hl'' := Bool.and_eq_true_iff.mp hl'.1
      split at h
      · rename_i hc
        simp only [Bool.and_eq_true, Bool.not_eq_true', decide_eq_true_eq, decide_eq_false_iff_not] at hc
        obtain ⟨⟨⟨⟨⟨⟨h1, h1b⟩, h2⟩, h2b⟩, h2c⟩, h3⟩, h4⟩ := hc
        refine ⟨?_, hl''.1, hl''.2, hl'.2, h2, h2b, h2c, h4⟩
        have kx : (env.kindOf x == some .local) = true := by rw [← locK_of he]; exact hl''.1
        have ky : (env.kindOf y == some .local) = true := by rw [← locK_of he]; exact hl''.2
        have kz : (env.kindOf z == some .local) = true := by rw [← locK_of he]; exact hl'.2
        have hb : env.blockKind = .function := by unfold Env.blockKind; rw [he, hk]; rfl
        have e1 : (x == y) = false := beq_eq_false_iff_ne.mpr h2
        have e2 : (y == x) = false := beq_eq_false_iff_ne.mpr (Ne.symm h2)
        have e3 : (x == z) = false := beq_eq_false_iff_ne.mpr h2b
        have e4 : (z == x) = false := beq_eq_false_iff_ne.mpr (Ne.symm h2b)
        have e5 : (y == z) = false := beq_eq_false_iff_ne.mpr h2c
        have e6 : (z == y) = false := beq_eq_false_iff_ne.mpr (Ne.symm h2c)
        unfold swappedStores
        simp only [Expr.pos] at *
        simp [hb, h4, kx, ky, kz, h1, h1b, noStar_any hs, List.filterMap, List.eraseDups_cons, e1, e2, e3, e4, e5, e6, hf, h3]
        simp_all
        rw [if_neg, if_pos (by rfl)]
        rintro ⟨v, hv, hm⟩
        have := hs v hv
        cases v <;> first | (cases hm; done) | (simp [notStar] at this)
      · cases h
    · cases h
theorem sw_false {sc : Scope} {ts vs : List Expr} {kt k2 : Nat} {pt pt2 : Pos} {env : Env} (he : env.scope = sc) (h : swS sc ts vs = some false) : swappedStores [.Tuple ts kt pt] (.Tuple vs k2 pt2) env = pure none := by
  unfold swS at h
  split at h
  · rename_i hf
    unfold swappedStores
    simp only [hf, if_true]
    repeat' split
    all_goals first | rfl | (simp_all; done)
  · rename_i hf
    split at h
    · rename_i a b
      split at h
      · rename_i x l y m ea eb
        split at h
        · split at h <;> cases h
        · rename_i hl
          cases a <;> first | (cases ea; done) | skip
          cases b <;> first | (cases eb; done) | skip
          cases ea
          cases eb
          rename_i px py
          rw [locK_of he, locK_of he] at hl
          unfold swappedStores
          simp only [Expr.pos]
          by_cases hx : (env.kindOf x == some .local) = true
          · by_cases hy : (env.kindOf y == some .local) = true
            · exact absurd (by rw [hx, hy]; rfl) hl
            · simp [hx, hy, List.filterMap]
              repeat' split
              all_goals first | rfl | (simp_all; done)
          · by_cases hy : (env.kindOf y == some .local) = true
            · simp [hx, hy, List.filterMap]
              repeat' split
              all_goals first | rfl | (simp_all; done)
            · simp [hx, hy, List.filterMap]
      · cases h
    · rename_i a b c
      split at h
      · rename_i x l y m z o ea eb ec
        split at h
        · split at h <;> cases h
        · rename_i hl
          cases a <;> first | (cases ea; done) | skip
          cases b <;> first | (cases eb; done) | skip
          cases c <;> first | (cases ec; done) | skip
          cases ea
          cases eb
          cases ec
          rw [locK_of he, locK_of he, locK_of he] at hl
          unfold swappedStores
          simp only [Expr.pos]
          by_cases hx : (env.kindOf x == some .local) = true <;> by_cases hy : (env.kindOf y == some .local) = true <;> by_cases hz : (env.kindOf z == some .local) = true
          · exact absurd (by rw [hx, hy, hz]; rfl) hl
          all_goals
            simp [hx, hy, hz, List.filterMap]
            repeat' split
            all_goals first | rfl | (simp_all; done)
      · cases h
    · split at h
      · rename_i hlen
        unfold swappedStores
        have : (ts.length == 2 || ts.length == 3) = false := by simp; omega
        simp [this]
      · cases h
end Rm

set_option Elab.async false
set_option linter.all false
set_option maxRecDepth 100000
set_option maxHeartbeats 8000000
/-! R15: statements: what the small language gives is what the code does. -/
namespace Rm
open PySem PySem.Spec L2

def ckNms (N : List Str) (sc : Scope) (st : Str → Bool) : List Nat → List Expr → Bool
  | [], [] => true
  | i :: is, .Name n _ :: ts => nmAt N i n && locC sc st n && ckNms N sc st is ts
  | _, _ => false
section
variable (T : Tab) (N : List Str)
mutual
def ckS : S → Scope → (Str → Bool) → Stmt → Bool
  | .asg t e => fun sc st x => match x with
    | .Assign [tg] v _ => ckG T N t sc st tg && notStar tg && ckE T N e sc st v && (!isTupX tg || !isTupX v)
    | _ => false
  | .par is es => fun sc st x => match x with
    | .Assign [.Tuple ts _ _] (.Tuple vs _ _) _ => (swS sc ts vs).isSome && ckNms N sc st is ts && nodupN is && ckEs T N es sc st vs && vs.all notStar && decide (is.length = vs.length) && decide (ts.length ≤ 30)
    | _ => false
  | .ret e => fun sc st x => match x with
    | .Return (some v) _ => ckE T N e sc st v
    | _ => false
  | .retN => fun sc st x => match x with
    | .Return none _ => true
    | _ => false
  | .iff c a b => fun sc st x => match x with
    | .If t p q _ => ckE T N c sc st t && ckSs a sc st p && ckSs b sc st q
    | _ => false
  | .for_ t it b => fun sc st x => match x with
    | .For tg iter body [] _ => ckG T N t sc st tg && ckI T N it sc st tg iter && ckSs b sc st body && notSet iter
    | _ => false
  | .whl c b => fun sc st x => match x with
    | .While t body [] _ => ckE T N c sc st t && ckSs b sc st body
    | _ => false
  | .ex e => fun sc st x => match x with
    | .Expr v _ => ckE T N e sc st v && notComp v
    | _ => false
  | .pas => fun _ _ x => match x with
    | .Pass _ => true
    | _ => false
  | .brk => fun _ _ x => match x with
    | .Break _ => true
    | _ => false
  | .cnt => fun _ _ x => match x with
    | .Continue _ => true
    | _ => false
  | .rai => fun _ _ _ => true
def ckSs : Ss → Scope → (Str → Bool) → List Stmt → Bool
  | .nil => fun _ _ xs => xs.isEmpty
  | .cons s r => fun sc st xs => match xs with
    | x :: xs => ckS s sc st x && ckSs r sc st xs
    | [] => false
end
end

/-- what a statement's end promises -/
def EndsOk (K : PySem.W.Frag) (J : List (Nat × Addr)) (O F : Fz) (H : Hp) (D : Ends) : Fl → Prop
  | .nx ρ' => ∀ σ' F' H', Stp O F H F' H' → Rel K J O F' H' σ' ρ' → D.nx σ' H'
  | .bk ρ' => ∀ σ' F' H', Stp O F H F' H' → Rel K J O F' H' σ' ρ' → D.bk σ' H'
  | .ct ρ' => ∀ σ' F' H', Stp O F H F' H' → Rel K J O F' H' σ' ρ' → D.ct σ' H'
  | .rt r ρ' => ∀ v σ' F' H', Stp O F H F' H' → Rel K J O F' H' σ' ρ' → RepR K O F' H' σ' ρ' r v → D.rt v H'
theorem EndsOk.after {K J O F H F1 H1 D fl} (e : EndsOk K J O F H D fl) (s : Stp O F H F1 H1) : EndsOk K J O F1 H1 D fl := by
  cases fl with
  | nx ρ' => exact fun σ' F' H' s' q => e σ' F' H' (s.trans s') q
  | bk ρ' => exact fun σ' F' H' s' q => e σ' F' H' (s.trans s') q
  | ct ρ' => exact fun σ' F' H' s' q => e σ' F' H' (s.trans s') q
  | rt r ρ' => exact fun v σ' F' H' s' q => e v σ' F' H' (s.trans s') q
def SndS (X : Cx) (J : List (Nat × Addr)) (x : Stmt) (m : SM) : Prop := ∀ (O F : Fz) (H : Hp) (σ : L2.St) (ρ : En) (fl : Fl) (D : Ends), Rel X.K J O F H σ ρ → m ρ = some fl → EndsOk X.K J O F H D fl → wS X x D σ H
def SndSs (X : Cx) (J : List (Nat × Addr)) (x : List Stmt) (m : SM) : Prop := ∀ (O F : Fz) (H : Hp) (σ : L2.St) (ρ : En) (fl : Fl) (D : Ends), Rel X.K J O F H σ ρ → m ρ = some fl → EndsOk X.K J O F H D fl → wSs X x D σ H
theorem bndS_some {α : Type} {m : M α} {f : α → SM} {ρ : En} {r : Fl} (h : bndS m f ρ = some r) : ∃ a ρ1, m ρ = some (a, ρ1) ∧ f a ρ1 = some r := by
  unfold bndS at h
  split at h
  · cases h
  · exact ⟨_, _, by assumption, h⟩
section
variable {X : Cx} {J : List (Nat × Addr)} {T : Tab} {G : Cfg} {N : List Str} {sc : Scope} {st : Str → Bool} {k : Nat}
theorem ckL {T : Tab} {N : List Str} {it : It} {sc : Scope} {st : Str → Bool} {v : Expr} (h : ckE T N (.listIt it) sc st v = true) : ∃ a b c d, v = .Call a b c d := by
  cases it with
  | range es =>
    cases es with
    | nil => cases h
    | star e r => cases h
    | cons e r =>
      cases r with
      | nil => cases v <;> first | cases h | exact ⟨_, _, _, _, rfl⟩
      | cons _ _ => cases h
      | star _ _ => cases h
  | of e => cases h
  | enum e k => cases h
  | zip a b => cases h
theorem notComp_or {T : Tab} {N : List Str} {e : E} {sc : Scope} {st : Str → Bool} {v : Expr} (h : ckE T N e sc st v = true) : notComp v = true ∨ ∃ own t it d el elt gens scope pos, e = .comp own t it d el ∧ v = .ListComp elt gens scope pos := by
  cases v <;> first | exact .inl rfl | skip
  · rename_i elt gens scope pos
    cases e <;> first | (cases h; done) | exact .inr ⟨_, _, _, _, _, _, _, _, _, rfl, rfl⟩ | (obtain ⟨_, _, _, _, z⟩ := ckL h; cases z)
  · cases e <;> first | (cases h; done) | (obtain ⟨_, _, _, _, z⟩ := ckL h; cases z)
  · cases e <;> first | (cases h; done) | (obtain ⟨_, _, _, _, z⟩ := ckL h; cases z)
theorem swaps_comp {elt : Expr} {gens : List Comprehension} {scope : Scope} {pos py : Pos} {y : Str} {l : Nat} {env : Env} : ∃ b : Bool, swapsWith (.ListComp elt gens scope pos) (some (.Name y py)) l env = pure b ∧ (b = true → env.scope.names.lookup y = some .local) := by
  refine ⟨_, rfl, fun h => ?_⟩
  simp only [Bool.and_eq_true] at h
  exact eq_of_beq h.1.1.2
/-- the value is stored at a name -/
theorem snd_asgName (c : Ctx X T G N sc st k) {i : Nat} {n : Str} {p pos : Pos} {e : E} {v : Expr} (h1 : nmAt N i n = true) (h2 : locC sc st n = true) (h3 : ckE T N e sc st v = true) : SndS X J (.Assign [.Name n p] v pos) (bndS (evE G e).v fun r => bndS (setVar i r) fun _ => nextS) := fun O F H σ ρ fl D q hm ke => by
  obtain ⟨r, ρ1, g1, g2⟩ := bndS_some hm
  obtain ⟨u, ρ2, g3, g4⟩ := bndS_some g2
  cases g4
  obtain ⟨rfl, hi, _⟩ := setVar_some g3
  have fin : ∀ v F' H', Stp O F H F' H' → Rel X.K J O F' H' σ ρ1 → RepR X.K O F' H' σ ρ1 r v → D.nx (σ.set i (some v)) H' := fun v F' H' s' q' r' => ke _ F' H' s' (q'.store r' hi)
  obtain ⟨a, b⟩ := loc_of h2
  have hN : X.N.Nodup := by rw [c.n]; exact c.nd
  have hi' : X.N[i]? = some n := by rw [c.n]; exact of_decide_eq_true h1
  have hx : Loc X.env.scope n := by rw [c.scE]; exact a
  have hf : X.fn n = true ∨ X.env.scope.names.lookup n = some .local := b.imp (c.stE n) fun b => by rw [c.scE]; exact b
  have val := (okE e c h3 (J := J)).v
  rcases notComp_or h3 with hc | ⟨own, t, it, d, el, elt, gens, scope, pp, rfl, rfl⟩
  · exact PSto (ps_set hN hi' hx pe_w (swaps_of hc) hf) (val O F H σ ρ r ρ1 _ q g1 fin)
  · obtain ⟨bb, e1, e2⟩ := swaps_comp (elt := elt) (gens := gens) (scope := scope) (pos := pp) (py := p) (y := n) (l := pos.line) (env := X.env)
    cases bb with
    | false => exact PSto (ps_set hN hi' hx pe_w e1 hf) (val O F H σ ρ r ρ1 _ q g1 fin)
    | true =>
      match gens, h3 with
      | [⟨tg, iter, ifs, as⟩], h3 =>
        simp only [ckE, Bool.and_eq_true] at h3
        obtain ⟨⟨⟨⟨⟨⟨⟨⟨⟨h1, h2⟩, h3⟩, h3b⟩, h4⟩, h5⟩, h6⟩, h7⟩, h8⟩, h9⟩ := h3
        have ea := of_decide_eq_true h1
        subst ea
        have hk := of_decide_eq_true h4
        have ho := of_decide_eq_true h2
        have he : ∀ s H C cl fp, SndE (blkX X scope s H C cl fp) J elt (evE G el) := fun s H C cl fp => okE el (c.blk hk s H C cl fp) h9
        have hg : ∀ s H C cl fp, SndG (blkX X scope s H C cl fp) J tg (tgS t) (evG G t) := fun s H C cl fp => okG t (c.blk hk s H C cl fp) h7
        have pE : ∀ s H C cl fp, PE (blkX X scope s H C cl fp) elt (teX X scope elt) := fun s H C cl fp => ⟨fun pins s' σ H' Q I h => h s H C cl fp pins s' I⟩
        have pG : ∀ s H C cl fp, PG (blkX X scope s H C cl fp) tg (tgX X scope tg) := fun s H C cl fp => ⟨fun pins s' σ H' v u Q I r h => h s H C cl fp pins s' u I r⟩
        rcases tst_of (J := J) (G := G) h8 (fun x hx s H C cl fp => okE d (c.blk hk s H C cl fp) hx) with ⟨rfl, ha⟩ | ⟨ii, rfl, ha, hT⟩
        · refine PSto (ps_setLc c.calm hN hi' (e2 rfl) e1 pi_w (blk_facts c h3) pG (fun _ _ _ _ _ => pts_nil) pE (folded_of h6)) ?_
          rw [ho]
          refine comp_rd c (okI it c h5) hg (subs_of h3b) (fun {O F H σ ρ ρ' b Q} q h k => ?_) he q g1 fin
          unfold testC at h
          rw [if_pos ha] at h
          cases h
          exact k F H .refl q
        · refine PSto (ps_setLc c.calm hN hi' (e2 rfl) e1 pi_w (blk_facts c h3) pG (fun s H C cl fp => pts_one (t := ttX X scope ii) ⟨fun pins s' σ H' Q I h => h s H C cl fp pins s' I⟩) pE (folded_of h6)) ?_
          rw [ho]
          refine comp_rd c (okI it c h5) hg (subs_of h3b) (fun {O F H σ ρ ρ' b Q} q h k => ?_) he q g1 fin
          unfold testC at h
          rw [if_neg (by rw [ha]; exact Bool.false_ne_true)] at h
          intro s H0 C cl fp
          exact (hT s H0 C cl fp).t O F H σ ρ b ρ' Q q h k
theorem snd_asg {tg v : Expr} {pos : Pos} {sl : List Nat} {m : M R} {mt : D → M Unit} (hv : SndV X J v m) (hg : SndG X J tg sl mt) (hs : notStar tg = true) (hsw : swapsWithSole [tg] v pos.line X.env = pure false) (hst : swappedStores [tg] v X.env = pure none) :
    SndS X J (.Assign [tg] v pos) (bndS m fun r => bndS (mt r.toD) fun _ => nextS) := fun O F H σ ρ fl D q hm ke => by
  obtain ⟨r, ρ1, g1, g2⟩ := bndS_some hm
  obtain ⟨u, ρ2, g3, g4⟩ := bndS_some g2
  cases g4
  exact PSto (ps_asg pe_w pg_w hsw hst (each_one hs)) (hv.toD q g1 fun w F1 H1 s1 q1 r1 => hg O F1 H1 σ ρ1 _ w u ρ2 _ q1 r1 g3 fun σ' F2 H2 s2 q2 _ _ => ke σ' F2 H2 (s1.trans s2) q2)

/-! several names at once -/
def RepRs (K : PySem.W.Frag) (F : Fz) (H : Hp) : List R → List V → List Addr → Prop
  | [], vs, al => vs = [] ∧ al = []
  | .d d :: rs, vs, al => ∃ v r, vs = v :: r ∧ Rep K F H d v ∧ RepRs K F H rs r al
  | .fr xs :: rs, vs, al => ∃ a r ar ws, vs = .ref a :: r ∧ al = a :: ar ∧ H a = some (.lst ws) ∧ xs.length ≤ SZ ∧ RepL K F H xs ws ∧ RepRs K F H rs r ar
theorem RepRs.le {K F H F' H'} : ∀ {rs : List R} {vs : List V} {al : List Addr}, Le F H F' H' → (∀ a ∈ al, H' a = H a) → RepRs K F H rs vs al → RepRs K F' H' rs vs al
  | [], _, _, _, _, h => h
  | .d d :: rs, _, _, l, e, ⟨v, r, h1, h2, h3⟩ => ⟨v, r, h1, h2.le l, RepRs.le l e h3⟩
  | .fr xs :: rs, _, _, l, e, ⟨a, r, ar, ws, h1, h2, h3, h4, h5, h6⟩ => by
    subst h2
    exact ⟨a, r, ar, ws, h1, rfl, (e a List.mem_cons_self).trans h3, h4, h5.le l, RepRs.le l (fun b hb => e b (List.mem_cons_of_mem _ hb)) h6⟩
theorem sndRs (c : Ctx X T G N sc st k) : ∀ (es : Es) {xs : List Expr}, ckEs T N es sc st xs = true → xs.all notStar = true → ∀ (O F : Fz) (H : Hp) (σ : L2.St) (ρ : En) (rs : List R) (ρ' : En) (Q : List V → Hp → Prop), Rel X.K J O F H σ ρ → evRs G es ρ = some (rs, ρ') →
    (∀ vs al F' H', Stp O F H F' H' → Rel X.K J (fun a => O a ∨ a ∈ al) F' H' σ ρ' → al.Nodup → (∀ a ∈ al, ¬ O a) → RepRs X.K F' H' rs vs al → Q vs H') → wA X xs σ H Q
  | .nil, xs, h, hs, O, F, H, σ, ρ, rs, ρ', Q, q, hm, kq => by
    cases xs with
    | cons _ _ => cases h
    | nil =>
      cases hm
      exact PAto pa_nil (kq [] [] F H .refl (q.subO fun a z => z.elim id fun z => by cases z) List.nodup_nil (fun a z => by cases z) ⟨rfl, rfl⟩)
  | .cons e r, xs, h, hs, O, F, H, σ, ρ, rs, ρ', Q, q, hm, kq => by
    cases xs with
    | nil => cases h
    | cons x xs =>
      have h := Bool.and_eq_true_iff.mp h
      have hs := Bool.and_eq_true_iff.mp (show (notStar x && xs.all notStar) = true from hs)
      obtain ⟨r1, ρ1, g1, g2⟩ := bnd_some hm
      obtain ⟨rs1, ρ2, g3, g4⟩ := bnd_some g2
      cases g4
      refine PAto (pa_cons pe_w pa_w (star_of hs.1)) ((okE e c h.1 (J := J)).v O F H σ ρ r1 ρ1 _ q g1 fun v F1 H1 s1 q1 rr => ?_)
      cases r1 with
      | d d =>
        exact sndRs c r h.2 hs.2 O F1 H1 σ ρ1 rs1 _ _ q1 g3 fun vs al F2 H2 s2 q2 nd no rp => kq _ al F2 H2 (s1.trans s2) q2 nd no ⟨v, vs, rfl, Rep.le s2.le rr, rp⟩
      | fr zs =>
        obtain ⟨a, rfl, o, nj⟩ := rr
        obtain ⟨ws, ha, rl⟩ := o.at_
        have q1' := q1.addO (b := a) (by rw [ha]; intro z; cases z) o.nf nj
        refine sndRs c r h.2 hs.2 _ F1 H1 σ ρ1 rs1 _ _ q1' g3 fun vs al F2 H2 s2 q2 nd no rp => ?_
        have na : a ∉ al := fun z => no a z (.inr rfl)
        refine kq _ (a :: al) F2 H2 (s1.trans ⟨fun b hb => s2.keep b (hb.imp id .inl), s2.sub⟩) (q2.subO fun b hb => ?_) (List.nodup_cons.mpr ⟨na, nd⟩) (fun b hb => ?_) ⟨a, vs, al, ws, rfl, rfl, (s2.keep a (.inr (.inr rfl))).trans ha, o.ln, rl.le s2.le, rp⟩
        · rcases hb with hb | hb
          · exact .inl (.inl hb)
          · rcases List.mem_cons.mp hb with hb | hb
            · exact .inl (.inr hb)
            · exact .inr hb
        · rcases List.mem_cons.mp hb with rfl | hb
          · exact o.no
          · exact fun z => no b hb (.inl z)
  | .star e r, xs, h, hs, O, F, H, σ, ρ, rs, ρ', Q, q, hm, kq => by cases h
def setAll : List Nat → List V → L2.St → L2.St
  | i :: is, v :: vs, σ => setAll is vs (σ.set i (some v))
  | _, _, σ => σ
theorem setVars_ok {K : PySem.W.Frag} : ∀ {is : List Nat} {rs : List R} {vs : List V} {al : List Addr} {O F : Fz} {H : Hp} {σ : L2.St} {ρ ρ' : En} {u : Unit}, Rel K J (fun a => O a ∨ a ∈ al) F H σ ρ → al.Nodup → (∀ a ∈ al, ¬ O a) → RepRs K F H rs vs al → setVars is rs ρ = some (u, ρ') →
    Rel K J O F H (setAll is vs σ) ρ' ∧ is.length = vs.length
  | [], [], vs, al, O, F, H, σ, ρ, ρ', u, q, nd, no, rp, h => by
    cases h
    rw [rp.1]
    exact ⟨q.subO fun a z => .inl z, rfl⟩
  | [], _ :: _, vs, al, O, F, H, σ, ρ, ρ', u, q, nd, no, rp, h => by cases h
  | _ :: _, [], vs, al, O, F, H, σ, ρ, ρ', u, q, nd, no, rp, h => by cases h
  | i :: is, .d d :: rs, vs, al, O, F, H, σ, ρ, ρ', u, q, nd, no, ⟨v, r, e, rd, rp⟩, h => by
    obtain ⟨u1, ρ1, h1, h2⟩ := bnd_some (show bnd (setVar i _) _ ρ = _ from h)
    obtain ⟨rfl, hi, _⟩ := setVar_some h1
    subst e
    have q1 := q.store (i := i) (r := .d d) (v := v) rd hi
    obtain ⟨q2, hl⟩ := setVars_ok q1 nd no rp h2
    exact ⟨q2, by rw [List.length_cons, List.length_cons, hl]⟩
  | i :: is, .fr xs :: rs, vs, al, O, F, H, σ, ρ, ρ', u, q, nd, no, ⟨a, r, ar, ws, e, ea, ha, hz, rl, rp⟩, h => by
    obtain ⟨u1, ρ1, h1, h2⟩ := bnd_some (show bnd (setVar i _) _ ρ = _ from h)
    obtain ⟨rfl, hi, _⟩ := setVar_some h1
    subst e ea
    have nd' := List.nodup_cons.mp nd
    have q0 : Rel K J (fun b => O b ∨ b ∈ ar) F H σ ρ := q.subO fun b hb => hb.imp id fun z => List.mem_cons_of_mem _ z
    have rf : RepR K (fun b => O b ∨ b ∈ ar) F H σ ρ (.fr xs) (.ref a) := by
      refine ⟨a, rfl, ⟨q.dj a (.inr List.mem_cons_self), fun z => ?_, hz, ws, ha, rl⟩, fun j oj ej => ?_⟩
      · rcases z with z | z
        · exact no a List.mem_cons_self z
        · exact nd'.1 z
      · obtain ⟨b, ys, e1, o, _⟩ := q.ownA oj
        rw [ej] at e1; cases e1
        exact o.no (.inr List.mem_cons_self)
    have q1 := q0.store (i := i) rf hi
    obtain ⟨q2, hl⟩ := setVars_ok q1 nd'.2 (fun b hb => no b (List.mem_cons_of_mem _ hb)) rp h2
    exact ⟨q2, by rw [List.length_cons, List.length_cons, hl]⟩
/-- names one behind another -/
def gNames : List Nat → TGs
  | [] => gNil
  | i :: is => gCons (gName i) (gNames is)
theorem pgs_names (c : Ctx X T G N sc st k) : ∀ {is : List Nat} {ts : List Expr}, ckNms N sc st is ts = true → PGs X ts (gNames is) ∧ is.length = ts.length ∧ ts.all notStar = true
  | [], [], _ => ⟨pgs_nil, rfl, rfl⟩
  | [], _ :: _, h => by cases h
  | i :: is, [], h => by cases h
  | i :: is, t :: ts, h => by
    cases t <;> first | (cases h; done) | skip
    have h := Bool.and_eq_true_iff.mp h
    have h1 := Bool.and_eq_true_iff.mp h.1
    obtain ⟨a, b, d⟩ := pgs_names c h.2
    exact ⟨pgs_cons (pg_slot c h1.1 h1.2) a rfl, by rw [List.length_cons, List.length_cons, b], by rw [List.all_cons, d]; rfl⟩
theorem gNames_ok : ∀ {is : List Nat} {vs : List V} {σ : L2.St} {H : Hp} {Q : L2.St → Hp → Prop}, is.length = vs.length → Q (setAll is vs σ) H → gNames is vs σ H Q
  | [], [], _, _, _, _, h => ⟨rfl, h⟩
  | [], _ :: _, _, _, _, e, _ => by simp at e
  | _ :: _, [], _, _, _, e, _ => by simp at e
  | i :: is, v :: vs, σ, H, Q, e, h => ⟨v, vs, rfl, gNames_ok (by simpa using e) h⟩
theorem nmOf_some {e : Expr} {x : Str} {l : Nat} (h : nmOf e = some (x, l)) : ∃ p, e = .Name x p := by
  cases e <;> first | (cases h; done) | (cases h; exact ⟨_, rfl⟩)
theorem sw_shape {sc : Scope} {ts vs : List Expr} (h : swS sc ts vs = some true) : (∃ x px y py, ts = [.Name x px, .Name y py]) ∨ ∃ x px y py z pz, ts = [.Name x px, .Name y py, .Name z pz] := by
  unfold swS at h
  split at h
  · cases h
  · split at h
    · rename_i a b
      split at h
      · rename_i x l y m ea eb
        obtain ⟨p, rfl⟩ := nmOf_some ea
        obtain ⟨p', rfl⟩ := nmOf_some eb
        exact .inl ⟨_, _, _, _, rfl⟩
      · cases h
    · rename_i a b d
      split at h
      · rename_i x l y m z o ea eb ec
        obtain ⟨p, rfl⟩ := nmOf_some ea
        obtain ⟨p', rfl⟩ := nmOf_some eb
        obtain ⟨p'', rfl⟩ := nmOf_some ec
        exact .inr ⟨_, _, _, _, _, _, rfl⟩
      · cases h
    · split at h <;> cases h
theorem lk_of (c : Ctx X T G N sc st k) {x : Str} (h : locK sc x = true) : X.env.scope.names.lookup x = some .local := by
  rw [c.scE]
  unfold locK at h
  split at h
  · assumption
  · cases h
theorem snd_par (c : Ctx X T G N sc st k) {is : List Nat} {es : Es} {ts vs : List Expr} {kt k2 : Nat} {pt pt2 pos : Pos} (h1 : (swS sc ts vs).isSome = true) (h2 : ckNms N sc st is ts = true) (h3 : nodupN is = true) (h4 : ckEs T N es sc st vs = true) (h5 : vs.all notStar = true) (h6 : ts.length ≤ 30) :
    SndS X J (.Assign [.Tuple ts kt pt] (.Tuple vs k2 pt2) pos) (bndS (evRs G es) fun rs => bndS (setVars is rs) fun _ => nextS) := fun O F H σ ρ fl D q hm ke => by
  obtain ⟨rs, ρ1, g1, g2⟩ := bndS_some hm
  obtain ⟨u, ρ2, g3, g4⟩ := bndS_some g2
  cases g4
  obtain ⟨pn, ln, nst⟩ := pgs_names c h2
  have fin : wA X vs σ H fun ws H' => is.length = ws.length ∧ D.nx (setAll is ws σ) H' ∧ ∃ F', Stp O F H F' H' := sndRs c es h4 h5 O F H σ ρ rs ρ1 _ q g1 fun ws al F' H' s' q' nd no rp => by
    obtain ⟨q2, hl⟩ := setVars_ok q' nd no rp g3
    exact ⟨hl, ke _ F' H' s' q2, F', s'⟩
  have mono : ∀ {Q Q' : List V → Hp → Prop}, wA X vs σ H Q → (∀ ws H', Q ws H' → Q' ws H') → wA X vs σ H Q' := fun {Q Q'} h hq pos pins s I => thn (h pos pins s I) fun us s' ⟨ws, H', I', r', q'⟩ => ⟨ws, H', I', r', hq ws H' q'⟩
  have hN : X.N.Nodup := by rw [c.n]; exact c.nd
  cases e : swS sc ts vs with
  | none => rw [e] at h1; cases h1
  | some b =>
    cases b with
    | false =>
      refine PSto (ps_asg (pe_tup pa_w) (pg_tup (n := ts.length) c.calm pn assignEach_len (assignEach_no nst)) rfl (sw_false c.scE e) rfl) ?_
      refine sndRs c es h4 h5 O F H σ ρ rs ρ1 _ q g1 fun ws al F' H' s' q' nd no rp => ⟨?_, fun l hl => ?_⟩
      · obtain ⟨_, hl⟩ := setVars_ok q' nd no rp g3
        rw [← hl, ln]
        rw [sz_eq]; exact Nat.le_trans h6 (by decide)
      · have lq : Le F' H' F' (upd H' l (.tup ws)) := ⟨fun a h => upd_of_none hl (q'.tr a (.inl h)), fun _ h => h⟩
        have q3 := q'.grow lq (fun a h => upd_of_none hl h) fun a h => .inl h
        have rp3 : RepRs X.K F' (upd H' l (.tup ws)) rs ws al := rp.le lq fun a ha => upd_of_none hl (q'.tr a (.inr (.inr ha)))
        obtain ⟨q2, hlen⟩ := setVars_ok q3 nd no rp3 g3
        refine ⟨l, ws, rfl, SqT.of upd_same, by rw [← hlen, ln], gNames_ok hlen (ke _ F' _ (s'.trans ⟨fun a h => upd_of_none hl (q'.tr a (h.imp id .inl)), fun _ h => h⟩) q2)⟩
    | true =>
      rcases sw_shape e with ⟨x, px, y, py, rfl⟩ | ⟨x, px, y, py, z, pz, rfl⟩
      · obtain ⟨i, j, rfl⟩ : ∃ i j, is = [i, j] := by
          match is, ln with
          | [i, j], _ => exact ⟨i, j, rfl⟩
        obtain ⟨e1, l1, l2, ne, lv⟩ := sw_true2 (kt := kt) (k2 := k2) (pt := pt) (pt2 := pt2) c.scE c.kd h5 e
        have h2 := Bool.and_eq_true_iff.mp h2
        have h2a := Bool.and_eq_true_iff.mp h2.1
        have h2b := Bool.and_eq_true_iff.mp (Bool.and_eq_true_iff.mp h2.2).1
        have nij : i ≠ j := fun z => (nodupN_cons h3).1 (by rw [z]; exact List.mem_singleton.mpr rfl)
        match vs, lv with
        | [a, b], _ =>
          refine PSto (ps_par c.calm hN (by rw [c.n]; exact of_decide_eq_true h2a.1) (by rw [c.n]; exact of_decide_eq_true h2b.1) nij (lk_of c l1) (lk_of c l2) pa_w e1) ?_
          refine mono fin fun ws H' ⟨hl, hq, _⟩ => ?_
          match ws, hl with
          | [v, w], _ => exact ⟨v, w, rfl, hq⟩
      · obtain ⟨i, j, l, rfl⟩ : ∃ i j l, is = [i, j, l] := by
          match is, ln with
          | [i, j, l], _ => exact ⟨i, j, l, rfl⟩
        obtain ⟨e1, l1, l2, l3, ne1, ne2, ne3, lv⟩ := sw_true3 (kt := kt) (k2 := k2) (pt := pt) (pt2 := pt2) c.scE c.kd h5 e
        have h2 := Bool.and_eq_true_iff.mp h2
        have h2a := Bool.and_eq_true_iff.mp h2.1
        have h2' := Bool.and_eq_true_iff.mp h2.2
        have h2b := Bool.and_eq_true_iff.mp h2'.1
        have h2c := Bool.and_eq_true_iff.mp (Bool.and_eq_true_iff.mp h2'.2).1
        have n1 := nodupN_cons h3
        have n2 := nodupN_cons n1.2
        have nij : i ≠ j := fun z => n1.1 (by rw [z]; exact List.mem_cons_self)
        have nil : i ≠ l := fun z => n1.1 (by rw [z]; exact List.mem_cons_of_mem _ List.mem_cons_self)
        have njl : j ≠ l := fun z => n2.1 (by rw [z]; exact List.mem_cons_self)
        match vs, lv with
        | [a, b, d], _ =>
          refine PSto (ps_par3 c.calm hN (by rw [c.n]; exact of_decide_eq_true h2a.1) (by rw [c.n]; exact of_decide_eq_true h2b.1) (by rw [c.n]; exact of_decide_eq_true h2c.1) nij nil njl (lk_of c l1) (lk_of c l2) (lk_of c l3) pa_w e1) ?_
          refine mono fin fun ws H' ⟨hl, hq, _⟩ => ?_
          match ws, hl with
          | [v, w, u], _ => exact ⟨v, w, u, rfl, hq⟩
end
end Rm

set_option Elab.async false
set_option linter.all false
set_option maxRecDepth 100000
set_option maxHeartbeats 8000000
/-! R16: every checked statement; every function of the table. -/
namespace Rm
open PySem PySem.Spec L2

section
variable {J : List (Nat × Addr)} {T : Tab} {G : Cfg} {N : List Str} {k : Nat}
theorem Rel.drop {K : PySem.W.Frag} {O F : Fz} {H : Hp} {σ : L2.St} {ρ : En} (q : Rel K J O F H σ ρ) (i : Nat) : Rel K J O F H σ (ρ.set i .un) := by
  have low : ∀ {j}, ownAt (ρ.set i .un) j → ownAt ρ j := fun {j} h => by
    rcases own_set h with ⟨_, h⟩ | h
    · cases h
    · exact h.2
  refine ⟨by rw [List.length_set]; exact q.len, q.tr, q.dj, fun j s e => ?_, fun a b c hab oa ob => q.sep a b c hab (low oa) (low ob)⟩
  rcases getElem?_set_cases e with ⟨_, rfl⟩ | ⟨_, e⟩
  · trivial
  · exact q.slot j s e
theorem okRet {X : Cx} {sc : Scope} {st : Str → Bool} (c : Ctx X T G N sc st k) {e : E} {x : Expr} (h : ckE T N e sc st x = true) : SndV X J x (retV (evE G e)) := by
  have he := okE (J := J) e c h
  unfold retV
  cases ev : (evE G e).vr with
  | none => exact he.v
  | some i =>
    intro O F H σ ρ r ρ' Q q hm kq
    cases es : ρ[i]? with
    | none => simp only [es] at hm; exact he.v O F H σ ρ r ρ' Q q hm kq
    | some s =>
      cases s with
      | un => simp only [es] at hm; exact he.v O F H σ ρ r ρ' Q q hm kq
      | d _ => simp only [es] at hm; exact he.v O F H σ ρ r ρ' Q q hm kq
      | io _ => simp only [es] at hm; exact he.v O F H σ ρ r ρ' Q q hm kq
      | own xs =>
        simp only [es, Option.some.injEq, Prod.mk.injEq] at hm
        obtain ⟨rfl, rfl⟩ := hm
        obtain ⟨a, e1, o⟩ := q.slot i _ es
        refine he.vr i ev σ H Q _ e1 (kq _ F H .refl (q.drop i) ⟨a, rfl, o, fun j oj ej => ?_⟩)
        rcases own_set oj with ⟨_, z⟩ | ⟨z1, z2⟩
        · cases z
        · exact q.sep i j a z1 ⟨_, es, rfl⟩ z2 e1 ej
theorem forL_ok {X : Cx} {tg iter : Expr} {body : List Stmt} {sl : List Nat} {pos : Pos} {mi : M (List D)} {mt : D → M Unit} {mb : SM} (hp : PassesOwn (model X.prog X.w) X.A X.env X.xe) (hc : X.calm = true) (hs : notSet iter = true)
    (hi : SndI X J tg iter mi) (hg : SndG X J tg sl mt) (hb : SndSs X J body mb) : SndS X J (.For tg iter body [] pos) (bndS mi fun ds => forL (fun d => bndS (mt d) fun _ => mb) ds) := fun O F H σ ρ fl D q hm ke => by
  obtain ⟨ds, ρ1, g1, g2⟩ := bndS_some hm
  refine PSto (ps_for hp hc pi_w pg_w pss_w (folded_of hs)) (hi O F H σ ρ ds ρ1 _ q g1 fun J' F1 H1 s1 q1 yl => ?_)
  obtain ⟨Gd, Y, w, hG, hY⟩ := yl.ex
  refine for_it w (fun i σ' H' => ∃ F' ρi, Stp O F1 H1 F' H' ∧ Rel X.K J O F' H' σ' ρi ∧ forL (fun d => bndS (mt d) fun _ => mb) (ds.drop i) ρi = some fl) ⟨F1, ρ1, .refl, q1, g2⟩ ?_ ?_ ?_
  · rintro i σ' H' _ ⟨F', ρi, sI, _⟩
    exact hG F' H' sI.le
  · rintro i x σ' H' H'' hin ⟨F', ρi, sI, qI, cI⟩ yx
    obtain ⟨F2, p2⟩ := hY i F' H' x H'' _ sI.le (fun a h => qI.tr a (.inl h)) yx (List.getElem?_eq_getElem hin)
    obtain ⟨s2, q2, r2⟩ := qI.pure p2
    have r2 : Rep X.K F2 H'' ds[i] x := r2
    rw [List.drop_eq_getElem_cons hin] at cI
    have key : ∀ flb, (bndS (mt ds[i]) fun _ => mb) ρi = some flb → (match some flb with
        | some (.nx ρ') => forL (fun d => bndS (mt d) fun _ => mb) (ds.drop (i + 1)) ρ'
        | some (.ct ρ') => forL (fun d => bndS (mt d) fun _ => mb) (ds.drop (i + 1)) ρ'
        | some (.bk ρ') => some (.nx ρ')
        | some (.rt r ρ') => some (.rt r ρ')
        | none => none) = some fl → wG X tg x σ' H'' fun σ2 H2 => wSs X body { D with nx := fun σ' H' => ∃ F' ρi, Stp O F1 H1 F' H' ∧ Rel X.K J O F' H' σ' ρi ∧ forL (fun d => bndS (mt d) fun _ => mb) (ds.drop (i + 1)) ρi = some fl, ct := fun σ' H' => ∃ F' ρi, Stp O F1 H1 F' H' ∧ Rel X.K J O F' H' σ' ρi ∧ forL (fun d => bndS (mt d) fun _ => mb) (ds.drop (i + 1)) ρi = some fl, bk := D.nx } σ2 H2 := fun flb h1 h2 => by
      obtain ⟨u, ρ2, h3, h4⟩ := bndS_some h1
      refine hg O F2 H'' σ' ρi ds[i] x u ρ2 _ q2 r2 h3 fun σ3 F3 H3 s3 q3 _ _ => hb O F3 H3 σ3 ρ2 flb _ q3 h4 ?_
      have s13 := (sI.trans s2).trans s3
      cases flb with
      | nx ρ' => exact fun σ4 F4 H4 s4 q4 => ⟨F4, ρ', s13.trans s4, q4, h2⟩
      | ct ρ' => exact fun σ4 F4 H4 s4 q4 => ⟨F4, ρ', s13.trans s4, q4, h2⟩
      | bk ρ' =>
        cases h2
        exact fun σ4 F4 H4 s4 q4 => ke σ4 F4 H4 ((s1.trans s13).trans s4) q4
      | rt r ρ' =>
        cases h2
        exact fun v σ4 F4 H4 s4 q4 r4 => ke v σ4 F4 H4 ((s1.trans s13).trans s4) q4 r4
    cases hf : (bndS (mt ds[i]) fun _ => mb) ρi with
    | none => simp only [forL, hf] at cI; cases cI
    | some flb =>
      refine key flb hf ?_
      simp only [forL, hf] at cI
      exact cI
  · rintro σ' H' ⟨F', ρi, sI, qI, cI⟩
    rw [List.drop_length] at cI
    cases cI
    exact ke σ' F' H' (s1.trans sI) qI
theorem while_ok {X : Cx} {t : Expr} {body : List Stmt} {pos : Pos} {mt : M Bool} {mb : SM} (hp : PassesOwn (model X.prog X.w) X.A X.env X.xe) (ht : SndT X J t mt) (hb : SndSs X J body mb) : SndS X J (.While t body [] pos) (whileS mt mb) := fun O F H σ ρ fl D q hm ke => by
  unfold whileS at hm
  split at hm
  · rename_i hex
    cases hm
    have hn := hex.choose_spec.choose_spec
    refine PSto (ps_while hp pt_w pss_w) ⟨fun m σ' H' => ∃ F' ρ', Stp O F H F' H' ∧ Rel X.K J O F' H' σ' ρ' ∧ whileN mt mb m ρ' = some hex.choose_spec.choose, ⟨_, F, ρ, .refl, q, hn⟩, ?_⟩
    generalize hex.choose_spec.choose = fl at ke ⊢
    rintro m σ' H' ⟨F', ρ', sI, qI, cI⟩
    cases m with
    | zero => cases cI
    | succ m =>
      obtain ⟨b, ρ1, g1, g2⟩ := bndS_some cI
      refine ht O F' H' σ' ρ' b ρ1 _ qI g1 fun F2 H2 s2 q2 => ?_
      cases b with
      | false =>
        rw [if_neg Bool.false_ne_true]
        cases g2
        exact ke σ' F2 H2 (sI.trans s2) q2
      | true =>
        rw [if_pos rfl]
        refine ⟨fun σ3 H3 => ∃ F3 ρ3, Stp O F H F3 H3 ∧ Rel X.K J O F3 H3 σ3 ρ3 ∧ whileN mt mb m ρ3 = some fl, fun σ3 H3 z => ⟨m, Nat.lt_succ_self m, z⟩, ?_⟩
        have g2 : (match mb ρ1 with
          | some (.nx ρ') => whileN mt mb m ρ'
          | some (.ct ρ') => whileN mt mb m ρ'
          | some (.bk ρ') => some (.nx ρ')
          | some (.rt r ρ') => some (.rt r ρ')
          | none => none) = some fl := g2
        cases hf : mb ρ1 with
        | none => rw [hf] at g2; cases g2
        | some flb =>
          rw [hf] at g2
          refine hb O F2 H2 σ' ρ1 flb _ q2 hf ?_
          have s12 := sI.trans s2
          cases flb with
          | nx ρ4 => exact fun σ4 F4 H4 s4 q4 => ⟨F4, ρ4, s12.trans s4, q4, g2⟩
          | ct ρ4 => exact fun σ4 F4 H4 s4 q4 => ⟨F4, ρ4, s12.trans s4, q4, g2⟩
          | bk ρ4 =>
            cases g2
            exact fun σ4 F4 H4 s4 q4 => ke σ4 F4 H4 (s12.trans s4) q4
          | rt r ρ4 =>
            cases g2
            exact fun v σ4 F4 H4 s4 q4 r4 => ke v σ4 F4 H4 (s12.trans s4) q4 r4
  · cases hm
theorem passes_of {X : Cx} {sc : Scope} {st : Str → Bool} (c : Ctx X T G N sc st k) : PassesOwn (model X.prog X.w) X.A X.env X.xe := by
  rw [c.xe]
  exact .never
mutual
theorem okSt : ∀ (s : S) {X : Cx} {sc : Scope} {st : Str → Bool}, Ctx X T G N sc st k → ∀ {x : Stmt}, ckS T N s sc st x = true → SndS X J x (evS G s)
  | .asg t e, X, sc, st, c, x, h => by
    cases x <;> first | cases h | skip
    rename_i tgs v ps
    match tgs, h with
    | [tg], h =>
      simp only [ckS, Bool.and_eq_true] at h
      obtain ⟨⟨⟨h1, h2⟩, h3⟩, h4⟩ := h
      have gen : (isTupX tg = true ∨ notComp v = true) → SndS X J (.Assign [tg] v ps) (bndS (evE G e).v fun r => bndS (evG G t r.toD) fun _ => nextS) := fun hh => by
        refine snd_asg (okE e c h3).v (okG t c h1) h2 (sole_none hh.symm) (sw_none ?_)
        rcases Bool.or_eq_true_iff.mp h4 with z | z
        · exact .inl (by simpa using z)
        · exact .inr (by simpa using z)
      cases t with
      | name i =>
        cases tg <;> first | cases h1 | skip
        have h1 := Bool.and_eq_true_iff.mp h1
        exact snd_asgName c h1.1 h1.2 h3
      | tup ts =>
        cases tg <;> first | cases h1 | skip
        exact gen (.inl rfl)
      | sub i e' =>
        cases tg <;> first | cases h1 | skip
        rename_i o sl p2
        refine snd_asg (okE e c h3).v (okG _ c h1) h2 ?_ (sw_none (.inl rfl))
        cases v <;> rfl
  | .par is es, X, sc, st, c, x, h => by
    cases x <;> first | cases h | skip
    rename_i tgs v ps
    match tgs, v, h with
    | [.Tuple ts kt pt], .Tuple vs k2 pt2, h =>
      simp only [ckS, Bool.and_eq_true] at h
      obtain ⟨⟨⟨⟨⟨⟨h1, h2⟩, h3⟩, h4⟩, h5⟩, h6⟩, h7⟩ := h
      exact snd_par c h1 h2 h3 h4 h5 (of_decide_eq_true h7)
  | .ret e, X, sc, st, c, x, h => by
    cases x <;> first | cases h | skip
    rename_i v ps
    cases v <;> first | cases h | skip
    exact fun O F H σ ρ fl D q hm ke => by
      obtain ⟨r, ρ1, g1, g2⟩ := bndS_some hm
      cases g2
      exact PSto (ps_ret pe_w) (okRet c h O F H σ ρ r ρ1 _ q g1 fun v F' H' s' q' r' => ke v σ F' H' s' q' r')
  | .retN, X, sc, st, c, x, h => by
    cases x <;> first | cases h | skip
    rename_i v ps
    cases v <;> first | cases h | skip
    exact fun O F H σ ρ fl D q hm ke => by
      cases hm
      exact PSto ps_retN (ke .non σ F H .refl q rfl)
  | .iff t a b, X, sc, st, c, x, h => by
    cases x <;> first | cases h | skip
    simp only [ckS, Bool.and_eq_true] at h
    have ht := (okE (J := J) t c h.1.1).t
    have ha := okSts a c h.1.2
    have hb := okSts b c h.2
    exact fun O F H σ ρ fl D q hm ke => by
      obtain ⟨r, ρ1, g1, g2⟩ := bndS_some hm
      refine PSto (ps_if pt_w pss_w pss_w) (ht O F H σ ρ r ρ1 _ q g1 fun F1 H1 s1 q1 => ?_)
      cases r with
      | true =>
        rw [if_pos rfl]
        exact ha O F1 H1 σ ρ1 fl D q1 g2 (ke.after s1)
      | false =>
        rw [if_neg Bool.false_ne_true]
        exact hb O F1 H1 σ ρ1 fl D q1 g2 (ke.after s1)
  | .for_ t it b, X, sc, st, c, x, h => by
    cases x <;> first | cases h | skip
    rename_i tg iter body orelse ps
    cases orelse <;> first | cases h | skip
    simp only [ckS, Bool.and_eq_true] at h
    exact forL_ok (passes_of c) c.calm h.2 (okI it c h.1.1.2) (okG t c h.1.1.1) (okSts b c h.1.2)
  | .whl t b, X, sc, st, c, x, h => by
    cases x <;> first | cases h | skip
    rename_i tst body orelse ps
    cases orelse <;> first | cases h | skip
    have h := Bool.and_eq_true_iff.mp h
    exact while_ok (passes_of c) (okE (J := J) t c h.1).t (okSts b c h.2)
  | .ex e, X, sc, st, c, x, h => by
    cases x <;> first | cases h | skip
    have h := Bool.and_eq_true_iff.mp h
    have he := (okE (J := J) e c h.1).v
    exact fun O F H σ ρ fl D q hm ke => by
      obtain ⟨r, ρ1, g1, g2⟩ := bndS_some hm
      cases g2
      exact PSto (ps_expr pe_w (swaps_of h.2)) (he O F H σ ρ r ρ1 _ q g1 fun v F' H' s' q' _ => ke σ F' H' s' q')
  | .pas, X, sc, st, c, x, h => by
    cases x <;> first | cases h | skip
    exact fun O F H σ ρ fl D q hm ke => by
      cases hm
      exact PSto ps_pass (ke σ F H .refl q)
  | .brk, X, sc, st, c, x, h => by
    cases x <;> first | cases h | skip
    exact fun O F H σ ρ fl D q hm ke => by
      cases hm
      exact PSto ps_break (ke σ F H .refl q)
  | .cnt, X, sc, st, c, x, h => by
    cases x <;> first | cases h | skip
    exact fun O F H σ ρ fl D q hm ke => by
      cases hm
      exact PSto ps_continue (ke σ F H .refl q)
  | .rai, X, sc, st, c, x, h => fun O F H σ ρ fl D q hm ke => by cases hm
theorem okSts : ∀ (ss : Ss) {X : Cx} {sc : Scope} {st : Str → Bool}, Ctx X T G N sc st k → ∀ {xs : List Stmt}, ckSs T N ss sc st xs = true → SndSs X J xs (evSs G ss)
  | .nil, X, sc, st, c, xs, h => by
    cases xs with
    | cons _ _ => cases h
    | nil =>
      intro O F H σ ρ fl D q hm ke
      cases hm
      exact PSsto pss_nil (ke σ F H .refl q)
  | .cons s r, X, sc, st, c, xs, h => by
    cases xs with
    | nil => cases h
    | cons x xs =>
      have h := Bool.and_eq_true_iff.mp h
      have h1 := okSt s c h.1
      have h2 := okSts r c h.2
      exact fun O F H σ ρ fl D q hm ke => by
        refine PSsto (pss_cons ps_w pss_w) ?_
        have hm : (match evS G s ρ with | some (.nx ρ') => evSs G r ρ' | o => o) = some fl := hm
        cases hs : evS G s ρ with
        | none => rw [hs] at hm; cases hm
        | some f1 =>
          rw [hs] at hm
          refine h1 O F H σ ρ f1 _ q hs ?_
          cases f1 with
          | nx ρ1 => exact fun σ' F' H' s' q' => h2 O F' H' σ' ρ1 fl D q' hm (ke.after s')
          | bk ρ1 => cases hm; exact ke
          | ct ρ1 => cases hm; exact ke
          | rt r ρ1 => cases hm; exact ke
end
end
end Rm

set_option Elab.async false
set_option linter.all false
set_option maxRecDepth 100000
set_option maxHeartbeats 8000000
/-! R17: the functions of the table, called to any depth. -/
namespace Rm
open PySem PySem.Spec L2

/-! ### a def's scope -/
def scopeC (N P : List Str) (sc : Scope) : Bool := decide (sc.kind = .function) && !sc.isCoroutine && !sc.isGenerator && decide N.Nodup && decide (N.take P.length = P) && (P.all fun x => match sc.names.lookup x with | some .local => true | some .cell => true | _ => false) && (sc.names.all fun y => !decide (y.2 = .free))
theorem scope_of {N P : List Str} {sc : Scope} (h : scopeC N P sc = true) : FnScope N P sc := by
  unfold scopeC at h
  simp only [Bool.and_eq_true, decide_eq_true_eq, Bool.not_eq_true', List.all_eq_true, decide_eq_false_iff_not] at h
  obtain ⟨⟨⟨⟨⟨⟨h1, h2⟩, h3⟩, h4⟩, h5⟩, h6⟩, h7⟩ := h
  refine ⟨h1, h2, h3, h4, h5, fun x hx => ?_, fun y hy => h7 y hy⟩
  have := h6 x hx
  split at this
  · exact .inl (by assumption)
  · exact .inr (by assumption)
  · cases this
def Fn.N (fn : Fn) : List Str := sSs fn.slots
def fnC (T : Tab) (fn : Fn) (st : Stmt) : Bool := scopeC fn.N fn.ps (defScope st) && ckSs T fn.N fn.body (defScope st) (fun _ => true) (defBody st) && decide (fn.mask.length = fn.ps.length) && decide (fn.ps.length ≤ fn.slots.length)

/-! ### at the entry -/
def mkJ : Nat → List Av → List V → List (Nat × Addr)
  | i, .io _ :: as, .ref a :: vs => (i, a) :: mkJ (i + 1) as vs
  | i, _ :: as, _ :: vs => mkJ (i + 1) as vs
  | _, _, _ => []
theorem mkJ_ge : ∀ {as : List Av} {vs : List V} {i j : Nat} {a : Addr}, (j, a) ∈ mkJ i as vs → i ≤ j
  | [], _, _, _, _, h => by cases h
  | .d _ :: as, [], _, _, _, h => by cases h
  | .io _ :: as, [], _, _, _, h => by cases h
  | .d _ :: as, v :: vs, i, j, a, h => Nat.le_of_succ_le (mkJ_ge (as := as) (vs := vs) (i := i + 1) (show (j, a) ∈ mkJ (i + 1) as vs from by cases v <;> exact h))
  | .io xs :: as, v :: vs, i, j, a, h => by
    cases v with
    | ref b =>
      rcases List.mem_cons.mp h with h | h
      · cases h; exact Nat.le_refl _
      · exact Nat.le_of_succ_le (mkJ_ge (as := as) (vs := vs) h)
    | _ => exact Nat.le_of_succ_le (mkJ_ge (as := as) (vs := vs) h)
theorem mkJ_fun : ∀ {as : List Av} {vs : List V} {i j : Nat} {a b : Addr}, (j, a) ∈ mkJ i as vs → (j, b) ∈ mkJ i as vs → a = b
  | [], _, _, _, _, _, h, _ => by cases h
  | .d _ :: as, [], _, _, _, _, h, _ => by cases h
  | .io _ :: as, [], _, _, _, _, h, _ => by cases h
  | .d _ :: as, v :: vs, i, j, a, b, h, h' => mkJ_fun (as := as) (vs := vs) (i := i + 1) (j := j) (a := a) (b := b) (by cases v <;> exact h) (by cases v <;> exact h')
  | .io xs :: as, v :: vs, i, j, a, b, h, h' => by
    cases v with
    | ref c =>
      rcases List.mem_cons.mp h with g | g
      · cases g
        rcases List.mem_cons.mp h' with g' | g'
        · cases g'; rfl
        · exact absurd (mkJ_ge g') (Nat.not_succ_le_self _)
      · rcases List.mem_cons.mp h' with g' | g'
        · cases g'
          exact absurd (mkJ_ge g) (Nat.not_succ_le_self _)
        · exact mkJ_fun g g'
    | _ => exact mkJ_fun (as := as) (vs := vs) h h'
section
variable {K : PySem.W.Frag} {O F : Fz} {H : Hp}
theorem AvsOk.len : ∀ {as : List Av} {vs : List V}, AvsOk K O F H as vs → vs.length = as.length
  | [], _, h => by rw [show _ = [] from h]; rfl
  | _ :: _, _, ⟨v, r, e, _, t⟩ => by rw [e, List.length_cons, List.length_cons, AvsOk.len t]
theorem AvsOk.at_ : ∀ {as : List Av} {vs : List V} {i0 i : Nat} {a : Av}, AvsOk K O F H as vs → as[i]? = some a → ∃ v, vs[i]? = some v ∧ AvOk K O F H a v ∧ ∀ xs b, a = .io xs → v = .ref b → (i0 + i, b) ∈ mkJ i0 as vs ∧ b ∈ ioA as vs
  | [], _, _, _, _, _, e => by simp at e
  | a :: as, _, i0, 0, a', ⟨v, r, e, h, _⟩, q => by
    simp at q
    subst q e
    refine ⟨v, rfl, h, fun xs b e1 e2 => ?_⟩
    subst e1 e2
    exact ⟨List.mem_cons_self, List.mem_cons_self⟩
  | a :: as, _, i0, i + 1, a', ⟨v, r, e, h, t⟩, q => by
    obtain ⟨w, h1, h2, h3⟩ := AvsOk.at_ (i0 := i0 + 1) (i := i) (a := a') t (by simpa using q)
    subst e
    refine ⟨w, by simpa using h1, h2, fun xs b e1 e2 => ?_⟩
    obtain ⟨g1, g2⟩ := h3 xs b e1 e2
    have e3 : i0 + (i + 1) = i0 + 1 + i := by omega
    rw [e3]
    cases a with
    | d _ => exact ⟨by cases v <;> exact g1, by cases v <;> exact g2⟩
    | io ys =>
      cases v with
      | ref c => exact ⟨List.mem_cons_of_mem _ g1, List.mem_cons_of_mem _ g2⟩
      | _ => exact ⟨g1, g2⟩
/-- two slots handed on stand apart -/
theorem io_apart : ∀ {as : List Av} {vs : List V} {i j : Nat} {xs ys : List D} {b : Addr}, AvsOk K O F H as vs → (ioA as vs).Nodup → i < j → as[i]? = some (.io xs) → as[j]? = some (.io ys) → vs[i]? = some (.ref b) → vs[j]? = some (.ref b) → False
  | [], _, _, _, _, _, _, _, _, _, e, _, _, _ => by simp at e
  | a :: as, _, 0, 0, _, _, _, _, _, h, _, _, _, _ => by omega
  | a :: as, _, 0, j + 1, xs, ys, b, ⟨v, r, e, _, t⟩, nd, _, e1, e2, e3, e4 => by
    subst e
    simp at e1 e3
    subst e1 e3
    obtain ⟨w, h1, _, h3⟩ := AvsOk.at_ (i0 := 0) (i := j) t (by simpa using e2)
    have e4 : r[j]? = some (.ref b) := by simpa using e4
    rw [e4] at h1; cases h1
    exact (List.nodup_cons.mp nd).1 (h3 ys b rfl rfl).2
  | a :: as, _, i + 1, 0, _, _, _, _, _, h, _, _, _, _ => by omega
  | a :: as, _, i + 1, j + 1, xs, ys, b, ⟨v, r, e, _, t⟩, nd, hij, e1, e2, e3, e4 => by
    subst e
    refine io_apart (i := i) (j := j) t ?_ (by omega) (by simpa using e1) (by simpa using e2) (by simpa using e3) (by simpa using e4)
    cases a with
    | d _ => cases v <;> exact nd
    | io zs =>
      cases v with
      | ref c => exact (List.nodup_cons.mp nd).2
      | _ => exact nd
theorem startE_at (n : Nat) (as : List Av) (i : Nat) : (startE n as)[i]? = if i < as.length then (as[i]?).map svOf else (if i < n then some .un else none) := by
  unfold startE
  by_cases h : i < as.length
  · rw [if_pos h, List.getElem?_append_left (by rw [List.length_map]; exact h), List.getElem?_map]
  · rw [if_neg h, List.getElem?_append_right (by rw [List.length_map]; omega), List.length_map, List.getElem?_replicate]
    by_cases h2 : i < n
    · rw [if_pos (by omega), if_pos h2]
    · rw [if_neg (by omega), if_neg h2]
theorem start_at (N : List Str) (vs : List V) (i : Nat) : (L2.start N vs)[i]? = if i < vs.length then (vs[i]?).map some else (if i < N.length then some none else none) := by
  unfold L2.start
  by_cases h : i < vs.length
  · rw [if_pos h, List.getElem?_append_left (by rw [List.length_map]; exact h), List.getElem?_map]
  · rw [if_neg h, List.getElem?_append_right (by rw [List.length_map]; omega), List.length_map, List.getElem?_replicate]
    by_cases h2 : i < N.length
    · rw [if_pos (by omega), if_pos h2]
    · rw [if_neg (by omega), if_neg h2]
theorem rel_start {N : List Str} {n : Nat} {as : List Av} {vs : List V} (hN : N.length = n) (hl : as.length ≤ n) (tr : ∀ a, F a ∨ O a → H a ≠ none) (dj : ∀ a, O a → ¬ F a) (ok : AvsOk K O F H as vs) (nd : (ioA as vs).Nodup) :
    Rel K (mkJ 0 as vs) O F H (L2.start N vs) (startE n as) := by
  have lv := ok.len
  have slot : ∀ {i : Nat} {s : SV}, (startE n as)[i]? = some s → s = .un ∨ ∃ a v, as[i]? = some a ∧ s = svOf a ∧ vs[i]? = some v ∧ (L2.start N vs)[i]? = some (some v) ∧ AvOk K O F H a v ∧ ∀ xs b, a = .io xs → v = .ref b → (i, b) ∈ mkJ 0 as vs := fun {i s} e => by
    rw [startE_at] at e
    by_cases h : i < as.length
    · rw [if_pos h] at e
      obtain ⟨a, e1, rfl⟩ := Option.map_eq_some_iff.mp e
      obtain ⟨v, h1, h2, h3⟩ := ok.at_ (i0 := 0) e1
      refine .inr ⟨a, v, e1, rfl, h1, by rw [start_at, if_pos (by rw [lv]; exact h), h1]; rfl, h2, fun xs b ea ev => ?_⟩
      have := (h3 xs b ea ev).1
      rwa [Nat.zero_add] at this
    · rw [if_neg h] at e
      split at e
      · cases e; exact .inl rfl
      · cases e
  refine ⟨?_, tr, dj, fun i s e => ?_, fun i j a hij oi oj ei ej => ?_⟩
  · unfold L2.start startE
    rw [List.length_append, List.length_append, List.length_map, List.length_map, List.length_replicate, List.length_replicate]
    omega
  · rcases slot e with rfl | ⟨a, v, _, rfl, _, e2, o, hJ⟩
    · trivial
    · cases a with
      | d d => exact ⟨v, e2, o⟩
      | io xs =>
        obtain ⟨b, rfl, ow⟩ := o
        exact ⟨b, e2, hJ xs b rfl rfl, ow⟩
  · obtain ⟨s1, z1, o1⟩ := oi
    obtain ⟨s2, z2, o2⟩ := oj
    rcases slot z1 with rfl | ⟨a1, v1, g1, rfl, g2, g3, _⟩
    · cases o1
    · rcases slot z2 with rfl | ⟨a2, v2, k1, rfl, k2, k3, _⟩
      · cases o2
      · rw [g3] at ei; cases ei
        rw [k3] at ej; cases ej
        cases a1 with
        | d _ => cases o1
        | io x1 =>
          cases a2 with
          | d _ => cases o2
          | io x2 =>
            rcases Nat.lt_or_gt_of_ne hij with z | z
            · exact io_apart ok nd z g1 k1 g2 k2
            · exact io_apart ok nd z k1 g1 k2 g2
/-- at the end: what was handed on -/
theorem ios_ok {J : List (Nat × Addr)} {F' : Fz} {H' : Hp} {σ' : L2.St} {ρ' : En} (q : Rel K J O F' H' σ' ρ') (hJ : ∀ i a b, (i, a) ∈ J → (i, b) ∈ J → a = b) :
    ∀ {m : List Bool} {as : List Av} {vs : List V} {i0 : Nat} {ios : List (List D)}, matchM m as = true → AvsOk K O F H as vs → (∀ p ∈ mkJ i0 as vs, p ∈ J) → iosOf m (ρ'.drop i0) = some ios → IosOk K O F' H' (ioA as vs) ios
  | [], [], vs, i0, ios, _, ok, _, h => by
    rw [show vs = [] from ok]
    cases h
    trivial
  | [], _ :: _, _, _, _, hm, _, _, _ => by cases hm
  | true :: _, [], _, _, _, hm, _, _, _ => by cases hm
  | false :: _, [], _, _, _, hm, _, _, _ => by cases hm
  | true :: m, .d _ :: as, _, _, _, hm, _, _, _ => by cases hm
  | false :: m, .io _ :: as, _, _, _, hm, _, _, _ => by cases hm
  | false :: m, .d d :: as, _, i0, ios, hm, ⟨v, r, e, _, t⟩, hs, h => by
    subst e
    have h : iosOf m (ρ'.drop i0).tail = some ios := h
    rw [List.tail_drop] at h
    have := ios_ok q hJ (m := m) (as := as) (vs := r) (i0 := i0 + 1) (ios := ios) hm t (fun p hp => hs p (by cases v <;> exact hp)) h
    cases v <;> exact this
  | true :: m, .io xs :: as, _, i0, ios, hm, ⟨v, r, e, o, t⟩, hs, h => by
    subst e
    obtain ⟨a, rfl, _⟩ := o
    cases hd : ρ'.drop i0 with
    | nil => rw [hd] at h; cases h
    | cons s ρ2 =>
      rw [hd] at h
      cases s with
      | io ys =>
        obtain ⟨is, h1, rfl⟩ := Option.map_eq_some_iff.mp (show (iosOf m ρ2).map (ys :: ·) = some ios from h)
        have e2 : ρ2 = ρ'.drop (i0 + 1) := by rw [← List.tail_drop, hd]; rfl
        rw [e2] at h1
        have es : ρ'[i0]? = some (.io ys) := by
          have : (ρ'.drop i0)[0]? = some (.io ys) := by rw [hd]; rfl
          rwa [List.getElem?_drop, Nat.add_zero] at this
        obtain ⟨b, e3, m3, ow⟩ := q.slot i0 _ es
        have eb : b = a := hJ i0 b a m3 (hs (i0, a) List.mem_cons_self)
        subst eb
        exact ⟨ow, ios_ok q hJ hm t (fun p hp => hs p (List.mem_cons_of_mem _ hp)) h1⟩
      | un => cases h
      | d _ => cases h
      | own _ => cases h
end
theorem io_slot {K : PySem.W.Frag} {O F F' : Fz} {H H' : Hp} {J : List (Nat × Addr)} {σ' : L2.St} {ρ' : En} (q : Rel K J O F' H' σ' ρ') (hJ : ∀ i a b, (i, a) ∈ J → (i, b) ∈ J → a = b) :
    ∀ {m : List Bool} {as : List Av} {vs : List V} {i0 : Nat} {ios : List (List D)} {x : Addr}, matchM m as = true → AvsOk K O F H as vs → (∀ p ∈ mkJ i0 as vs, p ∈ J) → iosOf m (ρ'.drop i0) = some ios → x ∈ ioA as vs → ∃ i, ownAt ρ' i ∧ σ'[i]? = some (some (.ref x))
  | [], [], vs, i0, ios, x, _, ok, _, h, hx => by cases hx
  | [], _ :: _, _, _, _, _, hm, _, _, _, _ => by cases hm
  | true :: _, [], _, _, _, _, hm, _, _, _, _ => by cases hm
  | false :: _, [], _, _, _, _, hm, _, _, _, _ => by cases hm
  | true :: m, .d _ :: as, _, _, _, _, hm, _, _, _, _ => by cases hm
  | false :: m, .io _ :: as, _, _, _, _, hm, _, _, _, _ => by cases hm
  | false :: m, .d d :: as, _, i0, ios, x, hm, ⟨v, r, e, _, t⟩, hs, h, hx => by
    subst e
    have h : iosOf m (ρ'.drop i0).tail = some ios := h
    rw [List.tail_drop] at h
    exact io_slot q hJ (m := m) (as := as) (vs := r) (i0 := i0 + 1) (ios := ios) hm t (fun p hp => hs p (by cases v <;> exact hp)) h (by cases v <;> exact hx)
  | true :: m, .io xs :: as, _, i0, ios, x, hm, ⟨v, r, e, o, t⟩, hs, h, hx => by
    subst e
    obtain ⟨a, rfl, _⟩ := o
    cases hd : ρ'.drop i0 with
    | nil => rw [hd] at h; cases h
    | cons s ρ2 =>
      rw [hd] at h
      cases s with
      | io ys =>
        obtain ⟨is, h1, rfl⟩ := Option.map_eq_some_iff.mp (show (iosOf m ρ2).map (ys :: ·) = some ios from h)
        have e2 : ρ2 = ρ'.drop (i0 + 1) := by rw [← List.tail_drop, hd]; rfl
        rw [e2] at h1
        have es : ρ'[i0]? = some (.io ys) := by
          have : (ρ'.drop i0)[0]? = some (.io ys) := by rw [hd]; rfl
          rwa [List.getElem?_drop, Nat.add_zero] at this
        obtain ⟨b, e3, m3, ow⟩ := q.slot i0 _ es
        have eb : b = a := hJ i0 b a m3 (hs (i0, a) List.mem_cons_self)
        subst eb
        rcases List.mem_cons.mp hx with rfl | hx
        · exact ⟨i0, ⟨_, es, rfl⟩, e3⟩
        · exact io_slot q hJ (m := m) (as := as) (vs := r) (i0 := i0 + 1) hm t (fun p hp => hs p (List.mem_cons_of_mem _ hp)) h1 hx
      | un => cases h
      | d _ => cases h
      | own _ => cases h
theorem matchM_len : ∀ {m : List Bool} {as : List Av}, matchM m as = true → as.length = m.length
  | [], [], _ => rfl
  | [], _ :: _, h => by cases h
  | true :: _, [], h => by cases h
  | false :: _, [], h => by cases h
  | true :: m, .d _ :: as, h => by cases h
  | false :: m, .io _ :: as, h => by cases h
  | true :: m, .io _ :: as, h => by rw [List.length_cons, List.length_cons, matchM_len (show matchM m as = true from h)]
  | false :: m, .d _ :: as, h => by rw [List.length_cons, List.length_cons, matchM_len (show matchM m as = true from h)]

/-! ### all functions -/
/-- how a function of the table stands behind the top -/
structure StandsA (K : PySem.W.Frag) (mg : Str → Option Value) (T : Tab) (f : Nat) (fn : Fn) (ad : Addr) (fd : FuncData) : Prop where
  ex : ∃ (x q : Str) (st : Stmt), FunD K x q (defArgs st) (defBody st) (defScope st) [] [] ad fd ∧ fnC T fn st = true
  mg : mg (sS fn.nm) = some (.ref ad)
  bd : Binds K fd fn.ps []
  kw : ∀ e ∈ T.kws, e.f = f → KwB fd fn.ps e
structure Globs (K : PySem.W.Frag) (mg : Str → Option Value) (T : Tab) : Prop where
  bl : ∀ x ∈ bltNames, mg x = none
  con : ∀ (g : Nat) (c : String × D), T.con[g]? = some c → ∃ u v, mg (sS c.1) = some u ∧ RelV v u ∧ ∀ F H, Rep K F H c.2 v
  fns : ∀ (f : Nat) (fn : Fn), T.fns[f]? = some fn → ∃ ad fd, StandsA K mg T f fn ad fd
theorem fnA_all {P : Program} {w : World} {K : PySem.W.Frag} {mg : Str → Option Value} {base : Heap} {T : Tab} (gl : Globs K mg T) : ∀ (k f : Nat) (fn : Fn) (ad : Addr) (fd : FuncData), T.fns[f]? = some fn → StandsA K mg T f fn ad fd → FnOk P w K mg base CX0 k ad fd fn.ps (spC K (callF T k) f fn.ps.length)
  | 0, f, fn, ad, fd, hf, hs => ⟨fun vs H Q E ⟨O, F', as, r, ios, hl, _⟩ => hl, fun A outer s H args us vs Q E _ _ _ _ ⟨O, F', as, r, ios, _, _, _, _, _, hC, _⟩ => by cases hC⟩
  | k + 1, f, fn, ad, fd, hf, hs => by
    obtain ⟨x, q, st, F, hck⟩ := hs.ex
    unfold fnC at hck
    simp only [Bool.and_eq_true] at hck
    obtain ⟨⟨⟨h1, h2⟩, h3⟩, h4⟩ := hck
    have h3 := of_decide_eq_true h3
    have h4 := of_decide_eq_true h4
    have S := scope_of h1
    refine F.ok S (fun vs H Q E ⟨O, F', as, r, ios, hl, _⟩ => hl) fun cdv A outer s H vs Q E hr ⟨O, F', as, r, ios, hl, tr, dj, ok, nd, hC, hQ⟩ => ?_
    have hC : runFn T (callF T k) f as = some (r, ios) := hC
    unfold runFn at hC
    rw [hf] at hC
    simp only at hC
    split at hC
    · rename_i hm
      refine ⟨wSs _ (defBody st), PSs.nox pss_w, ?_⟩
      have lN : fn.N.length = fn.slots.length := by unfold Fn.N sSs; rw [List.length_map]
      have la : as.length ≤ fn.slots.length := by rw [matchM_len hm, h3]; exact h4
      have q0 := rel_start lN la tr dj ok nd
      have c : Ctx (cxOf CX0 P w K mg base fn.N q (defScope st) ad cdv A outer s H E).nox T (T.cfg (callF T k)) fn.N (defScope st) (fun _ => true) k :=
        { n := rfl, nd := S.nd, scE := rfl, kd := S.kind, calm := rfl, room := hr, xe := rfl, stE := fun _ _ => rfl, bl := gl.bl, con := gl.con, cfg := rfl,
          fns := fun f' fn' hf' => by
            obtain ⟨ad', fd', hs'⟩ := gl.fns f' fn' hf'
            have hs2 := hs'
            obtain ⟨⟨x', q', st', F', _⟩, m1, m2, m3⟩ := hs2
            exact ⟨ad', fd', m1, F'.kp, m2, m3, fnA_all gl k f' fn' ad' fd' hf' hs'⟩ }
      have hJ : ∀ i a b, (i, a) ∈ mkJ 0 as vs → (i, b) ∈ mkJ 0 as vs → a = b := fun i a b => mkJ_fun
      have post : ∀ {v : V} {σ' : L2.St} {F2 : Fz} {H2 : Hp} {ρ' : En} {r' : R}, Stp O F' H F2 H2 → Rel K (mkJ 0 as vs) O F2 H2 σ' ρ' → RepR K O F2 H2 σ' ρ' r' v → (iosOf fn.mask ρ').map (fun ios => (r', ios)) = some (r, ios) → Post K O F' H (ioA as vs) r ios v F2 H2 := fun {v σ' F2 H2 ρ' r'} st2 q2 rr he => by
        obtain ⟨is, e1, e2⟩ := Option.map_eq_some_iff.mp he
        cases e2
        have io := ios_ok (F := F') (H := H) q2 hJ (i0 := 0) hm ok (fun p hp => hp) (by rw [List.drop_zero]; exact e1)
        refine ⟨st2, q2.dj, q2.tr, io, ?_⟩
        cases r with
        | d d => exact rr
        | fr xs =>
          obtain ⟨a, ea, ow, nj⟩ := rr
          refine ⟨a, ea, ow, fun hmem => ?_⟩
          have : ∃ i, ownAt ρ' i ∧ σ'[i]? = some (some (.ref a)) := io_slot q2 hJ (i0 := 0) hm ok (fun p hp => hp) (by rw [List.drop_zero]; exact e1) hmem
          obtain ⟨i, o1, o2⟩ := this
          exact nj i o1 o2
      cases hb2 : evSs (T.cfg (callF T k)) fn.body (startE fn.slots.length as) with
      | none => rw [hb2] at hC; cases hC
      | some fl =>
        rw [hb2] at hC
        cases fl with
        | bk ρ' => cases hC
        | ct ρ' => cases hC
        | nx ρ' => exact okSts fn.body c h2 O F' H _ _ _ _ q0 hb2 (fun σ' F2 H2 s2 q2 => hQ _ F2 H2 (post s2 q2 (r' := .d .non) rfl hC))
        | rt r' ρ' => exact okSts fn.body c h2 O F' H _ _ _ _ q0 hb2 (fun v σ' F2 H2 s2 q2 rr => hQ v F2 H2 (post s2 q2 rr hC))
    · cases hC
end Rm

set_option Elab.async false
set_option linter.all false
set_option maxRecDepth 100000
set_option maxHeartbeats 8000000
/-! R18: the head's facts; from what the small language gives for the law to the law's row. -/
namespace Rm
open PySem PySem.Spec L2

/-! ### what the head tells -/
abbrev AlM : Type := Bool × List He.FnW
def obsM (fa : List He.Fa) (fn : List He.DefD) (tb : List (Str × List He.Dv)) (K : PySem.W.Frag) : AlM := ((fa.all fun f => f.ok K) && (fn.all fun d => d.ok K) && tb.all fun t => He.tupB K t.1 t.2, fn.map fun d => He.fnW K d.at_)
def valM (fn : List He.DefD) : AlM := (true, fn.map He.DefD.val)
def SaysM (fa : List He.Fa) (fn : List He.DefD) (tb : List (Str × List He.Dv)) (K : PySem.W.Frag) : Prop := obsM fa fn tb K = valM fn
def obsMG (n : Nat) (fa : List He.Fa) (fn : List He.DefD) (tb : List (Str × List He.Dv)) (g : Addr → Option Obj) : AlM := obsM fa fn tb (He.frG g (He.asD g n))
def hookM (n : Nat) (fa : List He.Fa) (fn : List He.DefD) (tb : List (Str × List He.Dv)) : PySem.W.Hook where
  α := AlM
  obs := fun s => obsMG n fa fn tb s.heap.get?
  val := fun _ => valM fn
  says := fun _ h => ∃ K : PySem.W.Frag, K.In h ∧ SaysM fa fn tb K
  of := fun _ _ e => ⟨_, He.frG_in, e⟩
  keeps := fun _ _ _ ⟨K, hK, c⟩ k => ⟨K, PySem.W.Frag.In.keeps hK k, c⟩
theorem obsMG_eq {n : Nat} {fa : List He.Fa} {fn : List He.DefD} {tb : List (Str × List He.Dv)} {g : Addr → Option Obj} {s : Shared} (h : ∀ a, g a = s.heap.get? a) : obsMG n fa fn tb g = (hookM n fa fn tb).obs s := by
  have e : g = s.heap.get? := funext h
  rw [e]; rfl
section
variable {fa : List He.Fa} {fn : List He.DefD} {tb : List (Str × List He.Dv)} {K : PySem.W.Frag}
theorem SaysM.parts (c : SaysM fa fn tb K) : (∀ f ∈ fa, f.ok K = true) ∧ (∀ d ∈ fn, d.ok K = true ∧ He.fnW K d.at_ = d.val) ∧ ∀ t ∈ tb, He.tupB K t.1 t.2 = true := by
  have h1 : ((fa.all fun f => f.ok K) && (fn.all fun d => d.ok K) && tb.all fun t => He.tupB K t.1 t.2) = true := congrArg (fun z : AlM => z.1) c
  have h2 : fn.map (fun d => He.fnW K d.at_) = fn.map He.DefD.val := congrArg (fun z : AlM => z.2) c
  simp only [Bool.and_eq_true, List.all_eq_true] at h1
  exact ⟨h1.1.1, fun d hd => ⟨h1.1.2 d hd, List.map_inj_left.mp h2 d hd⟩, h1.2⟩
end

/-! ### the table's own facts -/
def dOf (fn : Fn) (st : Stmt) : He.DefD := ⟨(sS fn.nm, none), sS fn.nm, sS fn.nm, defArgs st, defBody st, defScope st, [], []⟩
def dsOf : List Fn → List Stmt → List He.DefD
  | fn :: fns, st :: sts => dOf fn st :: dsOf fns sts
  | _, _ => []
/-- a constant's value, as the head may tell it -/
def dvOf : D → Option He.Dv
  | .int i => some (.int i)
  | .str s => some (.str (mkS s))
  | .bl b => some (.bl b)
  | .non => some .non
  | _ => none
def dvsOf : List D → Option (List He.Dv)
  | [] => some []
  | d :: ds => match dvOf d, dvsOf ds with
    | some v, some vs => some (v :: vs)
    | _, _ => none
def conFa : List (String × D) → List He.Fa
  | [] => []
  | (n, .int i) :: r => .int (sS n) i :: conFa r
  | (n, .str s) :: r => .str (sS n) (mkS s) :: conFa r
  | (n, .tup _) :: r => .glo (sS n) :: conFa r
  | _ :: r => conFa r
def conTb : List (String × D) → List (Str × List He.Dv)
  | [] => []
  | (n, .tup ds) :: r => (match dvsOf ds with | some vs => (sS n, vs) :: conTb r | none => conTb r)
  | _ :: r => conTb r
def okD : D → Bool
  | .str s => okS s
  | _ => true
def goodS : D → Bool
  | .int _ => true
  | .str s => okS s
  | .tup ds => (dvsOf ds).isSome && decide (ds.length ≤ 1000) && ds.all okD
  | _ => false
def faOf (T : Tab) (fr : List Str) : List He.Fa := T.fns.map (fun fn => He.Fa.glo (sS fn.nm)) ++ (fr.map He.Fa.free ++ conFa T.con)
/-- how a function binds -/
def BindP (fn : Fn) (st : Stmt) : Prop := ∀ (kV doc pm : Value) (an : Option Addr) (cdv ct : Value) (us : List Value), us.length = fn.ps.length → bindArgs (PySem.W.fnOf (sS fn.nm) (sS fn.nm) (defArgs st) (defBody st) (defScope st) .none kV doc pm an cdv ct) ⟨us, []⟩ = pure (fn.ps.zip us)
inductive AllB : List Fn → List Stmt → Prop
  | nil : AllB [] []
  | cons {fn st fns sts} : BindP fn st → AllB fns sts → AllB (fn :: fns) (st :: sts)
def KwP (fns : List Fn) (sts : List Stmt) (e : Kw) : Prop := ∀ fn st, fns[e.f]? = some fn → sts[e.f]? = some st → ∀ (kV doc pm : Value) (an : Option Addr) (cdv ct : Value), KwB (PySem.W.fnOf (sS fn.nm) (sS fn.nm) (defArgs st) (defBody st) (defScope st) .none kV doc pm an cdv ct) fn.ps e
theorem AllB.get : ∀ {fns : List Fn} {sts : List Stmt} {f : Nat} {fn : Fn}, AllB fns sts → fns[f]? = some fn → ∃ st, sts[f]? = some st ∧ BindP fn st ∧ dOf fn st ∈ dsOf fns sts
  | _, _, _, _, .nil, h => by simp at h
  | _, _, 0, _, .cons b _, h => by simp at h; subst h; exact ⟨_, rfl, b, List.mem_cons_self⟩
  | _, _, f + 1, _, .cons _ t, h => by
    obtain ⟨st, h1, h2, h3⟩ := AllB.get t (by simpa using h)
    exact ⟨st, by simpa using h1, h2, List.mem_cons_of_mem _ h3⟩
def fnsC (T : Tab) (sts : List Stmt) : Bool := (T.fns.zip sts).all fun p => fnC T p.1 p.2
theorem conFa_int : ∀ {cs : List (String × D)} {n : String} {i : Int}, (n, D.int i) ∈ cs → He.Fa.int (sS n) i ∈ conFa cs
  | [], _, _, h => by cases h
  | (m, d) :: r, n, i, h => by
    rcases List.mem_cons.mp h with h | h
    · cases h; exact List.mem_cons_self
    · have ih := conFa_int h
      cases d <;> first | exact List.mem_cons_of_mem _ ih | exact ih
theorem conFa_str : ∀ {cs : List (String × D)} {n : String} {s : List Nat}, (n, D.str s) ∈ cs → He.Fa.str (sS n) (mkS s) ∈ conFa cs
  | [], _, _, h => by cases h
  | (m, d) :: r, n, i, h => by
    rcases List.mem_cons.mp h with h | h
    · cases h; exact List.mem_cons_self
    · have ih := conFa_str h
      cases d <;> first | exact List.mem_cons_of_mem _ ih | exact ih
theorem conFa_tup : ∀ {cs : List (String × D)} {n : String} {s : List D}, (n, D.tup s) ∈ cs → He.Fa.glo (sS n) ∈ conFa cs
  | [], _, _, h => by cases h
  | (m, d) :: r, n, i, h => by
    rcases List.mem_cons.mp h with h | h
    · cases h; exact List.mem_cons_self
    · have ih := conFa_tup h
      cases d <;> first | exact List.mem_cons_of_mem _ ih | exact ih
theorem conTb_tup : ∀ {cs : List (String × D)} {n : String} {ds : List D} {vs : List He.Dv}, (n, D.tup ds) ∈ cs → dvsOf ds = some vs → (sS n, vs) ∈ conTb cs
  | [], _, _, _, h, _ => by cases h
  | (m, d) :: r, n, ds, vs, h, e => by
    rcases List.mem_cons.mp h with h | h
    · cases h
      simp only [conTb, e]
      exact List.mem_cons_self
    · have ih := conTb_tup h e
      cases d <;> first | exact ih | skip
      rename_i zs
      simp only [conTb]
      split
      · exact List.mem_cons_of_mem _ ih
      · exact ih
theorem dvs_rep {K : PySem.W.Frag} {F : Fz} {H : Hp} : ∀ {ds : List D} {vs : List He.Dv}, dvsOf ds = some vs → (ds.all okD) = true → RepL K F H ds (vs.map (He.Dv.v K))
  | [], _, h, _ => by cases h; rfl
  | d :: ds, _, h, g => by
    have g := Bool.and_eq_true_iff.mp (show (okD d && ds.all okD) = true from g)
    unfold dvsOf at h
    split at h
    · rename_i v vs h1 h2
      cases h
      refine ⟨_, _, rfl, ?_, dvs_rep h2 g.2⟩
      cases d <;> first | (cases h1; done) | (cases h1; rfl) | skip
      rename_i s
      cases h1
      exact ⟨rfl, g.1⟩
    · cases h
theorem globs_of {K : PySem.W.Frag} {h : Heap} {mg : Str → Option Value} {T : Tab} {sts : List Stmt} {fr : List Str} (X : K.In h) (G : h.Ns mainGlobals mg) (c : SaysM (faOf T fr) (dsOf T.fns sts) (conTb T.con) K)
    (hb : AllB T.fns sts) (hk : ∀ e ∈ T.kws, KwP T.fns sts e) (hc : fnsC T sts = true) (hg : (T.con.all fun c => goodS c.2) = true) (hfr : ∀ x ∈ bltNames, x ∈ fr) : Globs K mg T := by
  obtain ⟨c1, c2, c3⟩ := c.parts
  refine ⟨fun x hx => He.free_ok X G (c1 _ (List.mem_append_right _ (List.mem_append_left _ (List.mem_map.mpr ⟨x, hfr x hx, rfl⟩)))), fun g cc hcc => ?_, fun f fn hf => ?_⟩
  · obtain ⟨n, d⟩ := cc
    have hm := List.mem_of_getElem? hcc
    have hgd := List.all_eq_true.mp hg _ hm
    cases d with
    | int i =>
      obtain ⟨t, e⟩ := He.int_ok X G (c1 _ (List.mem_append_right _ (List.mem_append_right _ (conFa_int hm))))
      exact ⟨_, .int i, e, ⟨t, rfl⟩, fun _ _ => rfl⟩
    | str s =>
      obtain ⟨t, e⟩ := He.str_ok X G (c1 _ (List.mem_append_right _ (List.mem_append_right _ (conFa_str hm))))
      exact ⟨_, .str (mkS s), e, ⟨t, rfl⟩, fun _ _ => ⟨rfl, hgd⟩⟩
    | tup ds =>
      have hgd : ((dvsOf ds).isSome && decide (ds.length ≤ 1000) && ds.all okD) = true := hgd
      simp only [Bool.and_eq_true] at hgd
      obtain ⟨⟨g1, g2⟩, g3⟩ := hgd
      cases e : dvsOf ds with
      | none => rw [e] at g1; cases g1
      | some vs =>
        have tb := c3 _ (conTb_tup hm e)
        have sq := He.tupB_ok tb (fun _ => none)
        refine ⟨.ref (He.ga K (sS n)), .ref (He.ga K (sS n)), He.glo_ok X G (c1 _ (List.mem_append_right _ (List.mem_append_right _ (conFa_tup hm)))), rfl, fun F H => ⟨_, _, rfl, .inr sq, Nat.le_trans (of_decide_eq_true g2) (by decide), dvs_rep e g3⟩⟩
    | _ => cases hgd
  · obtain ⟨st, h1, h2, h3⟩ := hb.get hf
    obtain ⟨d1, d2⟩ := c2 _ h3
    obtain ⟨fd, F⟩ := He.DefD.funD d2 d1
    have F : FunD K (sS fn.nm) (sS fn.nm) (defArgs st) (defBody st) (defScope st) [] [] (He.ga K (sS fn.nm)) fd := F
    have hmg : mg (sS fn.nm) = some (.ref (He.ga K (sS fn.nm))) := He.glo_ok X G (c1 _ (List.mem_append_left _ (List.mem_map.mpr ⟨fn, List.mem_of_getElem? hf, rfl⟩)))
    have hck : fnC T fn st = true := by
      refine List.all_eq_true.mp hc (fn, st) ?_
      have : (T.fns.zip sts)[f]? = some (fn, st) := by
        rw [List.getElem?_zip_eq_some]; exact ⟨hf, h1⟩
      exact List.mem_of_getElem? this
    refine ⟨_, fd, ⟨_, _, st, F, hck⟩, hmg, F.bindsN h2, fun e he ef => ?_⟩
    obtain ⟨oc, od, dV, kV, doc, pm, an, cdv, ct, osl, rfl, lk, hcd, hD, hK⟩ := F.ex
    rcases hD with ⟨_, rfl⟩ | ⟨z, _⟩
    · exact hk e he fn st (by rw [ef]; exact hf) (by rw [ef]; exact h1) kV doc pm an cdv ct
    · exact absurd rfl z
/-- the law's own def -/
theorem law_stands {K : PySem.W.Frag} {h : Heap} {mg : Str → Option Value} {T : Tab} {sts : List Stmt} {fr : List Str} (X : K.In h) (G : h.Ns mainGlobals mg) (c : SaysM (faOf T fr) (dsOf T.fns sts) (conTb T.con) K)
    (hb : AllB T.fns sts) (hk : ∀ e ∈ T.kws, KwP T.fns sts e) (hc : fnsC T sts = true) (gl : Globs K mg T) {f : Nat} {fn : Fn} (hf : T.fns[f]? = some fn) {a : Addr} (ha : mg (sS fn.nm) = some (.ref a)) {x : Str} (hx : fn.ps = [x]) :
    ∃ fd, (∀ (s : Shared) (v : Value), BindsTo s fd ⟨[v], []⟩ [(x, v)]) ∧ StandsA K mg T f fn a fd := by
  obtain ⟨c1, c2, c3⟩ := c.parts
  obtain ⟨st, h1, h2, h3⟩ := hb.get hf
  obtain ⟨d1, d2⟩ := c2 _ h3
  obtain ⟨fd, F⟩ := He.DefD.funD d2 d1
  have F : FunD K (sS fn.nm) (sS fn.nm) (defArgs st) (defBody st) (defScope st) [] [] (He.ga K (sS fn.nm)) fd := F
  have hmg : mg (sS fn.nm) = some (.ref (He.ga K (sS fn.nm))) := He.glo_ok X G (c1 _ (List.mem_append_left _ (List.mem_map.mpr ⟨fn, List.mem_of_getElem? hf, rfl⟩)))
  have ea : a = He.ga K (sS fn.nm) := by
    rw [ha] at hmg; cases hmg; rfl
  subst ea
  have hck : fnC T fn st = true := by
    refine List.all_eq_true.mp hc (fn, st) ?_
    have : (T.fns.zip sts)[f]? = some (fn, st) := by
      rw [List.getElem?_zip_eq_some]; exact ⟨hf, h1⟩
    exact List.mem_of_getElem? this
  refine ⟨fd, fun s v => ?_, ⟨⟨_, _, st, F, hck⟩, hmg, F.bindsN h2, fun e he ef => ?_⟩⟩
  · have b := F.bindsA (ps := fn.ps) h2 s [v] (by rw [hx]; rfl)
    rw [hx] at b
    exact b
  · obtain ⟨oc, od, dV, kV, doc, pm, an, cdv, ct, osl, rfl, lk, hcd, hD, hK⟩ := F.ex
    rcases hD with ⟨_, rfl⟩ | ⟨z, _⟩
    · exact hk e he fn st (by rw [ef]; exact hf) (by rw [ef]; exact h1) kV doc pm an cdv ct
    · exact absurd rfl z
/-! ### the law -/
def spLaw (K : PySem.W.Frag) (C : Nat → List Av → Option (R × List (List D))) (f : Nat) : Sp := spC K C f 1
theorem law_sp {K : PySem.W.Frag} {C : Nat → List Av → Option (R × List (List D))} {f : Nat} {H : Hp} {a : Addr} {ns : List Int} (hl : ns.length ≤ 63) (hS : SqL K H a (ns.map V.int)) (hC : C f [.d (.lk ns)] = some (.d (.bl true), [])) :
    spC K C f 1 [.ref a] H (fun v _ => v = .bl true) fun _ _ _ => False := by
  have hz : ns.length ≤ SZ := Nat.le_trans hl (by decide)
  have fin : ∀ v F' H', Post K (fun _ => False) (fun b => b = a ∧ H a ≠ none) H [] (.d (.bl true)) [] v F' H' → v = .bl true := fun v F' H' p => p.res
  have rep : Rep K (fun b => b = a ∧ H a ≠ none) H (.lk ns) (.ref a) := by
    refine ⟨a, rfl, ?_, hz⟩
    rcases hS with h | h
    · refine .inl ⟨⟨rfl, ?_⟩, h⟩
      rcases h with h | ⟨o, h⟩ <;> rw [h] <;> intro z <;> cases z
    · exact .inr (.inr h)
  exact ⟨fun _ => False, fun b => b = a ∧ H a ≠ none, [.d (.lk ns)], _, _, rfl, fun b hb => by
    rcases hb with ⟨rfl, hb⟩ | hb
    · exact hb
    · exact hb.elim, fun b hb => hb.elim, ⟨.ref a, [], rfl, rep, rfl⟩, List.nodup_nil, hC, fun v F' H' p => p.res⟩
end Rm

set_option Elab.async false
set_option linter.all false
set_option maxRecDepth 100000
set_option maxHeartbeats 8000000
/-! V0: how to compute with the small language. -/
namespace Rm
open PySem PySem.Spec L2

theorem bnd_app {α β : Type} (m : M α) (f : α → M β) (ρ : En) : bnd m f ρ = (m ρ).bind fun p => f p.1 p.2 := by
  unfold bnd; cases m ρ <;> rfl
theorem bndS_app {α : Type} (m : M α) (f : α → SM) (ρ : En) : bndS m f ρ = (m ρ).bind fun p => f p.1 p.2 := by
  unfold bndS; cases m ρ <;> rfl
theorem lft_app {α : Type} (o : Option α) (ρ : En) : lft o ρ = o.map fun a => (a, ρ) := by
  unfold lft; cases o <;> rfl
theorem ret_app {α : Type} (a : α) (ρ : En) : ret a ρ = some (a, ρ) := rfl
theorem fail_app {α : Type} (ρ : En) : (fail : M α) ρ = none := rfl
/-- what a body's end gives -/
def finR (m : List Bool) : Option Fl → Option (R × List (List D))
  | some (.rt r ρ) => (iosOf m ρ).map fun ios => (r, ios)
  | some (.nx ρ) => (iosOf m ρ).map fun ios => (.d .non, ios)
  | _ => none
theorem run_eq {T : Tab} {C : Nat → List Av → Option (R × List (List D))} {f : Nat} {fn : Fn} {as : List Av} (h : T.fns[f]? = some fn) (m : matchM fn.mask as = true) : runFn T C f as = finR fn.mask (evSs (T.cfg C) fn.body (startE fn.slots.length as)) := by
  unfold runFn; rw [h]
  simp only [if_pos m]
  unfold finR
  cases evSs (T.cfg C) fn.body (startE fn.slots.length as) with
  | none => rfl
  | some fl => cases fl <;> rfl
theorem call_eq {T : Tab} {k f : Nat} {fn : Fn} {as : List Av} (h : T.fns[f]? = some fn) (m : matchM fn.mask as = true) : callF T (k + 1) f as = finR fn.mask (evSs (T.cfg (callF T k)) fn.body (startE fn.slots.length as)) := run_eq h m

/-! ### comprehensions -/
theorem restore_eq {own : List Nat} {ρ ρ' : En} (h : wipeE own ρ' = wipeE own ρ) : restore own ρ ρ' = ρ := by
  have hl : ρ'.length = ρ.length := by
    have := congrArg List.length h
    rwa [wipeE_len, wipeE_len] at this
  apply List.ext_getElem?
  intro j
  rw [restore_at _ _ _ hl.symm]
  by_cases hj : j ∈ own
  · rw [if_pos hj]
  · rw [if_neg hj]
    have e := congrArg (fun l => l[j]?) h
    simp only [wipeE_at, if_neg hj] at e
    exact e
/-- a comprehension, turn by turn -/
theorem compL_ind {own : List Nat} {f : D → M (Option D)} : ∀ (ds : List D) (P : Nat → List D → En → Prop) (ρ : En), P 0 [] ρ → freeSlots own ρ = true →
    (∀ i acc ρ d, P i acc ρ → freeSlots own ρ = true → ds[i]? = some d → ∃ o ρ', f d (wipeE own ρ) = some (o, ρ') ∧ freeSlots own ρ' = true ∧ P (i + 1) (acc ++ o.toList) ρ') →
    ∃ ys ρ', compL own f ds ρ = some (ys, ρ') ∧ P ds.length ys ρ'
  | [], P, ρ, h0, fr, hs => ⟨[], ρ, rfl, h0⟩
  | d :: ds, P, ρ, h0, fr, hs => by
    obtain ⟨o, ρ1, e1, f1, p1⟩ := hs 0 [] ρ d h0 fr rfl
    obtain ⟨ys, ρ2, e2, p2⟩ := compL_ind ds (fun i acc ρ => P (i + 1) (o.toList ++ acc) ρ) ρ1 (by simpa using p1) f1 fun i acc ρ d hp hf hd => by
      obtain ⟨o', ρ', a, b, c⟩ := hs (i + 1) (o.toList ++ acc) ρ d hp hf (by simpa using hd)
      exact ⟨o', ρ', a, b, by rw [← List.append_assoc]; exact c⟩
    refine ⟨o.toList ++ ys, ρ2, ?_, p2⟩
    show (if freeSlots own ρ then _ else none) = _
    rw [if_pos fr, bnd_app, e1]
    show bnd (compL own f ds) _ ρ1 = _
    rw [bnd_app, e2]
    cases o <;> rfl
theorem freeW {own : List Nat} {ρ : En} (h : freeSlots own ρ = true) : freeSlots own (wipeE own ρ) = true := by
  refine List.all_eq_true.mpr fun j hj => ?_
  have hl : j < ρ.length := by
    rcases free_at h hj with z | ⟨d, z⟩ <;> exact (List.getElem?_eq_some_iff.mp z).1
  rw [wipeE_at, if_pos hj, if_pos hl]
/-- .. all of it: P speaks of the state behind a turn -/
theorem compV_ind {own : List Nat} {it : M (List D)} {f : D → M (Option D)} (P : Nat → List D → En → Prop) {ρ ρ1 : En} {ds : List D} (hi : it ρ = some (ds, ρ1)) (hE : freeSlots own ρ1 = true) (hz : ds.length ≤ SZ) (h0 : P 0 [] ρ1)
    (hs : ∀ i acc ρ d, P i acc ρ → freeSlots own ρ = true → ds[i]? = some d → ∃ o ρ', f d (wipeE own ρ) = some (o, ρ') ∧ freeSlots own ρ' = true ∧ P (i + 1) (acc ++ o.toList) ρ') :
    ∃ ys ρ', compV own it f ρ = some (.fr ys, restore own ρ1 ρ') ∧ P ds.length ys ρ' := by
  obtain ⟨ys, ρ', e, p⟩ := compL_ind ds P ρ1 h0 hE hs
  refine ⟨ys, ρ', ?_, p⟩
  unfold compV
  rw [bnd_app, hi]
  show (if freeSlots own ρ1 && decide (ds.length ≤ SZ) then _ else none) = _
  rw [hE, decide_eq_true hz, e]; rfl
/-- .. that change nothing -/
theorem compV_pure {own : List Nat} {it : M (List D)} {f : D → M (Option D)} (g : D → Option D) {ρ ρ1 : En} {ds : List D} (hi : it ρ = some (ds, ρ1)) (hE : freeSlots own ρ1 = true) (hz : ds.length ≤ SZ)
    (hf : ∀ d, d ∈ ds → ∃ ρ', f d (wipeE own ρ1) = some (g d, ρ') ∧ wipeE own ρ' = wipeE own ρ1 ∧ freeSlots own ρ' = true) :
    compV own it f ρ = some (.fr (ds.filterMap g), ρ1) := by
  obtain ⟨ys, ρ', e, hy, w⟩ := compV_ind (it := it) (f := f) (fun i acc ρ' => acc = (ds.take i).filterMap g ∧ wipeE own ρ' = wipeE own ρ1) hi hE hz ⟨rfl, rfl⟩ fun i acc ρ2 d ⟨ha, hw⟩ _ hd => by
    obtain ⟨ρ3, e3, w3, f3⟩ := hf d (List.mem_of_getElem? hd)
    refine ⟨g d, ρ3, by rw [hw]; exact e3, f3, ?_, w3⟩
    have : ds.take (i + 1) = ds.take i ++ [d] := by
      rw [List.take_add_one, hd]; rfl
    rw [this, List.filterMap_append, ha]
    cases hg : g d <;> simp [hg]
  rw [e, restore_eq w, hy, List.take_length]

theorem compV_map {α : Type} {own : List Nat} {it : M (List D)} {f : D → M (Option D)} (l : List α) (e F : α → D) {ρ ρ1 : En} (hi : it ρ = some (l.map e, ρ1)) (hE : freeSlots own ρ1 = true) (hz : l.length ≤ SZ)
    (hf : ∀ a, a ∈ l → ∃ ρ', f (e a) (wipeE own ρ1) = some (some (F a), ρ') ∧ wipeE own ρ' = wipeE own ρ1 ∧ freeSlots own ρ' = true) :
    compV own it f ρ = some (.fr (l.map F), ρ1) := by
  obtain ⟨ys, ρ', e, hy, w⟩ := compV_ind (it := it) (f := f) (fun i acc ρ' => acc = (l.take i).map F ∧ wipeE own ρ' = wipeE own ρ1) hi hE (by rw [List.length_map]; exact hz) ⟨rfl, rfl⟩ fun i acc ρ2 d ⟨ha, hw⟩ _ hd => by
    rw [List.getElem?_map] at hd
    cases ea : l[i]? with
    | none => rw [ea] at hd; cases hd
    | some a =>
      rw [ea] at hd; cases hd
      obtain ⟨ρ3, e3, w3, f3⟩ := hf a (List.mem_of_getElem? ea)
      refine ⟨some (F a), ρ3, by rw [hw]; exact e3, f3, ?_, w3⟩
      have : l.take (i + 1) = l.take i ++ [a] := by
        rw [List.take_add_one, ea]; rfl
      rw [this, List.map_append, ha]
      rfl
  rw [e, restore_eq w, hy, List.length_map, List.take_length]
theorem compV_filter {α : Type} {own : List Nat} {it : M (List D)} {f : D → M (Option D)} (l : List α) (e F : α → D) (p : α → Bool) {ρ ρ1 : En} (hi : it ρ = some (l.map e, ρ1)) (hE : freeSlots own ρ1 = true) (hz : l.length ≤ SZ)
    (hf : ∀ a, a ∈ l → ∃ ρ', f (e a) (wipeE own ρ1) = some (if p a then some (F a) else none, ρ') ∧ wipeE own ρ' = wipeE own ρ1 ∧ freeSlots own ρ' = true) :
    compV own it f ρ = some (.fr ((l.filter p).map F), ρ1) := by
  obtain ⟨ys, ρ', e, hy, w⟩ := compV_ind (it := it) (f := f) (fun i acc ρ' => acc = ((l.take i).filter p).map F ∧ wipeE own ρ' = wipeE own ρ1) hi hE (by rw [List.length_map]; exact hz) ⟨rfl, rfl⟩ fun i acc ρ2 d ⟨ha, hw⟩ _ hd => by
    rw [List.getElem?_map] at hd
    cases ea : l[i]? with
    | none => rw [ea] at hd; cases hd
    | some a =>
      rw [ea] at hd; cases hd
      obtain ⟨ρ3, e3, w3, f3⟩ := hf a (List.mem_of_getElem? ea)
      refine ⟨_, ρ3, by rw [hw]; exact e3, f3, ?_, w3⟩
      have : l.take (i + 1) = l.take i ++ [a] := by
        rw [List.take_add_one, ea]; rfl
      rw [this, List.filter_append, List.map_append, ha]
      congr 1
      cases hp : p a <;> simp [hp]
  rw [e, restore_eq w, hy, List.length_map, List.take_length]

/-! ### loops -/
theorem forL_ind {f : D → SM} : ∀ (ds : List D) (P : Nat → En → Prop) (ρ : En), P 0 ρ → (∀ i ρ d, P i ρ → ds[i]? = some d → ∃ ρ', (f d ρ = some (.nx ρ') ∨ f d ρ = some (.ct ρ')) ∧ P (i + 1) ρ') →
    ∃ ρ', forL f ds ρ = some (.nx ρ') ∧ P ds.length ρ'
  | [], P, ρ, h0, hs => ⟨ρ, rfl, h0⟩
  | d :: ds, P, ρ, h0, hs => by
    obtain ⟨ρ1, e1, p1⟩ := hs 0 ρ d h0 rfl
    obtain ⟨ρ2, e2, p2⟩ := forL_ind ds (fun i ρ => P (i + 1) ρ) ρ1 p1 fun i ρ d hp hd => hs (i + 1) ρ d hp (by simpa using hd)
    refine ⟨ρ2, ?_, p2⟩
    unfold forL
    rcases e1 with e1 | e1 <;> rw [e1] <;> exact e2
theorem whileN_more {c : M Bool} {b : SM} : ∀ (n m : Nat) (ρ : En) (r : Fl), whileN c b n ρ = some r → whileN c b (n + m) ρ = some r
  | 0, m, ρ, r, h => by cases h
  | n + 1, m, ρ, r, h => by
    rw [show n + 1 + m = (n + m) + 1 by omega]
    unfold whileN at h ⊢
    obtain ⟨t, ρ1, h1, h2⟩ := bndS_some h
    rw [bndS_app, h1]
    show (if t then _ else nextS) ρ1 = some r
    cases t with
    | false => exact h2
    | true =>
      have h2 : (match b ρ1 with | some (.nx ρ') => whileN c b n ρ' | some (.ct ρ') => whileN c b n ρ' | some (.bk ρ') => some (.nx ρ') | some (.rt r ρ') => some (.rt r ρ') | none => none) = some r := h2
      show (match b ρ1 with | some (.nx ρ') => whileN c b (n + m) ρ' | some (.ct ρ') => whileN c b (n + m) ρ' | some (.bk ρ') => some (.nx ρ') | some (.rt r ρ') => some (.rt r ρ') | none => none) = some r
      revert h2
      cases b ρ1 with
      | none => exact fun h => h
      | some fl =>
        cases fl with
        | nx ρ' => exact whileN_more n m ρ' r
        | ct ρ' => exact whileN_more n m ρ' r
        | bk ρ' => exact fun h => h
        | rt r' ρ' => exact fun h => h
theorem whileS_of {c : M Bool} {b : SM} {n : Nat} {ρ : En} {r : Fl} (h : whileN c b n ρ = some r) : whileS c b ρ = some r := by
  unfold whileS
  have ex : ∃ n r, whileN c b n ρ = some r := ⟨n, r, h⟩
  rw [dif_pos ex]
  have h2 := ex.choose_spec.choose_spec
  have a := whileN_more _ ex.choose _ _ h
  have b := whileN_more _ n _ _ h2
  rw [Nat.add_comm, b] at a
  exact a
end Rm

set_option Elab.async false
set_option linter.all false
set_option maxRecDepth 100000
set_option maxHeartbeats 8000000
/-! V1: the small language step by step, as rules to rewrite with. -/
namespace Rm
open PySem PySem.Spec L2

def minNF : D → Option R
  | .lst [] => some (.d .non)
  | _ => Option.none
def obn {α β : Type} (o : Option α) (f : α → Option β) : Option β := match o with
  | none => none
  | some a => f a
theorem obn_some {α β : Type} (a : α) (f : α → Option β) : obn (some a) f = f a := rfl
theorem obn_none {α β : Type} (f : α → Option β) : obn none f = none := rfl
theorem obn_congr {α β : Type} {o o' : Option α} {f : α → Option β} (h : o = o') : obn o f = obn o' f := by rw [h]
def brn {β : Type} (t : Bool) (a b : Option β) : Option β := if t then a else b
theorem brn_true {β : Type} (a b : Option β) : brn true a b = a := rfl
theorem brn_false {β : Type} (a b : Option β) : brn false a b = b := rfl
theorem brn_congr {β : Type} {t t' : Bool} {a b : Option β} (h : t = t') : brn t a b = brn t' a b := by rw [h]
theorem bnd_obn {α β : Type} (m : M α) (f : α → M β) (ρ : En) : bnd m f ρ = obn (m ρ) fun p => f p.1 p.2 := by
  unfold bnd obn; cases m ρ <;> rfl
theorem bndS_obn {α : Type} (m : M α) (f : α → SM) (ρ : En) : bndS m f ρ = obn (m ρ) fun p => f p.1 p.2 := by
  unfold bndS obn; cases m ρ <;> rfl
def mp {α : Type} (o : Option α) (ρ : En) : Option (α × En) := match o with
  | none => none
  | some a => some (a, ρ)
theorem mp_some {α : Type} (a : α) (ρ : En) : mp (some a) ρ = some (a, ρ) := rfl
theorem lft_mp {α : Type} (o : Option α) (ρ : En) : lft o ρ = mp o ρ := by unfold lft mp; cases o <;> rfl

section
variable (G : Cfg) (ρ : En)
/-! values -/
theorem v_var (i : Nat) : (evE G (.var i)).v ρ = getVar i ρ := rfl
theorem v_int (n : Int) : (evE G (.int n)).v ρ = some (.d (.int n), ρ) := rfl
theorem v_str (n : List Nat) : (evE G (.str n)).v ρ = some (.d (.str n), ρ) := rfl
theorem v_bl (n : Bool) : (evE G (.bl n)).v ρ = some (.d (.bl n), ρ) := rfl
theorem v_non : (evE G .non).v ρ = some (.d .non, ρ) := rfl
theorem v_glob (n : Nat) : (evE G (.glob n)).v ρ = some (.d (G.con n), ρ) := rfl
theorem v_bin (o : BOp) (a b : E) : (evE G (.bin o a b)).v ρ = obn ((evE G a).v ρ) fun p => obn ((evE G b).v p.2) fun q => mp (o.f p.1.toD q.1.toD) q.2 := by
  show bnd _ _ ρ = _; simp only [bnd_obn, lft_mp]
theorem v_neg (a : E) : (evE G (.neg a)).v ρ = obn ((evE G a).v ρ) fun p => mp ((toI p.1.toD).map fun i => .d (.int (-i))) p.2 := by
  show bnd _ _ ρ = _; simp only [bnd_obn, lft_mp]
theorem v_cmp (o : COp) (a b : E) : (evE G (.cmp o a b)).v ρ = obn ((evE G (.cmp o a b)).t ρ) fun p => some (.d (.bl p.1), p.2) := by
  show bnd _ _ ρ = _; simp only [bnd_obn]; rfl
theorem v_chain (o o' : COp) (a b c : E) : (evE G (.chain o o' a b c)).v ρ = obn ((evE G (.chain o o' a b c)).t ρ) fun p => some (.d (.bl p.1), p.2) := by
  show bnd _ _ ρ = _; simp only [bnd_obn]; rfl
theorem v_and (a b : E) : (evE G (.and a b)).v ρ = obn ((evE G a).v ρ) fun p => obn (truth p.1.toD) fun t => brn t ((evE G b).v p.2) (some (.d p.1.toD, p.2)) := by
  show andV _ _ ρ = _
  simp only [andV, bnd_obn, lft_mp]
  congr 1; funext p
  unfold mp; cases truth p.1.toD with
  | none => rfl
  | some t => cases t <;> rfl
theorem v_or (a b : E) : (evE G (.or a b)).v ρ = obn ((evE G a).v ρ) fun p => obn (truth p.1.toD) fun t => brn t (some (.d p.1.toD, p.2)) ((evE G b).v p.2) := by
  show orV _ _ ρ = _
  simp only [orV, bnd_obn, lft_mp]
  congr 1; funext p
  unfold mp; cases truth p.1.toD with
  | none => rfl
  | some t => cases t <;> rfl
theorem v_not (a : E) : (evE G (.not a)).v ρ = obn ((evE G a).w ρ) fun p => obn (look p.1 p.2) fun q => obn (truth q.1) fun t => some (.d (.bl !t), q.2) := by
  show bnd _ _ ρ = _
  simp only [tstW, bnd_obn, lft_mp]
  unfold obn
  cases (evE G a).w ρ with
  | none => rfl
  | some p =>
    dsimp only
    cases look p.1 p.2 with
    | none => rfl
    | some q =>
      dsimp only
      unfold mp
      cases truth q.1 <;> rfl
theorem v_ife (c a b : E) : (evE G (.ife c a b)).v ρ = obn ((evE G c).t ρ) fun p => brn p.1 ((evE G a).v p.2) ((evE G b).v p.2) := by
  show iteV _ _ _ ρ = _
  simp only [iteV, bnd_obn]
  congr 1; funext p
  cases p.1 <;> rfl
theorem v_tup (es : Es) : (evE G (.tup es)).v ρ = obn ((evEs G es).ds ρ) fun p => mp (mkTup p.1) p.2 := by
  show bnd _ _ ρ = _; simp only [bnd_obn, lft_mp]
theorem v_lst (es : Es) : (evE G (.lst es)).v ρ = obn ((evEs G es).ds ρ) fun p => mp (mkLst p.1) p.2 := by
  show bnd _ _ ρ = _; simp only [bnd_obn, lft_mp]
theorem v_idx (a b : E) : (evE G (.idx a b)).v ρ = obn ((evE G a).w ρ) fun p => obn ((evE G b).v p.2) fun q => obn (look p.1 q.2) fun z => mp ((dIdx z.1 q.1.toD).map .d) z.2 := by
  show idxV _ _ ρ = _; simp only [idxV, bnd_obn, lft_mp]
theorem v_sli (a l h : E) : (evE G (.sli a l h)).v ρ = obn ((evE G a).w ρ) fun p => obn ((evE G l).p p.2) fun q => obn ((evE G h).p q.2) fun r => obn (look p.1 r.2) fun z => mp (dSli z.1 q.1 r.1) z.2 := by
  show sliV _ _ _ ρ = _; simp only [sliV, bnd_obn, lft_mp]
theorem v_call (f : Nat) (as : Es) : (evE G (.call f as)).v ρ = obn ((evEs G as).as (G.mask f) ρ) fun p => doCall G f p.1 p.2 := by
  show callV G f _ ρ = _; simp only [callV, bnd_obn]
def perm1 {α β : Type} (as : List α) (ks : List Nat) (f : List α → Option β) : Option β := match permute as ks with
  | none => none
  | some vs => f vs
theorem v_callK (f : Nat) (as ks : Es) (ix : Nat) : (evE G (.callK f as ks ix)).v ρ = obn ((evEs G as).as [] ρ) fun p => obn ((evEs G ks).as [] p.2) fun q => obn (permute (p.1 ++ q.1) (G.perm ix)) fun vs => doCall G f vs q.2 := by
  show callKV G f _ _ ix ρ = _
  simp only [callKV, bnd_obn]
  congr 1; funext p
  congr 1; funext q
  unfold obn
  cases permute (p.1 ++ q.1) (G.perm ix) <;> rfl
theorem v_blt (b : Bf) (as : Es) : (evE G (.blt b as)).v ρ = obn ((evEs G as).ws ρ) fun p => obn (looks p.1 p.2) fun q => mp (b.f q.1) q.2 := by
  show bnd _ _ ρ = _; simp only [bnd_obn, lft_mp]
theorem v_minN (e : E) : (evE G (.minN e)).v ρ = obn ((evE G e).v ρ) fun p => mp (minNF p.1.toD) p.2 := by
  show bnd _ _ ρ = _; simp only [bnd_obn]
  congr 1; funext p
  generalize p.1.toD = y
  cases y with
  | lst l => cases l <;> rfl
  | _ => rfl
theorem v_isi (e : E) (t : Ty) : (evE G (.isi e t)).v ρ = obn ((evE G e).w ρ) fun p => obn (look p.1 p.2) fun q => some (.d (.bl (t.has q.1)), q.2) := by
  show bnd _ _ ρ = _; simp only [bnd_obn]; rfl
theorem v_met (m : Mt) (e : E) (as : Es) : (evE G (.met m e as)).v ρ = obn ((evE G e).v ρ) fun p => obn ((evEs G as).ws p.2) fun q => obn (looks q.1 q.2) fun r => mp (m.f p.1.toD r.1) r.2 := by
  show metV _ _ _ ρ = _; simp only [metV, bnd_obn, lft_mp]
theorem v_mut (m : Mc) (i : Nat) (e : E) : (evE G (.mut m i e)).v ρ = obn (isOwn i ρ) fun p => obn ((evE G e).v p.2) fun q => obn (chg i (m.f q.1.toD) q.2) fun r => some (.d .non, r.2) := by
  show mutV _ _ _ ρ = _; simp only [mutV, bnd_obn]; rfl
theorem v_comp (own : List Nat) (t : Tg) (it : It) (c e : E) : (evE G (.comp own t it c e)).v ρ = compV own (evI G it) (turnC (evG G t) (evE G c) (evE G e)) ρ := rfl
theorem v_listIt (it : It) : (evE G (.listIt it)).v ρ = obn (evI G it ρ) fun p => mp (mkLst p.1) p.2 := by
  show bnd _ _ ρ = _; simp only [bnd_obn, lft_mp]
/-! read ahead of use -/
theorem w_var (i : Nat) : (evE G (.var i)).w ρ = getW i ρ := rfl
/-- what is no name -/
def E.plain : E → Bool
  | .var _ => false
  | .int _ => true
  | .str _ => true
  | .bl _ => true
  | .non => true
  | .glob _ => true
  | .bin _ _ _ => true
  | .neg _ => true
  | .cmp _ _ _ => true
  | .chain _ _ _ _ _ => true
  | .and _ _ => true
  | .or _ _ => true
  | .not _ => true
  | .ife _ _ _ => true
  | .tup _ => true
  | .lst _ => true
  | .idx _ _ => true
  | .sli _ _ _ => true
  | .absent => false
  | .call _ _ => true
  | .callK _ _ _ _ => true
  | .blt _ _ => true
  | .minN _ => true
  | .isi _ _ => true
  | .met _ _ _ => true
  | .mut _ _ _ => true
  | .comp _ _ _ _ _ => true
  | .listIt _ => true
theorem w_of {e : E} (h : e.plain = true) : (evE G e).w ρ = obn ((evE G e).v ρ) fun p => some (.v p.1.toD, p.2) := by
  have k : ∀ m : M R, wV m ρ = obn (m ρ) fun p => some (.v p.1.toD, p.2) := fun m => by show bnd _ _ ρ = _; simp only [bnd_obn]; rfl
  have k2 : ∀ t : M Bool, bnd t (fun b => ret (W.v (.bl b))) ρ = obn (bnd t (fun b => ret (R.d (.bl b))) ρ) fun p => some (.v p.1.toD, p.2) := fun t => by
    simp only [bnd_obn]; unfold obn; cases t ρ <;> rfl
  have h1 : (evE G e).w = wV (evE G e).v ∨ ∃ t, (evE G e).v = bnd t (fun b => ret (R.d (.bl b))) ∧ (evE G e).w = bnd t (fun b => ret (W.v (.bl b))) := by
    cases e <;> first | (cases h; done) | exact .inl rfl | exact .inr ⟨_, rfl, rfl⟩
  rcases h1 with h1 | ⟨t, h1, h2⟩
  · rw [h1]; exact k _
  · rw [h1, h2]; exact k2 t
/-! tests -/
theorem t_var (i : Nat) : (evE G (.var i)).t ρ = obn (getW i ρ) fun p => obn (look p.1 p.2) fun q => mp (truth q.1) q.2 := by
  show tstW _ ρ = _; simp only [tstW, bnd_obn, lft_mp]
theorem t_cmp (o : COp) (a b : E) : (evE G (.cmp o a b)).t ρ = obn ((evE G a).w ρ) fun p => obn ((evE G b).w p.2) fun q => obn (look p.1 q.2) fun x => obn (look q.1 x.2) fun y => mp (o.f x.1 y.1) y.2 := by
  show cmpT _ _ _ ρ = _; simp only [cmpT, bnd_obn, lft_mp]
theorem t_chain (o o' : COp) (a b c : E) : (evE G (.chain o o' a b c)).t ρ = obn ((evE G a).v ρ) fun p => obn ((evE G b).v p.2) fun q => obn (o.f p.1.toD q.1.toD) fun t => brn t (obn ((evE G c).v q.2) fun r => mp (o'.f q.1.toD r.1.toD) r.2) (some (false, q.2)) := by
  show chainT _ _ _ _ _ ρ = _
  simp only [chainT, bnd_obn, lft_mp]
  congr 1; funext p; congr 1; funext q
  cases o.f p.1.toD q.1.toD with
  | none => rfl
  | some t => cases t with
    | true => show bnd _ _ _ = _; simp only [bnd_obn, lft_mp]; rfl
    | false => rfl
theorem t_and (a b : E) : (evE G (.and a b)).t ρ = obn ((evE G a).t ρ) fun p => brn p.1 ((evE G b).t p.2) (some (false, p.2)) := by
  show andT _ _ ρ = _; simp only [andT, bnd_obn]; congr 1; funext p; cases p.1 <;> rfl
theorem t_or (a b : E) : (evE G (.or a b)).t ρ = obn ((evE G a).t ρ) fun p => brn p.1 (some (true, p.2)) ((evE G b).t p.2) := by
  show orT _ _ ρ = _; simp only [orT, bnd_obn]; congr 1; funext p; cases p.1 <;> rfl
theorem t_not (a : E) : (evE G (.not a)).t ρ = obn ((evE G a).t ρ) fun p => some (!p.1, p.2) := by
  show notT _ ρ = _; simp only [notT, bnd_obn]; rfl
/-- what is a test by its value -/
def E.byV : E → Bool
  | .var _ => false
  | .int _ => true
  | .str _ => true
  | .bl _ => true
  | .non => true
  | .glob _ => true
  | .bin _ _ _ => true
  | .neg _ => true
  | .cmp _ _ _ => false
  | .chain _ _ _ _ _ => false
  | .and _ _ => false
  | .or _ _ => false
  | .not _ => false
  | .ife _ _ _ => false
  | .tup _ => true
  | .lst _ => true
  | .idx _ _ => true
  | .sli _ _ _ => true
  | .absent => false
  | .call _ _ => true
  | .callK _ _ _ _ => true
  | .blt _ _ => true
  | .minN _ => true
  | .isi _ _ => true
  | .met _ _ _ => true
  | .mut _ _ _ => true
  | .comp _ _ _ _ _ => true
  | .listIt _ => true
theorem t_of {e : E} (h : e.byV = true) : (evE G e).t ρ = obn ((evE G e).v ρ) fun p => mp (truth p.1.toD) p.2 := by
  have k : ∀ m : M R, tstW (wV m) ρ = obn (m ρ) fun p => mp (truth p.1.toD) p.2 := fun m => by
    simp only [tstW, wV, bnd_obn, lft_mp]
    unfold obn
    cases m ρ <;> rfl
  have h1 : (evE G e).t = tstW (wV (evE G e).v) := by
    cases e <;> first | (cases h; done) | rfl
  rw [h1]; exact k _
/-! parts of a cut -/
theorem p_absent : (evE G .absent).p ρ = some (none, ρ) := rfl
def E.byP : E → Bool
  | .var _ => true
  | .int _ => true
  | .str _ => true
  | .bl _ => true
  | .non => true
  | .glob _ => true
  | .bin _ _ _ => true
  | .neg _ => true
  | .cmp _ _ _ => false
  | .chain _ _ _ _ _ => false
  | .and _ _ => true
  | .or _ _ => true
  | .not _ => true
  | .ife _ _ _ => true
  | .tup _ => true
  | .lst _ => true
  | .idx _ _ => true
  | .sli _ _ _ => true
  | .absent => false
  | .call _ _ => true
  | .callK _ _ _ _ => true
  | .blt _ _ => true
  | .minN _ => true
  | .isi _ _ => true
  | .met _ _ _ => true
  | .mut _ _ _ => true
  | .comp _ _ _ _ _ => true
  | .listIt _ => true
theorem p_of {e : E} (h : e.byP = true) : (evE G e).p ρ = obn ((evE G e).v ρ) fun p => obn (toI p.1.toD) fun i => some (some i, p.2) := by
  have k : ∀ m : M R, partV m ρ = obn (m ρ) fun p => obn (toI p.1.toD) fun i => some (some i, p.2) := fun m => by
    simp only [partV, bnd_obn, lft_mp]
    unfold obn
    cases m ρ with
    | none => rfl
    | some p => dsimp only; unfold mp; cases toI p.1.toD <;> rfl
  have h1 : (evE G e).p = partV (evE G e).v := by
    cases e <;> first | (cases h; done) | rfl
  rw [h1]; exact k _
/-! rows of expressions -/
theorem ds_nil : (evEs G .nil).ds ρ = some ([], ρ) := rfl
theorem ds_cons (e : E) (r : Es) : (evEs G (.cons e r)).ds ρ = obn ((evE G e).v ρ) fun p => obn ((evEs G r).ds p.2) fun q => some (p.1.toD :: q.1, q.2) := by
  show bnd _ _ ρ = _; simp only [bnd_obn]; rfl
theorem ds_star (e : E) (r : Es) : (evEs G (.star e r)).ds ρ = obn ((evE G e).v ρ) fun p => obn ((evEs G r).ds p.2) fun q => mp (starOf p.1.toD q.1) q.2 := by
  show bnd _ _ ρ = _; simp only [bnd_obn, lft_mp]
theorem ws_nil : (evEs G .nil).ws ρ = some ([], ρ) := rfl
theorem ws_cons (e : E) (r : Es) : (evEs G (.cons e r)).ws ρ = obn ((evE G e).w ρ) fun p => obn ((evEs G r).ws p.2) fun q => some (p.1 :: q.1, q.2) := by
  show bnd _ _ ρ = _; simp only [bnd_obn]; rfl
theorem as_nil (m : List Bool) : (evEs G .nil).as m ρ = some ([], ρ) := rfl
theorem as_cons0 (e : E) (r : Es) : (evEs G (.cons e r)).as [] ρ = obn ((evE G e).v ρ) fun p => obn ((evEs G r).as [] p.2) fun q => some (.d p.1.toD :: q.1, q.2) := by
  show bnd (bnd _ _) _ ρ = _; simp only [bnd_obn, ret_app]
  unfold obn
  cases (evE G e).v ρ <;> rfl
theorem as_consF (e : E) (r : Es) (m : List Bool) : (evEs G (.cons e r)).as (false :: m) ρ = obn ((evE G e).v ρ) fun p => obn ((evEs G r).as m p.2) fun q => some (.d p.1.toD :: q.1, q.2) := by
  show bnd (bnd _ _) _ ρ = _; simp only [bnd_obn, ret_app]
  unfold obn
  cases (evE G e).v ρ <;> rfl
theorem as_consT (i : Nat) (r : Es) (m : List Bool) : (evEs G (.cons (.var i) r)).as (true :: m) ρ = obn (isOwn i ρ) fun p => obn ((evEs G r).as m p.2) fun q => some (.sl i :: q.1, q.2) := by
  show bnd (bnd _ _) _ ρ = _; simp only [bnd_obn, ret_app]
  unfold obn
  cases isOwn i ρ <;> rfl
/-! what is gone through -/
theorem i_of (e : E) : evI G (.of e) ρ = obn ((evE G e).v ρ) fun p => mp (items p.1.toD) p.2 := by
  show bnd _ _ ρ = _; simp only [bnd_obn, lft_mp]
theorem i_range (es : Es) : evI G (.range es) ρ = obn ((evEs G es).ds ρ) fun p => mp (rangeD p.1) p.2 := by
  show bnd _ _ ρ = _; simp only [bnd_obn, lft_mp]
theorem i_enum (e : E) (k : Int) : evI G (.enum e k) ρ = obn ((evE G e).v ρ) fun p => mp ((items p.1.toD).map (enumL k)) p.2 := by
  show bnd _ _ ρ = _; simp only [bnd_obn, lft_mp]
/-! targets -/
theorem g_name (i : Nat) (d : D) : evG G (.name i) d ρ = setVar i (.d d) ρ := rfl
theorem g_tup (ts : Tgs) (ds : List D) : evG G (.tup ts) (.tup ds) ρ = evGs G ts ds ρ := rfl
theorem g_sub (i : Nat) (e : E) (d : D) : evG G (.sub i e) d ρ = obn (isOwn i ρ) fun p => obn ((evE G e).v p.2) fun q => obn (toI q.1.toD) fun k => chg i (fun xs => (ixN xs.length k).map fun j => xs.set j d) q.2 := by
  show subG _ _ _ ρ = _
  simp only [subG, bnd_obn, lft_mp]
  congr 1; funext p; congr 1; funext q
  cases toI q.1.toD <;> rfl
theorem gs_nil : evGs G .nil [] ρ = some ((), ρ) := rfl
theorem gs_cons (t : Tg) (r : Tgs) (d : D) (ds : List D) : evGs G (.cons t r) (d :: ds) ρ = obn (evG G t d ρ) fun p => evGs G r ds p.2 := by
  show bnd _ _ ρ = _; simp only [bnd_obn]
/-! a comprehension's turn -/
theorem turn_if (t : Tg) (c e : E) (d : D) (hc : (evE G c).ab = false) : turnC (evG G t) (evE G c) (evE G e) d ρ = obn (evG G t d ρ) fun p => obn ((evE G c).t p.2) fun q => brn q.1 (obn ((evE G e).v q.2) fun r => some (some r.1.toD, r.2)) (some (none, q.2)) := by
  show bnd _ _ ρ = _
  unfold testC; rw [hc]
  simp only [bnd_obn]
  congr 1; funext p
  show obn ((evE G c).t p.2) _ = _
  congr 1; funext q
  cases q.1
  · rfl
  · show bnd _ _ q.2 = _; simp only [bnd_obn]; rfl
theorem turn_all (t : Tg) (e : E) (d : D) : turnC (evG G t) (evE G .absent) (evE G e) d ρ = obn (evG G t d ρ) fun p => obn ((evE G e).v p.2) fun r => some (some r.1.toD, r.2) := by
  show bnd _ _ ρ = _
  simp only [bnd_obn]
  congr 1; funext p
  show bnd _ _ p.2 = _
  simp only [bnd_obn]; rfl
/-! statements -/
theorem s_nil : evSs G .nil ρ = some (.nx ρ) := rfl
def fwd (o : Option Fl) (f : En → Option Fl) : Option Fl := match o with
  | some (.nx ρ') => f ρ'
  | o => o
theorem fwd_nx (f : En → Option Fl) : fwd (some (.nx ρ)) f = f ρ := rfl
theorem fwd_rt (r : R) (f : En → Option Fl) : fwd (some (.rt r ρ)) f = some (.rt r ρ) := rfl
theorem fwd_bk (f : En → Option Fl) : fwd (some (.bk ρ)) f = some (.bk ρ) := rfl
theorem fwd_ct (f : En → Option Fl) : fwd (some (.ct ρ)) f = some (.ct ρ) := rfl
theorem fwd_congr {o o' : Option Fl} {f : En → Option Fl} (h : o = o') : fwd o f = fwd o' f := by rw [h]
theorem s_cons (s : S) (r : Ss) : evSs G (.cons s r) ρ = fwd (evS G s ρ) (evSs G r) := by
  show seqS _ _ ρ = _
  unfold seqS fwd
  cases evS G s ρ with
  | none => rfl
  | some fl => cases fl <;> rfl
theorem s_asg (i : Nat) (e : E) : evS G (.asg (.name i) e) ρ = obn ((evE G e).v ρ) fun p => obn (setVar i p.1 p.2) fun q => some (.nx q.2) := by
  show bndS _ _ ρ = _; simp only [bndS_obn]; rfl
theorem s_asgT (ts : Tgs) (e : E) : evS G (.asg (.tup ts) e) ρ = obn ((evE G e).v ρ) fun p => obn (evG G (.tup ts) p.1.toD p.2) fun q => some (.nx q.2) := by
  show bndS _ _ ρ = _; simp only [bndS_obn]; rfl
theorem s_asgS (i : Nat) (k e : E) : evS G (.asg (.sub i k) e) ρ = obn ((evE G e).v ρ) fun p => obn (evG G (.sub i k) p.1.toD p.2) fun q => some (.nx q.2) := by
  show bndS _ _ ρ = _; simp only [bndS_obn]; rfl
theorem s_par (is : List Nat) (es : Es) : evS G (.par is es) ρ = obn (evRs G es ρ) fun p => obn (setVars is p.1 p.2) fun q => some (.nx q.2) := by
  show bndS _ _ ρ = _; simp only [bndS_obn]; rfl
theorem rs_nil : evRs G .nil ρ = some ([], ρ) := rfl
theorem rs_cons (e : E) (r : Es) : evRs G (.cons e r) ρ = obn ((evE G e).v ρ) fun p => obn (evRs G r p.2) fun q => some (p.1 :: q.1, q.2) := by
  show bnd _ _ ρ = _; simp only [bnd_obn]; rfl
theorem sv_nil : setVars [] [] ρ = some ((), ρ) := rfl
theorem sv_cons (i : Nat) (is : List Nat) (r : R) (rs : List R) : setVars (i :: is) (r :: rs) ρ = obn (setVar i r ρ) fun p => setVars is rs p.2 := by
  show bnd _ _ ρ = _; simp only [bnd_obn]
theorem s_retV (i : Nat) : evS G (.ret (.var i)) ρ = obn (retV (mkV i) ρ) fun p => some (.rt p.1 p.2) := by
  show bndS _ _ ρ = _; simp only [bndS_obn]; rfl
/-- what is no name -/
def E.noV : E → Bool
  | .var _ => false
  | .int _ => true
  | .str _ => true
  | .bl _ => true
  | .non => true
  | .glob _ => true
  | .bin _ _ _ => true
  | .neg _ => true
  | .cmp _ _ _ => true
  | .chain _ _ _ _ _ => true
  | .and _ _ => true
  | .or _ _ => true
  | .not _ => true
  | .ife _ _ _ => true
  | .tup _ => true
  | .lst _ => true
  | .idx _ _ => true
  | .sli _ _ _ => true
  | .absent => true
  | .call _ _ => true
  | .callK _ _ _ _ => true
  | .blt _ _ => true
  | .minN _ => true
  | .isi _ _ => true
  | .met _ _ _ => true
  | .mut _ _ _ => true
  | .comp _ _ _ _ _ => true
  | .listIt _ => true
theorem s_ret {e : E} (h : e.noV = true) : evS G (.ret e) ρ = obn ((evE G e).v ρ) fun p => some (.rt p.1 p.2) := by
  show bndS _ _ ρ = _
  have h1 : (evE G e).vr = none := by cases e <;> first | (cases h; done) | rfl
  unfold retV; rw [h1]
  simp only [bndS_obn]
theorem s_retN : evS G .retN ρ = some (.rt (.d .non) ρ) := rfl
theorem s_iff (c : E) (a b : Ss) : evS G (.iff c a b) ρ = obn ((evE G c).t ρ) fun p => brn p.1 (evSs G a p.2) (evSs G b p.2) := by
  show bndS _ _ ρ = _; simp only [bndS_obn]; congr 1; funext p; cases p.1 <;> rfl
theorem s_for (t : Tg) (it : It) (b : Ss) : evS G (.for_ t it b) ρ = obn (evI G it ρ) fun p => forL (fun d => bndS (evG G t d) fun _ => evSs G b) p.1 p.2 := by
  show bndS _ _ ρ = _; simp only [bndS_obn]
theorem s_whl (c : E) (b : Ss) : evS G (.whl c b) ρ = whileS (evE G c).t (evSs G b) ρ := rfl
theorem s_ex (e : E) : evS G (.ex e) ρ = obn ((evE G e).v ρ) fun p => some (.nx p.2) := by
  show bndS _ _ ρ = _; simp only [bndS_obn]; rfl
theorem s_pas : evS G .pas ρ = some (.nx ρ) := rfl
theorem s_brk : evS G .brk ρ = some (.bk ρ) := rfl
theorem s_cnt : evS G .cnt ρ = some (.ct ρ) := rfl
/-! calls -/
theorem call_pure (f : Nat) {as : List Ar} {vs : List Av} (h1 : Ar.slots as = []) (h2 : contents as ρ = some vs) : doCall G f as ρ = obn (G.C f vs) fun p => match p.2 with | [] => some (p.1, ρ) | _ :: _ => none := by
  unfold doCall
  rw [h1, h2]
  show (match G.C f vs with | none => none | some (r, ios) => _) = _
  cases G.C f vs with
  | none => rfl
  | some p =>
    obtain ⟨r, ios⟩ := p
    show (match putBack [] ios ρ with | none => none | some ρ' => some (r, ρ')) = _
    cases ios <;> rfl
end
/-! the same, constructor by constructor -/
section
variable (G : Cfg) (ρ : En)
theorem p_var (i : Nat) : (evE G (.var i)).p ρ = obn ((evE G (.var i)).v ρ) fun p => obn (toI p.1.toD) fun i => some (some i, p.2) := p_of G ρ rfl
theorem w_int (n : Int) : (evE G (.int n)).w ρ = obn ((evE G (.int n)).v ρ) fun p => some (.v p.1.toD, p.2) := w_of G ρ rfl
theorem t_int (n : Int) : (evE G (.int n)).t ρ = obn ((evE G (.int n)).v ρ) fun p => mp (truth p.1.toD) p.2 := t_of G ρ rfl
theorem p_int (n : Int) : (evE G (.int n)).p ρ = obn ((evE G (.int n)).v ρ) fun p => obn (toI p.1.toD) fun i => some (some i, p.2) := p_of G ρ rfl
theorem r_int (n : Int) : evS G (.ret (.int n)) ρ = obn ((evE G (.int n)).v ρ) fun p => some (.rt p.1 p.2) := s_ret G ρ rfl
theorem w_str (s : List Nat) : (evE G (.str s)).w ρ = obn ((evE G (.str s)).v ρ) fun p => some (.v p.1.toD, p.2) := w_of G ρ rfl
theorem t_str (s : List Nat) : (evE G (.str s)).t ρ = obn ((evE G (.str s)).v ρ) fun p => mp (truth p.1.toD) p.2 := t_of G ρ rfl
theorem p_str (s : List Nat) : (evE G (.str s)).p ρ = obn ((evE G (.str s)).v ρ) fun p => obn (toI p.1.toD) fun i => some (some i, p.2) := p_of G ρ rfl
theorem r_str (s : List Nat) : evS G (.ret (.str s)) ρ = obn ((evE G (.str s)).v ρ) fun p => some (.rt p.1 p.2) := s_ret G ρ rfl
theorem w_bl (b : Bool) : (evE G (.bl b)).w ρ = obn ((evE G (.bl b)).v ρ) fun p => some (.v p.1.toD, p.2) := w_of G ρ rfl
theorem t_bl (b : Bool) : (evE G (.bl b)).t ρ = obn ((evE G (.bl b)).v ρ) fun p => mp (truth p.1.toD) p.2 := t_of G ρ rfl
theorem p_bl (b : Bool) : (evE G (.bl b)).p ρ = obn ((evE G (.bl b)).v ρ) fun p => obn (toI p.1.toD) fun i => some (some i, p.2) := p_of G ρ rfl
theorem r_bl (b : Bool) : evS G (.ret (.bl b)) ρ = obn ((evE G (.bl b)).v ρ) fun p => some (.rt p.1 p.2) := s_ret G ρ rfl
theorem w_non  : (evE G .non).w ρ = obn ((evE G .non).v ρ) fun p => some (.v p.1.toD, p.2) := w_of G ρ rfl
theorem t_non  : (evE G .non).t ρ = obn ((evE G .non).v ρ) fun p => mp (truth p.1.toD) p.2 := t_of G ρ rfl
theorem p_non  : (evE G .non).p ρ = obn ((evE G .non).v ρ) fun p => obn (toI p.1.toD) fun i => some (some i, p.2) := p_of G ρ rfl
theorem r_non  : evS G (.ret .non) ρ = obn ((evE G .non).v ρ) fun p => some (.rt p.1 p.2) := s_ret G ρ rfl
theorem w_glob (g : Nat) : (evE G (.glob g)).w ρ = obn ((evE G (.glob g)).v ρ) fun p => some (.v p.1.toD, p.2) := w_of G ρ rfl
theorem t_glob (g : Nat) : (evE G (.glob g)).t ρ = obn ((evE G (.glob g)).v ρ) fun p => mp (truth p.1.toD) p.2 := t_of G ρ rfl
theorem p_glob (g : Nat) : (evE G (.glob g)).p ρ = obn ((evE G (.glob g)).v ρ) fun p => obn (toI p.1.toD) fun i => some (some i, p.2) := p_of G ρ rfl
theorem r_glob (g : Nat) : evS G (.ret (.glob g)) ρ = obn ((evE G (.glob g)).v ρ) fun p => some (.rt p.1 p.2) := s_ret G ρ rfl
theorem w_bin (o : BOp) (a b : E) : (evE G (.bin o a b)).w ρ = obn ((evE G (.bin o a b)).v ρ) fun p => some (.v p.1.toD, p.2) := w_of G ρ rfl
theorem t_bin (o : BOp) (a b : E) : (evE G (.bin o a b)).t ρ = obn ((evE G (.bin o a b)).v ρ) fun p => mp (truth p.1.toD) p.2 := t_of G ρ rfl
theorem p_bin (o : BOp) (a b : E) : (evE G (.bin o a b)).p ρ = obn ((evE G (.bin o a b)).v ρ) fun p => obn (toI p.1.toD) fun i => some (some i, p.2) := p_of G ρ rfl
theorem r_bin (o : BOp) (a b : E) : evS G (.ret (.bin o a b)) ρ = obn ((evE G (.bin o a b)).v ρ) fun p => some (.rt p.1 p.2) := s_ret G ρ rfl
theorem w_neg (a : E) : (evE G (.neg a)).w ρ = obn ((evE G (.neg a)).v ρ) fun p => some (.v p.1.toD, p.2) := w_of G ρ rfl
theorem t_neg (a : E) : (evE G (.neg a)).t ρ = obn ((evE G (.neg a)).v ρ) fun p => mp (truth p.1.toD) p.2 := t_of G ρ rfl
theorem p_neg (a : E) : (evE G (.neg a)).p ρ = obn ((evE G (.neg a)).v ρ) fun p => obn (toI p.1.toD) fun i => some (some i, p.2) := p_of G ρ rfl
theorem r_neg (a : E) : evS G (.ret (.neg a)) ρ = obn ((evE G (.neg a)).v ρ) fun p => some (.rt p.1 p.2) := s_ret G ρ rfl
theorem w_cmp (o : COp) (a b : E) : (evE G (.cmp o a b)).w ρ = obn ((evE G (.cmp o a b)).v ρ) fun p => some (.v p.1.toD, p.2) := w_of G ρ rfl
theorem r_cmp (o : COp) (a b : E) : evS G (.ret (.cmp o a b)) ρ = obn ((evE G (.cmp o a b)).v ρ) fun p => some (.rt p.1 p.2) := s_ret G ρ rfl
theorem w_chain (o o2 : COp) (a b c : E) : (evE G (.chain o o2 a b c)).w ρ = obn ((evE G (.chain o o2 a b c)).v ρ) fun p => some (.v p.1.toD, p.2) := w_of G ρ rfl
theorem r_chain (o o2 : COp) (a b c : E) : evS G (.ret (.chain o o2 a b c)) ρ = obn ((evE G (.chain o o2 a b c)).v ρ) fun p => some (.rt p.1 p.2) := s_ret G ρ rfl
theorem w_and (a b : E) : (evE G (.and a b)).w ρ = obn ((evE G (.and a b)).v ρ) fun p => some (.v p.1.toD, p.2) := w_of G ρ rfl
theorem p_and (a b : E) : (evE G (.and a b)).p ρ = obn ((evE G (.and a b)).v ρ) fun p => obn (toI p.1.toD) fun i => some (some i, p.2) := p_of G ρ rfl
theorem r_and (a b : E) : evS G (.ret (.and a b)) ρ = obn ((evE G (.and a b)).v ρ) fun p => some (.rt p.1 p.2) := s_ret G ρ rfl
theorem w_or (a b : E) : (evE G (.or a b)).w ρ = obn ((evE G (.or a b)).v ρ) fun p => some (.v p.1.toD, p.2) := w_of G ρ rfl
theorem p_or (a b : E) : (evE G (.or a b)).p ρ = obn ((evE G (.or a b)).v ρ) fun p => obn (toI p.1.toD) fun i => some (some i, p.2) := p_of G ρ rfl
theorem r_or (a b : E) : evS G (.ret (.or a b)) ρ = obn ((evE G (.or a b)).v ρ) fun p => some (.rt p.1 p.2) := s_ret G ρ rfl
theorem w_not (a : E) : (evE G (.not a)).w ρ = obn ((evE G (.not a)).v ρ) fun p => some (.v p.1.toD, p.2) := w_of G ρ rfl
theorem p_not (a : E) : (evE G (.not a)).p ρ = obn ((evE G (.not a)).v ρ) fun p => obn (toI p.1.toD) fun i => some (some i, p.2) := p_of G ρ rfl
theorem r_not (a : E) : evS G (.ret (.not a)) ρ = obn ((evE G (.not a)).v ρ) fun p => some (.rt p.1 p.2) := s_ret G ρ rfl
theorem w_ife (a b c : E) : (evE G (.ife a b c)).w ρ = obn ((evE G (.ife a b c)).v ρ) fun p => some (.v p.1.toD, p.2) := w_of G ρ rfl
theorem p_ife (a b c : E) : (evE G (.ife a b c)).p ρ = obn ((evE G (.ife a b c)).v ρ) fun p => obn (toI p.1.toD) fun i => some (some i, p.2) := p_of G ρ rfl
theorem r_ife (a b c : E) : evS G (.ret (.ife a b c)) ρ = obn ((evE G (.ife a b c)).v ρ) fun p => some (.rt p.1 p.2) := s_ret G ρ rfl
theorem w_tup (r : Es) : (evE G (.tup r)).w ρ = obn ((evE G (.tup r)).v ρ) fun p => some (.v p.1.toD, p.2) := w_of G ρ rfl
theorem t_tup (r : Es) : (evE G (.tup r)).t ρ = obn ((evE G (.tup r)).v ρ) fun p => mp (truth p.1.toD) p.2 := t_of G ρ rfl
theorem p_tup (r : Es) : (evE G (.tup r)).p ρ = obn ((evE G (.tup r)).v ρ) fun p => obn (toI p.1.toD) fun i => some (some i, p.2) := p_of G ρ rfl
theorem r_tup (r : Es) : evS G (.ret (.tup r)) ρ = obn ((evE G (.tup r)).v ρ) fun p => some (.rt p.1 p.2) := s_ret G ρ rfl
theorem w_lst (r : Es) : (evE G (.lst r)).w ρ = obn ((evE G (.lst r)).v ρ) fun p => some (.v p.1.toD, p.2) := w_of G ρ rfl
theorem t_lst (r : Es) : (evE G (.lst r)).t ρ = obn ((evE G (.lst r)).v ρ) fun p => mp (truth p.1.toD) p.2 := t_of G ρ rfl
theorem p_lst (r : Es) : (evE G (.lst r)).p ρ = obn ((evE G (.lst r)).v ρ) fun p => obn (toI p.1.toD) fun i => some (some i, p.2) := p_of G ρ rfl
theorem r_lst (r : Es) : evS G (.ret (.lst r)) ρ = obn ((evE G (.lst r)).v ρ) fun p => some (.rt p.1 p.2) := s_ret G ρ rfl
theorem w_idx (a b : E) : (evE G (.idx a b)).w ρ = obn ((evE G (.idx a b)).v ρ) fun p => some (.v p.1.toD, p.2) := w_of G ρ rfl
theorem t_idx (a b : E) : (evE G (.idx a b)).t ρ = obn ((evE G (.idx a b)).v ρ) fun p => mp (truth p.1.toD) p.2 := t_of G ρ rfl
theorem p_idx (a b : E) : (evE G (.idx a b)).p ρ = obn ((evE G (.idx a b)).v ρ) fun p => obn (toI p.1.toD) fun i => some (some i, p.2) := p_of G ρ rfl
theorem r_idx (a b : E) : evS G (.ret (.idx a b)) ρ = obn ((evE G (.idx a b)).v ρ) fun p => some (.rt p.1 p.2) := s_ret G ρ rfl
theorem w_sli (a b c : E) : (evE G (.sli a b c)).w ρ = obn ((evE G (.sli a b c)).v ρ) fun p => some (.v p.1.toD, p.2) := w_of G ρ rfl
theorem t_sli (a b c : E) : (evE G (.sli a b c)).t ρ = obn ((evE G (.sli a b c)).v ρ) fun p => mp (truth p.1.toD) p.2 := t_of G ρ rfl
theorem p_sli (a b c : E) : (evE G (.sli a b c)).p ρ = obn ((evE G (.sli a b c)).v ρ) fun p => obn (toI p.1.toD) fun i => some (some i, p.2) := p_of G ρ rfl
theorem r_sli (a b c : E) : evS G (.ret (.sli a b c)) ρ = obn ((evE G (.sli a b c)).v ρ) fun p => some (.rt p.1 p.2) := s_ret G ρ rfl
theorem r_absent  : evS G (.ret .absent) ρ = obn ((evE G .absent).v ρ) fun p => some (.rt p.1 p.2) := s_ret G ρ rfl
theorem w_call (f : Nat) (r : Es) : (evE G (.call f r)).w ρ = obn ((evE G (.call f r)).v ρ) fun p => some (.v p.1.toD, p.2) := w_of G ρ rfl
theorem t_call (f : Nat) (r : Es) : (evE G (.call f r)).t ρ = obn ((evE G (.call f r)).v ρ) fun p => mp (truth p.1.toD) p.2 := t_of G ρ rfl
theorem p_call (f : Nat) (r : Es) : (evE G (.call f r)).p ρ = obn ((evE G (.call f r)).v ρ) fun p => obn (toI p.1.toD) fun i => some (some i, p.2) := p_of G ρ rfl
theorem r_call (f : Nat) (r : Es) : evS G (.ret (.call f r)) ρ = obn ((evE G (.call f r)).v ρ) fun p => some (.rt p.1 p.2) := s_ret G ρ rfl
theorem w_callK (f : Nat) (r q : Es) (i : Nat) : (evE G (.callK f r q i)).w ρ = obn ((evE G (.callK f r q i)).v ρ) fun p => some (.v p.1.toD, p.2) := w_of G ρ rfl
theorem t_callK (f : Nat) (r q : Es) (i : Nat) : (evE G (.callK f r q i)).t ρ = obn ((evE G (.callK f r q i)).v ρ) fun p => mp (truth p.1.toD) p.2 := t_of G ρ rfl
theorem p_callK (f : Nat) (r q : Es) (i : Nat) : (evE G (.callK f r q i)).p ρ = obn ((evE G (.callK f r q i)).v ρ) fun p => obn (toI p.1.toD) fun i => some (some i, p.2) := p_of G ρ rfl
theorem r_callK (f : Nat) (r q : Es) (i : Nat) : evS G (.ret (.callK f r q i)) ρ = obn ((evE G (.callK f r q i)).v ρ) fun p => some (.rt p.1 p.2) := s_ret G ρ rfl
theorem w_blt (b : Bf) (r : Es) : (evE G (.blt b r)).w ρ = obn ((evE G (.blt b r)).v ρ) fun p => some (.v p.1.toD, p.2) := w_of G ρ rfl
theorem t_blt (b : Bf) (r : Es) : (evE G (.blt b r)).t ρ = obn ((evE G (.blt b r)).v ρ) fun p => mp (truth p.1.toD) p.2 := t_of G ρ rfl
theorem p_blt (b : Bf) (r : Es) : (evE G (.blt b r)).p ρ = obn ((evE G (.blt b r)).v ρ) fun p => obn (toI p.1.toD) fun i => some (some i, p.2) := p_of G ρ rfl
theorem r_blt (b : Bf) (r : Es) : evS G (.ret (.blt b r)) ρ = obn ((evE G (.blt b r)).v ρ) fun p => some (.rt p.1 p.2) := s_ret G ρ rfl
theorem w_minN (e : E) : (evE G (.minN e)).w ρ = obn ((evE G (.minN e)).v ρ) fun p => some (.v p.1.toD, p.2) := w_of G ρ rfl
theorem p_minN (e : E) : (evE G (.minN e)).p ρ = obn ((evE G (.minN e)).v ρ) fun p => obn (toI p.1.toD) fun i => some (some i, p.2) := p_of G ρ rfl
theorem r_minN (e : E) : evS G (.ret (.minN e)) ρ = obn ((evE G (.minN e)).v ρ) fun p => some (.rt p.1 p.2) := s_ret G ρ rfl
theorem w_isi (e : E) (t : Ty) : (evE G (.isi e t)).w ρ = obn ((evE G (.isi e t)).v ρ) fun p => some (.v p.1.toD, p.2) := w_of G ρ rfl
theorem t_isi (e : E) (t : Ty) : (evE G (.isi e t)).t ρ = obn ((evE G (.isi e t)).v ρ) fun p => mp (truth p.1.toD) p.2 := t_of G ρ rfl
theorem p_isi (e : E) (t : Ty) : (evE G (.isi e t)).p ρ = obn ((evE G (.isi e t)).v ρ) fun p => obn (toI p.1.toD) fun i => some (some i, p.2) := p_of G ρ rfl
theorem r_isi (e : E) (t : Ty) : evS G (.ret (.isi e t)) ρ = obn ((evE G (.isi e t)).v ρ) fun p => some (.rt p.1 p.2) := s_ret G ρ rfl
theorem w_met (m : Mt) (e : E) (r : Es) : (evE G (.met m e r)).w ρ = obn ((evE G (.met m e r)).v ρ) fun p => some (.v p.1.toD, p.2) := w_of G ρ rfl
theorem t_met (m : Mt) (e : E) (r : Es) : (evE G (.met m e r)).t ρ = obn ((evE G (.met m e r)).v ρ) fun p => mp (truth p.1.toD) p.2 := t_of G ρ rfl
theorem p_met (m : Mt) (e : E) (r : Es) : (evE G (.met m e r)).p ρ = obn ((evE G (.met m e r)).v ρ) fun p => obn (toI p.1.toD) fun i => some (some i, p.2) := p_of G ρ rfl
theorem r_met (m : Mt) (e : E) (r : Es) : evS G (.ret (.met m e r)) ρ = obn ((evE G (.met m e r)).v ρ) fun p => some (.rt p.1 p.2) := s_ret G ρ rfl
theorem w_mut (m : Mc) (i : Nat) (e : E) : (evE G (.mut m i e)).w ρ = obn ((evE G (.mut m i e)).v ρ) fun p => some (.v p.1.toD, p.2) := w_of G ρ rfl
theorem p_mut (m : Mc) (i : Nat) (e : E) : (evE G (.mut m i e)).p ρ = obn ((evE G (.mut m i e)).v ρ) fun p => obn (toI p.1.toD) fun i => some (some i, p.2) := p_of G ρ rfl
theorem r_mut (m : Mc) (i : Nat) (e : E) : evS G (.ret (.mut m i e)) ρ = obn ((evE G (.mut m i e)).v ρ) fun p => some (.rt p.1 p.2) := s_ret G ρ rfl
theorem w_comp (own : List Nat) (t : Tg) (it : It) (c e : E) : (evE G (.comp own t it c e)).w ρ = obn ((evE G (.comp own t it c e)).v ρ) fun p => some (.v p.1.toD, p.2) := w_of G ρ rfl
theorem t_comp (own : List Nat) (t : Tg) (it : It) (c e : E) : (evE G (.comp own t it c e)).t ρ = obn ((evE G (.comp own t it c e)).v ρ) fun p => mp (truth p.1.toD) p.2 := t_of G ρ rfl
theorem p_comp (own : List Nat) (t : Tg) (it : It) (c e : E) : (evE G (.comp own t it c e)).p ρ = obn ((evE G (.comp own t it c e)).v ρ) fun p => obn (toI p.1.toD) fun i => some (some i, p.2) := p_of G ρ rfl
theorem r_comp (own : List Nat) (t : Tg) (it : It) (c e : E) : evS G (.ret (.comp own t it c e)) ρ = obn ((evE G (.comp own t it c e)).v ρ) fun p => some (.rt p.1 p.2) := s_ret G ρ rfl
theorem w_listIt (it : It) : (evE G (.listIt it)).w ρ = obn ((evE G (.listIt it)).v ρ) fun p => some (.v p.1.toD, p.2) := w_of G ρ rfl
theorem p_listIt (it : It) : (evE G (.listIt it)).p ρ = obn ((evE G (.listIt it)).v ρ) fun p => obn (toI p.1.toD) fun i => some (some i, p.2) := p_of G ρ rfl
theorem r_listIt (it : It) : evS G (.ret (.listIt it)) ρ = obn ((evE G (.listIt it)).v ρ) fun p => some (.rt p.1 p.2) := s_ret G ρ rfl
end
theorem whileN_step (c : M Bool) (b : SM) (m : Nat) (ρ : En) : whileN c b (m + 1) ρ = obn (c ρ) fun p => brn p.1 (match b p.2 with
      | some (.nx ρ') => whileN c b m ρ'
      | some (.ct ρ') => whileN c b m ρ'
      | some (.bk ρ') => some (.nx ρ')
      | some (.rt r ρ') => some (.rt r ρ')
      | none => none) (some (.nx p.2)) := by
  show bndS _ _ ρ = _
  rw [bndS_obn]
  congr 1; funext p
  cases p.1 <;> rfl
end Rm

set_option Elab.async false
set_option linter.all false
set_option maxRecDepth 100000
set_option maxHeartbeats 8000000
/-! V2: the built-in things at plain values. -/
namespace Rm
open PySem PySem.Spec L2

theorem mkTup_0 : mkTup [] = some (.d (.tup [])) := rfl
theorem mkTup_1 (a : D) : mkTup [a] = some (.d (.tup [a])) := rfl
theorem mkTup_2 (a b : D) : mkTup [a, b] = some (.d (.tup [a, b])) := rfl
theorem mkTup_3 (a b c : D) : mkTup [a, b, c] = some (.d (.tup [a, b, c])) := rfl
theorem mkTup_4 (a b c d : D) : mkTup [a, b, c, d] = some (.d (.tup [a, b, c, d])) := rfl
theorem mkTup_5 (a b c d e : D) : mkTup [a, b, c, d, e] = some (.d (.tup [a, b, c, d, e])) := rfl
theorem mkLst_0 : mkLst [] = some (.fr []) := rfl
theorem mkLst_1 (a : D) : mkLst [a] = some (.fr [a]) := rfl
theorem mkLst_2 (a b : D) : mkLst [a, b] = some (.fr [a, b]) := rfl
theorem mkLst_3 (a b c : D) : mkLst [a, b, c] = some (.fr [a, b, c]) := rfl
theorem mkLst_4 (a b c d : D) : mkLst [a, b, c, d] = some (.fr [a, b, c, d]) := rfl
theorem mkLst_5 (a b c d e : D) : mkLst [a, b, c, d, e] = some (.fr [a, b, c, d, e]) := rfl
theorem mkLst_6 (a b c d e f : D) : mkLst [a, b, c, d, e, f] = some (.fr [a, b, c, d, e, f]) := rfl
theorem dEq_str (a b : List Nat) : dEq (.str a) (.str b) = some (decide (a = b)) := rfl
theorem dEq_int (a b : Int) : dEq (.int a) (.int b) = some (decide (a = b)) := rfl
theorem dEq_bl (a b : Bool) : dEq (.bl a) (.bl b) = some (a == b) := rfl
theorem dNe_str (a b : List Nat) : dNe (.str a) (.str b) = some (!decide (a = b)) := rfl
theorem dNe_int (a b : Int) : dNe (.int a) (.int b) = some (!decide (a = b)) := rfl
theorem dNe_bl (a b : Bool) : dNe (.bl a) (.bl b) = some (!(a == b)) := rfl
theorem strs_noLk {α : Type} (f : α → List Nat) : ∀ l : List α, noLks (l.map fun c => .str (f c)) = true
  | [] => rfl
  | _ :: l => strs_noLk f l
theorem strs_deps {α : Type} (f : α → List Nat) : ∀ l : List α, deps (l.map fun c => .str (f c)) = 0
  | [] => rfl
  | c :: l => by show max 0 (deps (l.map fun c => .str (f c))) = 0; rw [strs_deps f l]; rfl
theorem strs_eqOk {α : Type} (f : α → List Nat) (l : List α) : (D.lst (l.map fun c => .str (f c))).eqOk = true := by
  show (noLks _ && decide (deps _ + 1 ≤ 64)) = true
  rw [strs_noLk, strs_deps]; rfl
theorem dEq_nil {α : Type} (f : α → List Nat) (l : List α) : dEq (.lst (l.map fun c => .str (f c))) (.lst []) = some (decide (l = [])) := by
  unfold dEq
  rw [strs_eqOk]
  show some _ = _
  cases l <;> rfl
theorem dNe_nil {α : Type} (f : α → List Nat) (l : List α) : dNe (.lst (l.map fun c => .str (f c))) (.lst []) = some (!decide (l = [])) := by
  unfold dNe
  rw [strs_eqOk]
  show some _ = _
  cases l <;> rfl
theorem fAll_map {α : Type} (l : List α) (f : α → Bool) : fAll [.lst (l.map fun c => .bl (f c))] = some (.d (.bl (l.all f))) := by
  have e : (l.map fun c => D.bl (f c)) = (l.map f).map .bl := by rw [List.map_map]; rfl
  show Option.map _ (blsOf _) = _
  rw [e, blsOf_map]
  show some (R.d (D.bl ((l.map f).all id))) = _
  rw [List.all_map]; rfl
theorem fSum_map {α : Type} (l : List α) (f : α → Int) : fSum [.lst (l.map fun c => .int (f c))] = some (.d (.int (l.map f).sum)) := by
  have e : (l.map fun c => D.int (f c)) = (l.map f).map .int := by rw [List.map_map]; rfl
  show Option.map _ (intsOf _) = _
  rw [e, intsOf_map]; rfl
theorem fMax_2 (i j : Int) : fMax [.int i, .int j] = some (.d (.int (if j > i then j else i))) := rfl
theorem fMin_2 (i j : Int) : fMin [.int i, .int j] = some (.d (.int (if j < i then j else i))) := rfl
theorem fInt_int (i : Int) : fInt [.int i] = some (.d (.int i)) := rfl
theorem fTuple_lst (xs : List D) : fTuple [.lst xs] = some (.d (.tup xs)) := rfl
theorem fLen_str (s : List Nat) : fLen [.str s] = some (.d (.int (s.length : Nat))) := rfl
theorem fLen_tup (s : List D) : fLen [.tup s] = some (.d (.int (s.length : Nat))) := rfl
theorem fLen_lst (s : List D) : fLen [.lst s] = some (.d (.int (s.length : Nat))) := rfl
theorem fLen_lk (s : List Int) : fLen [.lk s] = some (.d (.int (s.length : Nat))) := rfl
theorem dIn_str (c : Nat) (t : List Nat) : dIn (.str [c]) (.str t) = some (decide (c ∈ t)) := rfl
theorem mJoin_map {α : Type} (l : List α) (f : α → List Nat) (h : (l.map f).flatten.length ≤ SZ) : mJoin (.str []) [.lst (l.map fun c => .str (f c))] = some (.d (.str (l.map f).flatten)) := by
  have e : (l.map fun c => D.str (f c)) = (l.map f).map .str := by rw [List.map_map]; rfl
  have j : ∀ ss : List (List Nat), joinL [] ss = ss.flatten := by
    intro ss
    induction ss with
    | nil => rfl
    | cons a r ih =>
      cases r with
      | nil => simp [joinL]
      | cons b r => show a ++ ([] ++ joinL [] (b :: r)) = _; rw [ih]; rfl
  show (Option.bind (some _) strsOf).bind _ = _
  rw [e]
  show (strsOf ((l.map f).map D.str)).bind _ = _
  rw [strsOf_map]
  show (if ((l.map f).map (·.length)).sum + (l.map f).length * 0 ≤ SZ then _ else none) = _
  rw [if_pos (by rw [Nat.mul_zero, Nat.add_zero, ← List.length_flatten]; exact h), j]
theorem add_str {s t : List Nat} (h : s.length + t.length ≤ SZ) : dAdd (.str s) (.str t) = some (.d (.str (s ++ t))) := if_pos h
theorem add_lst {s t : List D} (h : s.length + t.length ≤ SZ) : dAdd (.lst s) (.lst t) = some (.fr (s ++ t)) := if_pos h
theorem add_tup {s t : List D} (h : s.length + t.length ≤ SZ) : dAdd (.tup s) (.tup t) = some (.d (.tup (s ++ t))) := if_pos h
theorem add_int (i j : Int) : dAdd (.int i) (.int j) = some (.d (.int (i + j))) := rfl
theorem sub_int (i j : Int) : dSub (.int i) (.int j) = some (.d (.int (i - j))) := rfl
theorem mul_int {i j : Int} (h : i.natAbs < 2 ^ 64 ∨ j.natAbs < 2 ^ 64) : dMul (.int i) (.int j) = some (.d (.int (i * j))) := if_pos h
theorem mod_int {i j : Int} (h : j ≠ 0) : dMod (.int i) (.int j) = some (.d (.int (i.fmod j))) := if_pos h

theorem fdiv_int {i j : Int} (h : j ≠ 0 ∧ j.natAbs < 1073741824) : dFdiv (.int i) (.int j) = some (.d (.int (i.fdiv j))) := if_pos h
/-! ### cuts -/
section
variable {α : Type} (xs : List α)
theorem cut_nat (a b : Nat) : cutL xs (some (a : Int)) (some (b : Int)) = (xs.drop a).take (b - a) := by
  unfold cutL
  rw [HT.sIx_nat, HT.sIx_nat]
  by_cases h : a ≤ xs.length
  · rw [Nat.min_eq_left h]
    by_cases hb : b ≤ xs.length
    · rw [Nat.min_eq_left hb]
    · rw [Nat.min_eq_right (by omega), List.take_of_length_le (by rw [List.length_drop]; omega), List.take_of_length_le (by rw [List.length_drop]; omega)]
  · have h1 : xs.drop (min a xs.length) = [] := List.drop_of_length_le (by omega)
    have h2 : xs.drop a = [] := List.drop_of_length_le (by omega)
    rw [h1, h2, List.take_nil, List.take_nil]
theorem cut_to (b : Nat) : cutL xs none (some (b : Int)) = xs.take b := by
  have := cut_nat xs 0 b
  unfold cutL at this ⊢
  rw [HT.sIx_nat] at this
  rw [HT.sIx_nat]
  simpa [HT.sIx] using this
theorem cut_from (a : Nat) : cutL xs (some (a : Int)) none = xs.drop a := by
  unfold cutL
  rw [HT.sIx_nat]
  have e : HT.sIx xs.length xs.length none = xs.length := rfl
  rw [e]
  by_cases h : a ≤ xs.length
  · rw [Nat.min_eq_left h, List.take_of_length_le (by rw [List.length_drop]; omega)]
  · have h1 : xs.drop (min a xs.length) = [] := List.drop_of_length_le (by omega)
    have h2 : xs.drop a = [] := List.drop_of_length_le (by omega)
    rw [h1, h2, List.take_nil]
theorem cut_last (a : Nat) (h0 : 0 < a) (h : a ≤ xs.length) : cutL xs (some (-(a : Int))) none = xs.drop (xs.length - a) := by
  unfold cutL
  have e : HT.sIx xs.length xs.length none = xs.length := rfl
  have e2 : HT.sIx xs.length 0 (some (-(a : Int))) = xs.length - a := by
    unfold HT.sIx
    dsimp only
    first | omega | (split <;> omega) | (simp only []; split <;> omega)
  rw [e, e2, List.take_of_length_le (by rw [List.length_drop]; omega)]
end
/-! ### three digits -/
theorem strInt_nat (n : Nat) : strInt (n : Int) = TL.numL n := TL.tl_num n
def th (n : Nat) : List Nat := [48 + n / 100, 48 + n / 10 % 10, 48 + n % 10]
theorem numL_3 {n : Nat} (h : n < 1000) : (n < 10 ∧ TL.numL n = [48 + n % 10]) ∨ (10 ≤ n ∧ n < 100 ∧ TL.numL n = [48 + n / 10 % 10, 48 + n % 10]) ∨ (100 ≤ n ∧ TL.numL n = th n) := by
  rcases Nat.lt_or_ge n 10 with h1 | h1
  · refine .inl ⟨h1, ?_⟩
    rw [TL.numL_lt h1, Nat.mod_eq_of_lt h1]
  · rcases Nat.lt_or_ge n 100 with h2 | h2
    · refine .inr (.inl ⟨h1, h2, ?_⟩)
      rw [TL.numL_step h1, TL.numL_lt (by omega), Nat.mod_eq_of_lt (show n / 10 < 10 by omega)]; rfl
    · refine .inr (.inr ⟨h2, ?_⟩)
      rw [TL.numL_step h1, TL.numL_step (show 10 ≤ n / 10 by omega), TL.numL_lt (by omega)]
      unfold th
      rw [Nat.div_div_eq_div_mul]; rfl
theorem th_pad {n : Nat} (h : n < 1000) : List.replicate (3 - (TL.numL n).length) 48 ++ TL.numL n = th n := by
  rcases numL_3 h with ⟨h1, e⟩ | ⟨h1, h2, e⟩ | ⟨h1, e⟩ <;> rw [e]
  · unfold th
    have a : n / 100 = 0 := by omega
    have b : n / 10 % 10 = 0 := by omega
    rw [a, b]; rfl
  · unfold th
    have a : n / 100 = 0 := by omega
    rw [a]; rfl
  · rfl
theorem th_cut {n : Nat} (h : n < 1000) : cutL ([48, 48, 48] ++ TL.numL n) (some (-3)) none = th n := by
  rw [show (-3 : Int) = -((3 : Nat) : Int) from rfl, cut_last _ 3 (by decide) (by simp)]
  rcases numL_3 h with ⟨h1, e⟩ | ⟨h1, h2, e⟩ | ⟨h1, e⟩ <;> rw [e]
  · unfold th
    have a : n / 100 = 0 := by omega
    have b : n / 10 % 10 = 0 := by omega
    rw [a, b]; rfl
  · unfold th
    have a : n / 100 = 0 := by omega
    rw [a]; rfl
  · rfl
theorem th_val {n : Nat} (h : n < 1000) : NumText.digitsVal (th n) = n := by
  show ((0 * 10 + (48 + n / 100 - 48)) * 10 + (48 + n / 10 % 10 - 48)) * 10 + (48 + n % 10 - 48) = n
  omega
theorem th_dig {n : Nat} (h : n < 1000) : ∀ c ∈ th n, 48 ≤ c ∧ c ≤ 57 := by
  intro c hc
  simp only [th, List.mem_cons, List.not_mem_nil, or_false] at hc
  omega
theorem val_th {a : List Nat} (h : a.length = 3) (hd : ∀ c ∈ a, 48 ≤ c ∧ c ≤ 57) : a = th (NumText.digitsVal a) ∧ NumText.digitsVal a < 1000 := by
  match a, h with
  | [x, y, z], _ =>
    have hx := hd x (by simp)
    have hy := hd y (by simp)
    have hz := hd z (by simp)
    have e : NumText.digitsVal [x, y, z] = (x - 48) * 100 + (y - 48) * 10 + (z - 48) := by
      show ((0 * 10 + (x - 48)) * 10 + (y - 48)) * 10 + (z - 48) = _
      omega
    rw [e]
    refine ⟨?_, by omega⟩
    unfold th
    have a1 : ((x - 48) * 100 + (y - 48) * 10 + (z - 48)) / 100 = x - 48 := by omega
    have a2 : ((x - 48) * 100 + (y - 48) * 10 + (z - 48)) / 10 % 10 = y - 48 := by omega
    have a3 : ((x - 48) * 100 + (y - 48) * 10 + (z - 48)) % 10 = z - 48 := by omega
    rw [a1, a2, a3]
    have b1 : 48 + (x - 48) = x := by omega
    have b2 : 48 + (y - 48) = y := by omega
    have b3 : 48 + (z - 48) = z := by omega
    rw [b1, b2, b3]
/-! ### numbered rows -/
def prs {α : Type} : Int → List α → List (Int × α)
  | _, [] => []
  | k, a :: l => (k, a) :: prs (k + 1) l
theorem enumL_map {α : Type} (e : α → D) : ∀ (l : List α) (k : Int), enumL k (l.map e) = (prs k l).map fun p => .tup [.int p.1, e p.2]
  | [], _ => rfl
  | a :: l, k => by show _ :: enumL (k + 1) (l.map e) = _; rw [enumL_map e l]; rfl
theorem prs_len {α : Type} : ∀ (l : List α) (k : Int), (prs k l).length = l.length
  | [], _ => rfl
  | a :: l, k => by show (prs (k + 1) l).length + 1 = _; rw [prs_len l]; rfl
theorem prs_mem {α : Type} : ∀ (l : List α) (k : Int) (p : Int × α), p ∈ prs k l → p.2 ∈ l ∧ k ≤ p.1 ∧ p.1 < k + l.length
  | [], _, _, h => by cases h
  | a :: l, k, p, h => by
    rcases List.mem_cons.mp h with rfl | h
    · exact ⟨List.mem_cons_self, Int.le_refl _, by simp; omega⟩
    · obtain ⟨h1, h2, h3⟩ := prs_mem l (k + 1) p h
      exact ⟨List.mem_cons_of_mem _ h1, by omega, by simp; omega⟩
theorem rangeL_map : ∀ (n : Nat) (lo : Int), rangeL lo n = (List.range n).map fun i => .int (lo + (i : Nat))
  | 0, _ => rfl
  | n + 1, lo => by
    rw [List.range_succ_eq_map, List.map_cons, List.map_map]
    show _ :: rangeL (lo + 1) n = _
    rw [rangeL_map n]
    congr 1
    · congr 1; simp
    · apply List.map_congr_left
      intro i _
      show D.int _ = D.int _
      congr 1
      show lo + 1 + (i : Int) = lo + ((i + 1 : Nat) : Int)
      omega
theorem range_1 {n : Nat} (h : n ≤ SZ) : rangeD [.int (n : Int)] = some ((List.range n).map fun i => .int (i : Nat)) := by
  have e0 : rangeD [.int (n : Int)] = (if rgB (n : Int) then some (rangeL 0 (n : Int).toNat) else none) := by unfold rangeD; rfl
  rw [e0]
  have hb : rgB (n : Int) = true := by
    refine decide_eq_true ?_
    have : n ≤ 16777216 := h
    omega
  rw [if_pos hb, Int.toNat_natCast, rangeL_map]
  refine congrArg some (List.map_congr_left fun i _ => ?_)
  rw [Int.zero_add]
theorem ix_nat {n i : Nat} (h : i < n) : ixN n (i : Int) = some i := by
  unfold ixN
  rw [if_pos (by omega), if_pos (by omega), Int.toNat_natCast]
theorem at_nat {α : Type} {xs : List α} {i : Nat} {a : α} (h : xs[i]? = some a) : atI xs (i : Int) = some a := by
  unfold atI
  rw [ix_nat (List.getElem?_eq_some_iff.mp h).1]
  exact h
theorem at_last {α : Type} (xs : List α) (a : α) : atI (xs ++ [a]) (-1) = some a := by
  unfold atI ixN
  rw [if_neg (by decide), if_pos (by rw [List.length_append]; simp; omega)]
  show (xs ++ [a])[_]? = some a
  have e : ((-1 : Int) + ((xs ++ [a]).length : Nat)).toNat = xs.length := by rw [List.length_append]; simp; omega
  rw [e]; simp
/-! ### values that may be compared one by one -/
mutual
def D.fine : D → Bool
  | .tup xs => decide (xs.length ≤ SZ) && fines xs
  | .lst xs => decide (xs.length ≤ SZ) && fines xs
  | .lk _ => false
  | .non => true
  | .bl _ => true
  | .int _ => true
  | .str _ => true
def fines : List D → Bool
  | [] => true
  | x :: xs => x.fine && fines xs
end
theorem fines_at : ∀ {xs : List D} {x : D}, fines xs = true → x ∈ xs → x.fine = true
  | _ :: _, _, h, hx => by
    have h := Bool.and_eq_true_iff.mp h
    rcases List.mem_cons.mp hx with rfl | hx
    · exact h.1
    · exact fines_at h.2 hx
theorem deps_at : ∀ {xs : List D} {x : D}, x ∈ xs → x.dep ≤ deps xs
  | y :: ys, x, hx => by
    show x.dep ≤ max y.dep (deps ys)
    rcases List.mem_cons.mp hx with rfl | hx
    · exact Nat.le_max_left _ _
    · exact Nat.le_trans (deps_at hx) (Nat.le_max_right _ _)
theorem strs_fine {α : Type} (f : α → List Nat) : ∀ l : List α, fines (l.map fun c => .str (f c)) = true
  | [] => rfl
  | _ :: l => strs_fine f l
theorem all_true {α : Type} (l : List α) : (l.all fun _ => true) = true := List.all_eq_true.mpr fun _ _ => rfl
/-! ### rows of statements -/
def nthS : Ss → Nat → S
  | .nil, _ => .pas
  | .cons s _, 0 => s
  | .cons _ r, i + 1 => nthS r i
def dropS : Ss → Nat → Ss
  | r, 0 => r
  | .nil, _ + 1 => .nil
  | .cons _ r, i + 1 => dropS r i
theorem ss_step {G : Cfg} {b : Ss} {i : Nat} (h : dropS b i = .cons (nthS b i) (dropS b (i + 1))) {ρ ρ' : En} (e : evS G (nthS b i) ρ = some (.nx ρ')) : evSs G (dropS b i) ρ = evSs G (dropS b (i + 1)) ρ' := by
  rw [h, s_cons, e]; rfl
theorem ss_last {G : Cfg} {b : Ss} {i : Nat} (h : dropS b i = .cons (nthS b i) (dropS b (i + 1))) {ρ ρ' : En} {r : R} (e : evS G (nthS b i) ρ = some (.rt r ρ')) : evSs G (dropS b i) ρ = some (.rt r ρ') := by
  rw [h, s_cons, e]; rfl
theorem forL_nil (f : D → SM) (ρ : En) : forL f [] ρ = some (.nx ρ) := rfl
theorem forL_nx {f : D → SM} {d : D} {ds : List D} {ρ ρ' : En} (h : f d ρ = some (.nx ρ')) : forL f (d :: ds) ρ = forL f ds ρ' := by
  show (match f d ρ with | some (.nx ρ') => forL f ds ρ' | some (.ct ρ') => forL f ds ρ' | some (.bk ρ') => some (.nx ρ') | some (.rt r ρ') => some (.rt r ρ') | none => none) = _
  rw [h]
theorem at_m1 {α : Type} {xs : List α} {n : Nat} {a : α} (hl : xs.length = n + 1) (h : xs[n]? = some a) : atI xs (-1) = some a := by
  unfold atI ixN
  rw [if_neg (by decide), if_pos (by omega), hl]
  show xs[_]? = some a
  have e : ((-1 : Int) + ((n + 1 : Nat) : Int)).toNat = n := by omega
  rw [e]; exact h
theorem mul_lst2 (a b : D) : dMul (.lst [a, b]) (.int 2) = some (.fr [a, b, a, b]) := rfl
theorem for_ind {G : Cfg} {s : S} {t : Tg} {it : It} {b : Ss} (h : s = .for_ t it b) (P : Nat → En → Prop) {ρ ρ1 : En} {ds : List D} (hi : evI G it ρ = some (ds, ρ1)) (h0 : P 0 ρ1)
    (hs : ∀ i ρ d, P i ρ → ds[i]? = some d → ∃ ρ', obn (evG G t d ρ) (fun p => evSs G b p.2) = some (.nx ρ') ∧ P (i + 1) ρ') : ∃ ρ', evS G s ρ = some (.nx ρ') ∧ P ds.length ρ' := by
  subst h
  rw [s_for, hi]
  refine forL_ind ds P ρ1 h0 fun i ρ d hp hd => ?_
  obtain ⟨ρ', e, p⟩ := hs i ρ d hp hd
  exact ⟨ρ', .inl (by rw [bndS_obn]; exact e), p⟩
end Rm

set_option Elab.async false
set_option linter.all false
set_option maxRecDepth 100000
set_option maxHeartbeats 8000000
/-! ## the table, printed by wip/gen.py from the linked text -/
namespace Tb
open Rm PySem
def sg : List Nat := [32, 40, 41, 44, 45, 46, 48, 49, 50, 51, 52, 53, 54, 55, 56, 57, 60, 61, 62, 97, 98, 99, 100, 101, 102, 103, 104, 105, 106, 107, 108, 109, 110, 111, 112, 113, 114, 115, 116, 117, 118, 119, 120, 121, 122]
def dg : List Nat := [48, 49, 50, 51, 52, 53, 54, 55, 56, 57]
def q_2 : List Nat := [112, 117, 116, 32, 99, 117, 116, 32, 40, 44, 41]
def q_3 : List Nat := [48, 49, 53, 57, 32, 97, 122, 126, 40]
def q_4 : List Nat := [48, 48, 49, 48, 50, 49, 97]
def q_5 : List Nat := [48, 48, 48, 48, 48, 48]
def q_6 : List Nat := [48, 48, 49, 48, 50, 48, 97]
def b_is_text_of : Ss := (.cons (.ret (.and (.isi (.var 0) .str) (.blt .all (.cons (.comp [2] (.name 2) (.of (.var 0)) .absent (.cmp .isin (.var 2) (.var 1))) .nil))))
  .nil)
def f_is_text_of : Fn := ⟨"is_text_of", ["value", "signs", "sign"], 2, [false, false], b_is_text_of⟩
def b_is_lined : Ss := (.cons (.ret (.and (.call 0 (.cons (.var 0) (.cons (.glob 1) .nil))) (.cmp .le (.blt .len (.cons (.var 0) .nil)) (.glob 2))))
  .nil)
def f_is_lined : Fn := ⟨"is_lined", ["value"], 1, [false], b_is_lined⟩
def b_check_text : Ss := (.cons (.iff (.not (.isi (.var 0) .str))
    (.cons .rai
    .nil)
    .nil)
  .nil)
def f_check_text : Fn := ⟨"check_text", ["text"], 1, [false], b_check_text⟩
def b_check_line : Ss := (.cons (.iff (.not (.call 1 (.cons (.var 0) .nil)))
    (.cons .rai
    .nil)
    .nil)
  .nil)
def f_check_line : Fn := ⟨"check_line", ["text"], 1, [false], b_check_line⟩
def b_first_wrong_text : Ss := (.cons (.ret (.minN (.comp [1, 2] (.tup (.cons (.name 1) (.cons (.name 2) .nil))) (.enum (.var 0) 0) (.or (.not (.call 1 (.cons (.var 2) .nil))) (.cmp .eq (.var 2) (.str []))) (.var 1))))
  .nil)
def f_first_wrong_text : Fn := ⟨"first_wrong_text", ["value", "index", "text"], 1, [false], b_first_wrong_text⟩
def b_check_of : Ss := (.cons (.ret (.bin .mod (.blt .sum (.cons (.comp [1, 2] (.tup (.cons (.name 1) (.cons (.name 2) .nil))) (.enum (.var 0) 1) .absent (.bin .mul (.var 1) (.bin .add (.met .index (.glob 1) (.cons (.var 2) .nil)) (.int 1)))) .nil)) (.glob 3)))
  .nil)
def f_check_of : Fn := ⟨"check_of", ["text", "place", "sign"], 1, [false], b_check_of⟩
def b_figures : Ss := (.cons (.ret (.met .zfill (.blt .str (.cons (.var 0) .nil)) (.cons (.var 1) .nil)))
  .nil)
def f_figures : Fn := ⟨"figures", ["number", "many"], 2, [false, false], b_figures⟩
def b_frame_of : Ss := (.cons (.ret (.bin .add (.bin .add (.call 6 (.cons (.blt .len (.cons (.var 0) .nil)) (.cons (.glob 4) .nil))) (.call 6 (.cons (.call 5 (.cons (.var 0) .nil)) (.cons (.glob 4) .nil)))) (.var 0)))
  .nil)
def f_frame_of : Fn := ⟨"frame_of", ["text"], 1, [false], b_frame_of⟩
def b_text_at : Ss := (.cons (.asg (.name 2) (.sli (.var 0) (.var 1) (.bin .add (.var 1) (.glob 5))))
  (.cons (.iff (.or (.cmp .lt (.blt .len (.cons (.var 2) .nil)) (.glob 5)) (.not (.call 0 (.cons (.var 2) (.cons (.glob 0) .nil)))))
    (.cons (.ret .non)
    .nil)
    .nil)
  (.cons (.par [4, 5] (.cons (.blt .int (.cons (.sli (.var 2) .absent (.glob 4)) .nil)) (.cons (.blt .int (.cons (.sli (.var 2) (.glob 4) .absent) .nil)) .nil)))
  (.cons (.asg (.name 3) (.sli (.var 0) (.bin .add (.var 1) (.glob 5)) (.bin .add (.bin .add (.var 1) (.glob 5)) (.var 4))))
  (.cons (.iff (.or (.cmp .eq (.var 4) (.int 0)) (.or (.cmp .lt (.blt .len (.cons (.var 3) .nil)) (.var 4)) (.not (.call 0 (.cons (.var 3) (.cons (.glob 1) .nil))))))
    (.cons (.ret .non)
    .nil)
    .nil)
  (.cons (.ret (.ife (.cmp .eq (.call 5 (.cons (.var 3) .nil)) (.var 5)) (.var 3) .non))
  .nil))))))
def f_text_at : Fn := ⟨"text_at", ["stream", "start", "head", "text", "length", "check"], 2, [false, false], b_text_at⟩
def b_frames_by : Ss := (.cons (.par [1, 2] (.cons (.lst .nil) (.cons (.int 0) .nil)))
  (.cons (.whl (.cmp .isnot (.call 8 (.cons (.var 0) (.cons (.var 2) .nil))) .non)
    (.cons (.ex (.mut .append 1 (.call 8 (.cons (.var 0) (.cons (.var 2) .nil)))))
    (.cons (.asg (.name 2) (.bin .add (.bin .add (.var 2) (.glob 5)) (.blt .len (.cons (.idx (.var 1) (.neg (.int 1))) .nil))))
    .nil)))
  (.cons (.ret (.tup (.cons (.var 1) (.cons (.var 2) .nil))))
  .nil)))
def f_frames_by : Fn := ⟨"frames_by", ["stream", "found", "end"], 1, [false], b_frames_by⟩
def b_stream_by : Ss := (.cons (.ret (.met .join (.str []) (.cons (.comp [1] (.name 1) (.of (.var 0)) .absent (.call 7 (.cons (.var 1) .nil))) .nil)))
  .nil)
def f_stream_by : Fn := ⟨"stream_by", ["texts", "text"], 1, [false], b_stream_by⟩
def b_check_filled_line : Ss := (.cons (.ex (.call 3 (.cons (.var 0) .nil)))
  (.cons (.iff (.cmp .eq (.var 0) (.str []))
    (.cons .rai
    .nil)
    .nil)
  .nil))
def f_check_filled_line : Fn := ⟨"check_filled_line", ["text"], 1, [false], b_check_filled_line⟩
def b_check_texts : Ss := (.cons (.iff (.or (.not (.isi (.var 0) .tuple)) (.cmp .gt (.blt .len (.cons (.var 0) .nil)) (.glob 6)))
    (.cons .rai
    .nil)
    .nil)
  (.cons (.asg (.name 1) (.call 4 (.cons (.var 0) .nil)))
  (.cons (.iff (.cmp .isnot (.var 1) .non)
    (.cons .rai
    .nil)
    .nil)
  .nil)))
def f_check_texts : Fn := ⟨"check_texts", ["texts", "wrong"], 1, [false], b_check_texts⟩
def b_check_number : Ss := (.cons (.ex (.call 3 (.cons (.var 0) .nil)))
  (.cons (.ret (.call 5 (.cons (.var 0) .nil)))
  .nil))
def f_check_number : Fn := ⟨"check_number", ["text"], 1, [false], b_check_number⟩
def b_frame : Ss := (.cons (.ex (.call 11 (.cons (.var 0) .nil)))
  (.cons (.ret (.call 7 (.cons (.var 0) .nil)))
  .nil))
def f_frame : Fn := ⟨"frame", ["text"], 1, [false], b_frame⟩
def b_frames_in : Ss := (.cons (.ex (.call 2 (.cons (.var 0) .nil)))
  (.cons (.asg (.tup (.cons (.name 1) (.cons (.name 2) .nil))) (.call 9 (.cons (.var 0) .nil)))
  (.cons (.ret (.tup (.cons (.blt .tuple (.cons (.var 1) .nil)) (.cons (.var 2) .nil))))
  .nil)))
def f_frames_in : Fn := ⟨"frames_in", ["stream", "texts", "end"], 1, [false], b_frames_in⟩
def b_stream_of : Ss := (.cons (.ex (.call 12 (.cons (.var 0) .nil)))
  (.cons (.ret (.call 10 (.cons (.var 0) .nil)))
  .nil))
def f_stream_of : Fn := ⟨"stream_of", ["texts"], 1, [false], b_stream_of⟩
def b_law_well : Ss := (.cons (.asg (.name 2) (.ife (.cmp .lt (.var 1) (.blt .len (.cons (.var 0) .nil))) (.blt .int (.cons (.idx (.var 0) (.var 1)) .nil)) (.bin .add (.bin .add (.bin .mul (.int 9311) (.var 1)) (.bin .mod (.blt .int (.cons (.blt .sum (.cons (.sli (.var 0) .absent (.int 2)) .nil)) .nil)) (.int 1000003))) (.int 71))))
  (.cons (.asg (.name 3) (.bin .add (.int 50021) (.bin .mul (.int 1013) (.var 1))))
  (.cons (.for_ (.name 4) (.of (.bin .add (.sli (.var 0) .absent (.int 5)) (.lst (.cons (.var 2) .nil))))
    (.cons (.asg (.name 3) (.bin .mod (.blt .int (.cons (.bin .add (.bin .add (.bin .mul (.var 3) (.int 45013)) (.bin .mod (.blt .int (.cons (.var 4) .nil)) (.int 2147483399))) (.int 37)) .nil)) (.int 2147483563)))
    .nil))
  (.cons (.ret (.lst (.cons (.ife (.or (.cmp .lt (.var 2) (.int 0)) (.cmp .ge (.var 2) (.bin .pow (.int 10) (.int 17)))) (.blt .abs (.cons (.var 2) .nil)) (.int 0)) (.cons (.var 3) (.cons (.int 0) .nil)))))
  .nil))))
def f_law_well : Fn := ⟨"_law_well", ["script", "turn", "own", "stir", "cell"], 2, [false, false], b_law_well⟩
def b_law_take : Ss := (.cons (.iff (.cmp .gt (.idx (.var 0) (.int 0)) (.int 0))
    (.cons (.asg (.tup (.cons (.sub 0 (.int 0)) (.cons (.name 3) .nil))) (.blt .divmod (.cons (.idx (.var 0) (.int 0)) (.cons (.var 1) .nil))))
    (.cons (.ret (.var 3))
    .nil))
    .nil)
  (.cons (.asg (.sub 0 (.int 2)) (.bin .add (.idx (.var 0) (.int 2)) (.int 1)))
  (.cons (.asg (.name 2) (.bin .add (.bin .mod (.blt .int (.cons (.idx (.var 0) (.int 1)) .nil)) (.int 28657)) (.int 40009)))
  (.cons (.asg (.sub 0 (.int 1)) (.bin .mod (.blt .int (.cons (.bin .add (.bin .add (.bin .mul (.idx (.var 0) (.int 1)) (.var 2)) (.bin .mul (.int 50023) (.idx (.var 0) (.int 2)))) (.int 17)) .nil)) (.int 2147483563)))
  (.cons (.ret (.bin .mod (.blt .int (.cons (.bin .fdiv (.idx (.var 0) (.int 1)) (.int 83)) .nil)) (.var 1)))
  .nil)))))
def f_law_take : Fn := ⟨"_law_take", ["well", "many", "by", "figure"], 2, [true, false], b_law_take⟩
def b_law_pick : Ss := (.cons (.ret (.idx (.var 1) (.call 18 (.cons (.var 0) (.cons (.blt .len (.cons (.var 1) .nil)) .nil)))))
  .nil)
def f_law_pick : Fn := ⟨"_law_pick", ["well", "some"], 2, [true, false], b_law_pick⟩
def b_law_same : Ss := (.cons (.iff (.or (.isi (.var 1) .tuple) (.isi (.var 1) .list))
    (.cons (.iff (.or (.cmp .ne (.isi (.var 0) .tuple) (.isi (.var 1) .tuple)) (.cmp .ne (.isi (.var 0) .list) (.isi (.var 1) .list)))
      (.cons (.ret (.bl false))
      .nil)
      .nil)
    (.cons (.ret (.and (.cmp .eq (.blt .len (.cons (.var 0) .nil)) (.blt .len (.cons (.var 1) .nil))) (.blt .all (.cons (.comp [2] (.name 2) (.range (.cons (.blt .len (.cons (.var 1) .nil)) .nil)) .absent (.call 20 (.cons (.idx (.var 0) (.var 2)) (.cons (.idx (.var 1) (.var 2)) .nil)))) .nil))))
    .nil))
    .nil)
  (.cons (.iff (.cmp .is (.var 1) .non)
    (.cons (.ret (.cmp .is (.var 0) .non))
    .nil)
    .nil)
  (.cons (.iff (.isi (.var 1) .bool)
    (.cons (.ret (.and (.isi (.var 0) .bool) (.cmp .eq (.var 0) (.var 1))))
    .nil)
    .nil)
  (.cons (.iff (.isi (.var 1) .int)
    (.cons (.ret (.and (.isi (.var 0) .int) (.and (.not (.isi (.var 0) .bool)) (.cmp .eq (.var 0) (.var 1)))))
    .nil)
    .nil)
  (.cons (.ret (.and (.isi (.var 0) .str) (.cmp .eq (.var 0) (.var 1))))
  .nil)))))
def f_law_same : Fn := ⟨"_law_same", ["told", "due", "at"], 2, [false, false], b_law_same⟩
def b_law_check : Ss := (.cons (.par [2, 3] (.cons (.str sg) (.cons (.int 0) .nil)))
  (.cons (.for_ (.name 1) (.range (.cons (.blt .len (.cons (.var 0) .nil)) .nil))
    (.cons (.asg (.name 3) (.bin .add (.var 3) (.bin .mul (.bin .add (.var 1) (.int 1)) (.bin .add (.met .index (.var 2) (.cons (.idx (.var 0) (.var 1)) .nil)) (.int 1)))))
    .nil))
  (.cons (.ret (.bin .mod (.blt .int (.cons (.var 3) .nil)) (.int 997)))
  .nil)))
def f_law_check : Fn := ⟨"_law_check", ["text", "at", "row", "total"], 1, [false], b_law_check⟩
def b_law_three : Ss := (.cons (.ret (.sli (.bin .add (.str [48, 48, 48]) (.blt .str (.cons (.var 0) .nil))) (.neg (.int 3)) .absent))
  .nil)
def f_law_three : Fn := ⟨"_law_three", ["number"], 1, [false], b_law_three⟩
def b_law_frame : Ss := (.cons (.ret (.bin .add (.bin .add (.call 22 (.cons (.blt .len (.cons (.var 0) .nil)) .nil)) (.call 22 (.cons (.call 21 (.cons (.var 0) .nil)) .nil))) (.var 0)))
  .nil)
def f_law_frame : Fn := ⟨"_law_frame", ["text"], 1, [false], b_law_frame⟩
def b_law_is_signs : Ss := (.cons (.ret (.cmp .eq (.comp [1] (.name 1) (.of (.var 0)) (.cmp .notin (.var 1) (.str sg)) (.var 1)) (.lst .nil)))
  .nil)
def f_law_is_signs : Fn := ⟨"_law_is_signs", ["text", "sign"], 1, [false], b_law_is_signs⟩
def b_law_frames_in : Ss := (.cons (.par [2, 3] (.cons (.tup .nil) (.cons (.int 0) .nil)))
  (.cons (.for_ (.name 1) (.range (.cons (.blt .len (.cons (.var 0) .nil)) .nil))
    (.cons (.asg (.name 4) (.sli (.var 0) (.var 3) (.bin .add (.var 3) (.int 6))))
    (.cons (.iff (.or (.cmp .lt (.blt .len (.cons (.var 4) .nil)) (.int 6)) (.cmp .ne (.comp [7] (.name 7) (.of (.var 4)) (.cmp .notin (.var 7) (.str dg)) (.var 7)) (.lst .nil)))
      (.cons (.ret (.tup (.cons (.var 2) (.cons (.var 3) .nil))))
      .nil)
      .nil)
    (.cons (.asg (.name 5) (.blt .int (.cons (.sli (.var 4) .absent (.int 3)) .nil)))
    (.cons (.asg (.name 6) (.sli (.var 0) (.bin .add (.var 3) (.int 6)) (.bin .add (.bin .add (.var 3) (.int 6)) (.var 5))))
    (.cons (.iff (.or (.cmp .eq (.var 5) (.int 0)) (.or (.cmp .lt (.blt .len (.cons (.var 6) .nil)) (.var 5)) (.or (.not (.call 24 (.cons (.var 6) .nil))) (.cmp .ne (.call 22 (.cons (.call 21 (.cons (.var 6) .nil)) .nil)) (.sli (.var 4) (.int 3) .absent)))))
      (.cons (.ret (.tup (.cons (.var 2) (.cons (.var 3) .nil))))
      .nil)
      .nil)
    (.cons (.par [2, 3] (.cons (.bin .add (.var 2) (.tup (.cons (.var 6) .nil))) (.cons (.bin .add (.bin .add (.var 3) (.int 6)) (.var 5)) .nil)))
    .nil)))))))
  (.cons (.ret (.tup (.cons (.var 2) (.cons (.var 3) .nil))))
  .nil)))
def f_law_frames_in : Fn := ⟨"_law_frames_in", ["stream", "turn", "texts", "end", "head", "size", "text", "sign"], 1, [false], b_law_frames_in⟩
def b_law_text : Ss := (.cons (.par [3, 4] (.cons (.call 18 (.cons (.var 0) (.cons (.int 4) .nil))) (.cons (.bin .add (.int 1) (.call 18 (.cons (.var 0) (.cons (.var 1) .nil)))) .nil)))
  (.cons (.asg (.name 2) (.idx (.lst (.cons (.str sg) (.cons (.str dg) (.cons (.str q_2) (.cons (.str [122, 121, 120, 32, 61]) .nil))))) (.var 3)))
  (.cons (.ret (.met .join (.str []) (.cons (.comp [5] (.name 5) (.range (.cons (.var 4) .nil)) .absent (.call 19 (.cons (.var 0) (.cons (.var 2) .nil)))) .nil)))
  .nil)))
def f_law_text : Fn := ⟨"_law_text", ["well", "most", "signs", "manner", "many", "at"], 2, [true, false], b_law_text⟩
def b_law_right : Ss := (.cons (.asg (.name 2) (.met .join (.str []) (.cons (.comp [3] (.name 3) (.of (.var 1)) .absent (.call 23 (.cons (.var 3) .nil))) .nil)))
  (.cons (.iff (.not (.call 20 (.cons (.lst (.cons (.call 16 (.cons (.var 1) .nil)) (.cons (.callK 16 .nil (.cons (.var 1) .nil) 3) (.cons (.call 15 (.cons (.var 2) .nil)) (.cons (.callK 15 .nil (.cons (.var 2) .nil) 2) .nil))))) (.cons (.lst (.cons (.var 2) (.cons (.var 2) (.cons (.tup (.cons (.var 1) (.cons (.blt .len (.cons (.var 2) .nil)) .nil))) (.cons (.tup (.cons (.var 1) (.cons (.blt .len (.cons (.var 2) .nil)) .nil))) .nil))))) .nil))))
    (.cons (.ret (.bl false))
    .nil)
    .nil)
  (.cons (.for_ (.name 3) (.of (.var 1))
    (.cons (.iff (.not (.call 20 (.cons (.lst (.cons (.call 13 (.cons (.var 3) .nil)) (.cons (.call 14 (.cons (.var 3) .nil)) (.cons (.callK 13 .nil (.cons (.var 3) .nil) 1) (.cons (.callK 14 .nil (.cons (.var 3) .nil) 0) .nil))))) (.cons (.bin .mul (.lst (.cons (.call 21 (.cons (.var 3) .nil)) (.cons (.call 23 (.cons (.var 3) .nil)) .nil))) (.int 2)) .nil))))
      (.cons (.ret (.bl false))
      .nil)
      .nil)
    .nil))
  (.cons (.asg (.name 4) (.lst (.cons (.int 0) .nil)))
  (.cons (.for_ (.name 3) (.of (.var 1))
    (.cons (.ex (.mut .append 4 (.bin .add (.bin .add (.idx (.var 4) (.neg (.int 1))) (.int 6)) (.blt .len (.cons (.var 3) .nil)))))
    .nil))
  (.cons (.for_ (.name 5) (.of (.ife (.cmp .lt (.blt .len (.cons (.var 2) .nil)) (.int 200)) (.listIt (.range (.cons (.bin .add (.blt .len (.cons (.var 2) .nil)) (.int 1)) .nil))) (.comp [6] (.name 6) (.range (.cons (.int 60) .nil)) .absent (.call 18 (.cons (.var 0) (.cons (.blt .len (.cons (.var 2) .nil)) .nil))))))
    (.cons (.asg (.name 7) (.blt .len (.cons (.comp [10] (.name 10) (.of (.sli (.var 4) (.int 1) .absent)) (.cmp .le (.var 10) (.var 5)) (.var 10)) .nil)))
    (.cons (.for_ (.name 8) (.of (.lst (.cons (.str []) (.cons (.bin .mul (.str [126]) (.int 9)) .nil))))
      (.cons (.iff (.not (.call 20 (.cons (.call 15 (.cons (.bin .add (.sli (.var 2) .absent (.var 5)) (.var 8)) .nil)) (.cons (.tup (.cons (.sli (.var 1) .absent (.var 7)) (.cons (.idx (.var 4) (.var 7)) .nil))) .nil))))
        (.cons (.ret (.bl false))
        .nil)
        .nil)
      .nil))
    .nil)))
  (.cons (.for_ (.name 6) (.range (.cons (.int 12) .nil))
    (.cons (.asg (.name 5) (.call 18 (.cons (.var 0) (.cons (.blt .max (.cons (.int 1) (.cons (.blt .len (.cons (.var 2) .nil)) .nil))) .nil))))
    (.cons (.asg (.name 9) (.bin .add (.bin .add (.bin .add (.sli (.var 2) .absent (.var 5)) (.call 19 (.cons (.var 0) (.cons (.str q_3) .nil)))) (.sli (.var 2) (.bin .add (.var 5) (.int 1)) .absent)) (.call 19 (.cons (.var 0) (.cons (.lst (.cons (.str []) (.cons (.str [126]) (.cons (.str q_6) (.cons (.str q_5) (.cons (.str q_4) (.cons (.str [57, 57, 57]) .nil))))))) .nil)))))
    (.cons (.iff (.not (.call 20 (.cons (.call 15 (.cons (.var 9) .nil)) (.cons (.call 25 (.cons (.var 9) .nil)) .nil))))
      (.cons (.ret (.bl false))
      .nil)
      .nil)
    .nil))))
  (.cons (.ret (.bl true))
  .nil))))))))
def f_law_right : Fn := ⟨"_law_right", ["well", "texts", "stream", "text", "ends", "at", "turn", "many", "tail", "bent", "end"], 2, [true, false], b_law_right⟩
def b_law : Ss := (.cons (.for_ (.name 1) (.range (.cons (.blt .max (.cons (.int 2) (.cons (.blt .min (.cons (.blt .len (.cons (.var 0) .nil)) (.cons (.int 4) .nil))) .nil))) .nil))
    (.cons (.asg (.name 2) (.call 17 (.cons (.var 0) (.cons (.var 1) .nil))))
    (.cons (.for_ (.tup (.cons (.name 3) (.cons (.name 4) .nil))) (.of (.lst (.cons (.tup (.cons (.int 0) (.cons (.int 1) .nil))) (.cons (.tup (.cons (.int 1) (.cons (.int 200) .nil))) (.cons (.tup (.cons (.int 2) (.cons (.int 20) .nil))) (.cons (.tup (.cons (.int 3) (.cons (.int 30) .nil))) (.cons (.tup (.cons (.int 5) (.cons (.int 6) .nil))) (.cons (.tup (.cons (.int 8) (.cons (.int 60) .nil))) .nil))))))))
      (.cons (.iff (.not (.call 27 (.cons (.var 2) (.cons (.blt .tuple (.cons (.comp [5] (.name 5) (.range (.cons (.var 3) .nil)) .absent (.call 26 (.cons (.var 2) (.cons (.var 4) .nil)))) .nil)) .nil))))
        (.cons (.ret (.bl false))
        .nil)
        .nil)
      .nil))
    .nil)))
  (.cons (.ret (.cmp .eq (.call 13 (.cons (.str []) .nil)) (.int 0)))
  .nil))
def f_law : Fn := ⟨"law", ["script", "turn", "well", "many", "most", "at"], 1, [false], b_law⟩
def fns : List Fn := [f_is_text_of, f_is_lined, f_check_text, f_check_line, f_first_wrong_text, f_check_of, f_figures, f_frame_of, f_text_at, f_frames_by, f_stream_by, f_check_filled_line, f_check_texts, f_check_number, f_frame, f_frames_in, f_stream_of, f_law_well, f_law_take, f_law_pick, f_law_same, f_law_check, f_law_three, f_law_frame, f_law_is_signs, f_law_frames_in, f_law_text, f_law_right, f_law]
def con : List (String × D) := [("DIGITS", (.str dg)), ("SIGNS", (.str sg)), ("LONGEST_LINE", (.int 200)), ("MODULUS", (.int 997)), ("DIGITS_OF_PART", (.int 3)), ("HEAD", (.int 6)), ("MOST_TEXTS", (.int 60))]
def kws : List Kw := [⟨14, 0, ["text"], [0]⟩, ⟨13, 0, ["text"], [0]⟩, ⟨15, 0, ["stream"], [0]⟩, ⟨16, 0, ["texts"], [0]⟩]
def T : Tab := ⟨fns, con, kws⟩
abbrev i_is_text_of : Nat := 0
abbrev i_is_lined : Nat := 1
abbrev i_check_text : Nat := 2
abbrev i_check_line : Nat := 3
abbrev i_first_wrong_text : Nat := 4
abbrev i_check_of : Nat := 5
abbrev i_figures : Nat := 6
abbrev i_frame_of : Nat := 7
abbrev i_text_at : Nat := 8
abbrev i_frames_by : Nat := 9
abbrev i_stream_by : Nat := 10
abbrev i_check_filled_line : Nat := 11
abbrev i_check_texts : Nat := 12
abbrev i_check_number : Nat := 13
abbrev i_frame : Nat := 14
abbrev i_frames_in : Nat := 15
abbrev i_stream_of : Nat := 16
abbrev i_law_well : Nat := 17
abbrev i_law_take : Nat := 18
abbrev i_law_pick : Nat := 19
abbrev i_law_same : Nat := 20
abbrev i_law_check : Nat := 21
abbrev i_law_three : Nat := 22
abbrev i_law_frame : Nat := 23
abbrev i_law_is_signs : Nat := 24
abbrev i_law_frames_in : Nat := 25
abbrev i_law_text : Nat := 26
abbrev i_law_right : Nat := 27
abbrev i_law : Nat := 28
end Tb

/-! ## the text -/
namespace Tb
open Rm PySem PySem.Spec L2
def topS (i : Nat) : Stmt := PySem.Challenge.pw_roadsmeet_k43_frames_cut_anywhere.main.body.getD i (.Pass ⟨0, 0, 0, 0⟩)
abbrev s_is_text_of : Stmt := topS 5
abbrev s_is_lined : Stmt := topS 10
abbrev s_check_text : Stmt := topS 12
abbrev s_check_line : Stmt := topS 13
abbrev s_first_wrong_text : Stmt := topS 19
abbrev s_check_of : Stmt := topS 20
abbrev s_figures : Stmt := topS 21
abbrev s_frame_of : Stmt := topS 22
abbrev s_text_at : Stmt := topS 23
abbrev s_frames_by : Stmt := topS 24
abbrev s_stream_by : Stmt := topS 25
abbrev s_check_filled_line : Stmt := topS 27
abbrev s_check_texts : Stmt := topS 28
abbrev s_check_number : Stmt := topS 29
abbrev s_frame : Stmt := topS 30
abbrev s_frames_in : Stmt := topS 31
abbrev s_stream_of : Stmt := topS 32
abbrev s_law_well : Stmt := topS 34
abbrev s_law_take : Stmt := topS 35
abbrev s_law_pick : Stmt := topS 36
abbrev s_law_same : Stmt := topS 37
abbrev s_law_check : Stmt := topS 38
abbrev s_law_three : Stmt := topS 39
abbrev s_law_frame : Stmt := topS 40
abbrev s_law_is_signs : Stmt := topS 41
abbrev s_law_frames_in : Stmt := topS 42
abbrev s_law_text : Stmt := topS 43
abbrev s_law_right : Stmt := topS 44
abbrev s_law : Stmt := topS 45
def sts : List Stmt := [s_is_text_of, s_is_lined, s_check_text, s_check_line, s_first_wrong_text, s_check_of, s_figures, s_frame_of, s_text_at, s_frames_by, s_stream_by, s_check_filled_line, s_check_texts, s_check_number, s_frame, s_frames_in, s_stream_of, s_law_well, s_law_take, s_law_pick, s_law_same, s_law_check, s_law_three, s_law_frame, s_law_is_signs, s_law_frames_in, s_law_text, s_law_right, s_law]
theorem c_is_text_of : fnC T f_is_text_of s_is_text_of = true := by decide +kernel
theorem c_is_lined : fnC T f_is_lined s_is_lined = true := by decide +kernel
theorem c_check_text : fnC T f_check_text s_check_text = true := by decide +kernel
theorem c_check_line : fnC T f_check_line s_check_line = true := by decide +kernel
theorem c_first_wrong_text : fnC T f_first_wrong_text s_first_wrong_text = true := by decide +kernel
theorem c_check_of : fnC T f_check_of s_check_of = true := by decide +kernel
theorem c_figures : fnC T f_figures s_figures = true := by decide +kernel
theorem c_frame_of : fnC T f_frame_of s_frame_of = true := by decide +kernel
theorem c_text_at : fnC T f_text_at s_text_at = true := by decide +kernel
theorem c_frames_by : fnC T f_frames_by s_frames_by = true := by decide +kernel
theorem c_stream_by : fnC T f_stream_by s_stream_by = true := by decide +kernel
theorem c_check_filled_line : fnC T f_check_filled_line s_check_filled_line = true := by decide +kernel
theorem c_check_texts : fnC T f_check_texts s_check_texts = true := by decide +kernel
theorem c_check_number : fnC T f_check_number s_check_number = true := by decide +kernel
theorem c_frame : fnC T f_frame s_frame = true := by decide +kernel
theorem c_frames_in : fnC T f_frames_in s_frames_in = true := by decide +kernel
theorem c_stream_of : fnC T f_stream_of s_stream_of = true := by decide +kernel
theorem c_law_well : fnC T f_law_well s_law_well = true := by decide +kernel
theorem c_law_take : fnC T f_law_take s_law_take = true := by decide +kernel
theorem c_law_pick : fnC T f_law_pick s_law_pick = true := by decide +kernel
theorem c_law_same : fnC T f_law_same s_law_same = true := by decide +kernel
theorem c_law_check : fnC T f_law_check s_law_check = true := by decide +kernel
theorem c_law_three : fnC T f_law_three s_law_three = true := by decide +kernel
theorem c_law_frame : fnC T f_law_frame s_law_frame = true := by decide +kernel
theorem c_law_is_signs : fnC T f_law_is_signs s_law_is_signs = true := by decide +kernel
theorem c_law_frames_in : fnC T f_law_frames_in s_law_frames_in = true := by decide +kernel
theorem c_law_text : fnC T f_law_text s_law_text = true := by decide +kernel
theorem c_law_right : fnC T f_law_right s_law_right = true := by decide +kernel
theorem c_law : fnC T f_law s_law = true := by decide +kernel
theorem cAll : fnsC T sts = true := List.all_eq_true.mpr (by
  intro p hp
  simp only [T, fns, sts, List.zip_cons_cons, List.zip_nil_right, List.zip, List.zipWith, List.mem_cons, List.not_mem_nil, or_false] at hp
  rcases hp with rfl | rfl | rfl | rfl | rfl | rfl | rfl | rfl | rfl | rfl | rfl | rfl | rfl | rfl | rfl | rfl | rfl | rfl | rfl | rfl | rfl | rfl | rfl | rfl | rfl | rfl | rfl | rfl | rfl
  · exact c_is_text_of
  · exact c_is_lined
  · exact c_check_text
  · exact c_check_line
  · exact c_first_wrong_text
  · exact c_check_of
  · exact c_figures
  · exact c_frame_of
  · exact c_text_at
  · exact c_frames_by
  · exact c_stream_by
  · exact c_check_filled_line
  · exact c_check_texts
  · exact c_check_number
  · exact c_frame
  · exact c_frames_in
  · exact c_stream_of
  · exact c_law_well
  · exact c_law_take
  · exact c_law_pick
  · exact c_law_same
  · exact c_law_check
  · exact c_law_three
  · exact c_law_frame
  · exact c_law_is_signs
  · exact c_law_frames_in
  · exact c_law_text
  · exact c_law_right
  · exact c_law)
theorem bp_is_text_of : BindP f_is_text_of s_is_text_of := fun _ _ _ _ _ _ us hl => match us, hl with | [_, _], _ => rfl
theorem bp_is_lined : BindP f_is_lined s_is_lined := fun _ _ _ _ _ _ us hl => match us, hl with | [_], _ => rfl
theorem bp_check_text : BindP f_check_text s_check_text := fun _ _ _ _ _ _ us hl => match us, hl with | [_], _ => rfl
theorem bp_check_line : BindP f_check_line s_check_line := fun _ _ _ _ _ _ us hl => match us, hl with | [_], _ => rfl
theorem bp_first_wrong_text : BindP f_first_wrong_text s_first_wrong_text := fun _ _ _ _ _ _ us hl => match us, hl with | [_], _ => rfl
theorem bp_check_of : BindP f_check_of s_check_of := fun _ _ _ _ _ _ us hl => match us, hl with | [_], _ => rfl
theorem bp_figures : BindP f_figures s_figures := fun _ _ _ _ _ _ us hl => match us, hl with | [_, _], _ => rfl
theorem bp_frame_of : BindP f_frame_of s_frame_of := fun _ _ _ _ _ _ us hl => match us, hl with | [_], _ => rfl
theorem bp_text_at : BindP f_text_at s_text_at := fun _ _ _ _ _ _ us hl => match us, hl with | [_, _], _ => rfl
theorem bp_frames_by : BindP f_frames_by s_frames_by := fun _ _ _ _ _ _ us hl => match us, hl with | [_], _ => rfl
theorem bp_stream_by : BindP f_stream_by s_stream_by := fun _ _ _ _ _ _ us hl => match us, hl with | [_], _ => rfl
theorem bp_check_filled_line : BindP f_check_filled_line s_check_filled_line := fun _ _ _ _ _ _ us hl => match us, hl with | [_], _ => rfl
theorem bp_check_texts : BindP f_check_texts s_check_texts := fun _ _ _ _ _ _ us hl => match us, hl with | [_], _ => rfl
theorem bp_check_number : BindP f_check_number s_check_number := fun _ _ _ _ _ _ us hl => match us, hl with | [_], _ => rfl
theorem bp_frame : BindP f_frame s_frame := fun _ _ _ _ _ _ us hl => match us, hl with | [_], _ => rfl
theorem bp_frames_in : BindP f_frames_in s_frames_in := fun _ _ _ _ _ _ us hl => match us, hl with | [_], _ => rfl
theorem bp_stream_of : BindP f_stream_of s_stream_of := fun _ _ _ _ _ _ us hl => match us, hl with | [_], _ => rfl
theorem bp_law_well : BindP f_law_well s_law_well := fun _ _ _ _ _ _ us hl => match us, hl with | [_, _], _ => rfl
theorem bp_law_take : BindP f_law_take s_law_take := fun _ _ _ _ _ _ us hl => match us, hl with | [_, _], _ => rfl
theorem bp_law_pick : BindP f_law_pick s_law_pick := fun _ _ _ _ _ _ us hl => match us, hl with | [_, _], _ => rfl
theorem bp_law_same : BindP f_law_same s_law_same := fun _ _ _ _ _ _ us hl => match us, hl with | [_, _], _ => rfl
theorem bp_law_check : BindP f_law_check s_law_check := fun _ _ _ _ _ _ us hl => match us, hl with | [_], _ => rfl
theorem bp_law_three : BindP f_law_three s_law_three := fun _ _ _ _ _ _ us hl => match us, hl with | [_], _ => rfl
theorem bp_law_frame : BindP f_law_frame s_law_frame := fun _ _ _ _ _ _ us hl => match us, hl with | [_], _ => rfl
theorem bp_law_is_signs : BindP f_law_is_signs s_law_is_signs := fun _ _ _ _ _ _ us hl => match us, hl with | [_], _ => rfl
theorem bp_law_frames_in : BindP f_law_frames_in s_law_frames_in := fun _ _ _ _ _ _ us hl => match us, hl with | [_], _ => rfl
theorem bp_law_text : BindP f_law_text s_law_text := fun _ _ _ _ _ _ us hl => match us, hl with | [_, _], _ => rfl
theorem bp_law_right : BindP f_law_right s_law_right := fun _ _ _ _ _ _ us hl => match us, hl with | [_, _], _ => rfl
theorem bp_law : BindP f_law s_law := fun _ _ _ _ _ _ us hl => match us, hl with | [_], _ => rfl
theorem bAll : AllB fns sts := .cons bp_is_text_of (.cons bp_is_lined (.cons bp_check_text (.cons bp_check_line (.cons bp_first_wrong_text (.cons bp_check_of (.cons bp_figures (.cons bp_frame_of (.cons bp_text_at (.cons bp_frames_by (.cons bp_stream_by (.cons bp_check_filled_line (.cons bp_check_texts (.cons bp_check_number (.cons bp_frame (.cons bp_frames_in (.cons bp_stream_of (.cons bp_law_well (.cons bp_law_take (.cons bp_law_pick (.cons bp_law_same (.cons bp_law_check (.cons bp_law_three (.cons bp_law_frame (.cons bp_law_is_signs (.cons bp_law_frames_in (.cons bp_law_text (.cons bp_law_right (.cons bp_law (.nil)))))))))))))))))))))))))))))
theorem kw_0 : KwP fns sts ⟨14, 0, ["text"], [0]⟩ := by
  intro fn st h1 h2 kV doc pm an cdv ct us ws as l1 l2 hp
  cases h1
  cases h2
  match us, ws, l1, l2 with
  | [], [w0], _, _ =>
    cases hp
    exact ⟨rfl, fun s => .of_eq rfl⟩
theorem kw_1 : KwP fns sts ⟨13, 0, ["text"], [0]⟩ := by
  intro fn st h1 h2 kV doc pm an cdv ct us ws as l1 l2 hp
  cases h1
  cases h2
  match us, ws, l1, l2 with
  | [], [w0], _, _ =>
    cases hp
    exact ⟨rfl, fun s => .of_eq rfl⟩
theorem kw_2 : KwP fns sts ⟨15, 0, ["stream"], [0]⟩ := by
  intro fn st h1 h2 kV doc pm an cdv ct us ws as l1 l2 hp
  cases h1
  cases h2
  match us, ws, l1, l2 with
  | [], [w0], _, _ =>
    cases hp
    exact ⟨rfl, fun s => .of_eq rfl⟩
theorem kw_3 : KwP fns sts ⟨16, 0, ["texts"], [0]⟩ := by
  intro fn st h1 h2 kV doc pm an cdv ct us ws as l1 l2 hp
  cases h1
  cases h2
  match us, ws, l1, l2 with
  | [], [w0], _, _ =>
    cases hp
    exact ⟨rfl, fun s => .of_eq rfl⟩
theorem kAll : ∀ e ∈ kws, KwP fns sts e := by
  intro e he
  simp only [kws, List.mem_cons, List.not_mem_nil, or_false] at he
  rcases he with rfl | rfl | rfl | rfl
  · exact kw_0
  · exact kw_1
  · exact kw_2
  · exact kw_3
end Tb

/-! ## rules to compute with -/
namespace Tb
open Rm PySem
section
variable (C : Nat → List Av → Option (R × List (List D)))
theorem cfg_C : (T.cfg C).C = C := rfl
theorem mk_0 : (T.cfg C).mask 0 = [false, false] := rfl
theorem mk_1 : (T.cfg C).mask 1 = [false] := rfl
theorem mk_2 : (T.cfg C).mask 2 = [false] := rfl
theorem mk_3 : (T.cfg C).mask 3 = [false] := rfl
theorem mk_4 : (T.cfg C).mask 4 = [false] := rfl
theorem mk_5 : (T.cfg C).mask 5 = [false] := rfl
theorem mk_6 : (T.cfg C).mask 6 = [false, false] := rfl
theorem mk_7 : (T.cfg C).mask 7 = [false] := rfl
theorem mk_8 : (T.cfg C).mask 8 = [false, false] := rfl
theorem mk_9 : (T.cfg C).mask 9 = [false] := rfl
theorem mk_10 : (T.cfg C).mask 10 = [false] := rfl
theorem mk_11 : (T.cfg C).mask 11 = [false] := rfl
theorem mk_12 : (T.cfg C).mask 12 = [false] := rfl
theorem mk_13 : (T.cfg C).mask 13 = [false] := rfl
theorem mk_14 : (T.cfg C).mask 14 = [false] := rfl
theorem mk_15 : (T.cfg C).mask 15 = [false] := rfl
theorem mk_16 : (T.cfg C).mask 16 = [false] := rfl
theorem mk_17 : (T.cfg C).mask 17 = [false, false] := rfl
theorem mk_18 : (T.cfg C).mask 18 = [true, false] := rfl
theorem mk_19 : (T.cfg C).mask 19 = [true, false] := rfl
theorem mk_20 : (T.cfg C).mask 20 = [false, false] := rfl
theorem mk_21 : (T.cfg C).mask 21 = [false] := rfl
theorem mk_22 : (T.cfg C).mask 22 = [false] := rfl
theorem mk_23 : (T.cfg C).mask 23 = [false] := rfl
theorem mk_24 : (T.cfg C).mask 24 = [false] := rfl
theorem mk_25 : (T.cfg C).mask 25 = [false] := rfl
theorem mk_26 : (T.cfg C).mask 26 = [true, false] := rfl
theorem mk_27 : (T.cfg C).mask 27 = [true, false] := rfl
theorem mk_28 : (T.cfg C).mask 28 = [false] := rfl
theorem cn_0 : (T.cfg C).con 0 = (.str dg) := rfl
theorem cn_1 : (T.cfg C).con 1 = (.str sg) := rfl
theorem cn_2 : (T.cfg C).con 2 = (.int 200) := rfl
theorem cn_3 : (T.cfg C).con 3 = (.int 997) := rfl
theorem cn_4 : (T.cfg C).con 4 = (.int 3) := rfl
theorem cn_5 : (T.cfg C).con 5 = (.int 6) := rfl
theorem cn_6 : (T.cfg C).con 6 = (.int 60) := rfl
theorem pm_0 : (T.cfg C).perm 0 = [0] := rfl
theorem pm_1 : (T.cfg C).perm 1 = [0] := rfl
theorem pm_2 : (T.cfg C).perm 2 = [0] := rfl
theorem pm_3 : (T.cfg C).perm 3 = [0] := rfl
end
end Tb
namespace Tb
open Rm PySem
local macro_rules | `(tactic| walk_at "ev") => `(tactic| simp only [v_var, v_int, v_str, v_bl, v_non, v_glob, v_bin, v_neg, v_cmp, v_chain, v_and, v_or, v_not, v_ife, v_tup, v_lst, v_idx, v_sli, v_call, v_callK, v_blt, v_minN, v_isi, v_met, v_mut, v_comp, v_listIt, w_var, t_var, t_cmp, t_chain, t_and, t_or, t_not, p_absent, ds_nil, ds_cons, ds_star, ws_nil, ws_cons, as_nil, as_cons0, as_consF, as_consT, i_of, i_range, i_enum, g_name, g_tup, g_sub, gs_nil, gs_cons, s_nil, fwd_nx, fwd_rt, fwd_bk, fwd_ct, s_cons, s_asg, s_asgT, s_asgS, s_par, rs_nil, rs_cons, sv_nil, sv_cons, s_retV, s_retN, s_iff, s_for, s_whl, s_ex, s_pas, s_brk, s_cnt, obn_some, obn_none, brn_true, brn_false, mp_some, getVar, getW, setVar, look, looks, bnd_obn, bndS_obn, ret_app, chg, isOwn, doCall, contents, putBack, Ar.slots, nodupN, permute, R.toD, R.sv, COp.f, BOp.f, Bf.f, Mt.f, Mc.f, startE, svOf, finR, iosOf, retV, mkV, List.map_cons, List.map_nil, List.length_cons, List.length_nil, List.replicate, List.cons_append, List.nil_append, List.getElem?_cons_zero,
    List.getElem?_cons_succ, List.getElem?_nil, List.set_cons_zero, List.set_cons_succ, Option.map_some, Option.map_none, if_true, if_false, Bool.false_eq_true, reduceIte, Nat.reduceAdd, Nat.reduceSub, List.tail_cons, Bool.not_true, Bool.not_false, eq_self, items, truth, toI, Ty.has, dIs, dIsnot, D.isNon, dLt, dLe, D.seq?, D.lst?, p_var, w_int, t_int, p_int, r_int, w_str, t_str, p_str, r_str, w_bl, t_bl, p_bl, r_bl, w_non, t_non, p_non, r_non, w_glob, t_glob, p_glob, r_glob, w_bin, t_bin, p_bin, r_bin, w_neg, t_neg, p_neg, r_neg, w_cmp, r_cmp, w_chain, r_chain, w_and, p_and, r_and, w_or, p_or, r_or, w_not, p_not, r_not, w_ife, p_ife, r_ife, w_tup, t_tup, p_tup, r_tup, w_lst, t_lst, p_lst, r_lst, w_idx, t_idx, p_idx, r_idx, w_sli, t_sli, p_sli, r_sli, r_absent, w_call, t_call, p_call, r_call, w_callK, t_callK, p_callK, r_callK, w_blt, t_blt, p_blt, r_blt, w_minN, p_minN, r_minN, w_isi, t_isi, p_isi, r_isi, w_met, t_met, p_met, r_met, w_mut, p_mut, r_mut, w_comp, t_comp, p_comp, r_comp,
    w_listIt, p_listIt, r_listIt, add_int, sub_int, dEq_str, dEq_int, dEq_bl, dNe_str, dNe_int, dNe_bl, dEq_nil, dNe_nil, fInt_int, fTuple_lst, fLen_str, fLen_tup, fLen_lst, fLen_lk, dIn_str, mkTup_0, mkTup_1, mkTup_2, mkTup_3, mkTup_4, mkTup_5, mkLst_0, mkLst_1, mkLst_2, mkLst_3, mkLst_4, mkLst_5, mkLst_6, fMax_2, fMin_2, dSli, dIdx, fAll_map, fSum_map, turn_all, wipeE, List.foldr_cons, List.foldr_nil, id_eq, List.contains_nil, Bool.and_true, decide_true, decide_false, beq_self_eq_true, all_true, cfg_C, mk_0, mk_1, mk_2, mk_3, mk_4, mk_5, mk_6, mk_7, mk_8, mk_9, mk_10, mk_11, mk_12, mk_13, mk_14, mk_15, mk_16, mk_17, mk_18, mk_19, mk_20, mk_21, mk_22, mk_23, mk_24, mk_25, mk_26, mk_27, mk_28, cn_0, cn_1, cn_2, cn_3, cn_4, cn_5, cn_6, pm_0, pm_1, pm_2, pm_3])
local macro_rules | `(tactic| walk_at "ev*") => `(tactic| simp only [v_var, v_int, v_str, v_bl, v_non, v_glob, v_bin, v_neg, v_cmp, v_chain, v_and, v_or, v_not, v_ife, v_tup, v_lst, v_idx, v_sli, v_call, v_callK, v_blt, v_minN, v_isi, v_met, v_mut, v_comp, v_listIt, w_var, t_var, t_cmp, t_chain, t_and, t_or, t_not, p_absent, ds_nil, ds_cons, ds_star, ws_nil, ws_cons, as_nil, as_cons0, as_consF, as_consT, i_of, i_range, i_enum, g_name, g_tup, g_sub, gs_nil, gs_cons, s_nil, fwd_nx, fwd_rt, fwd_bk, fwd_ct, s_cons, s_asg, s_asgT, s_asgS, s_par, rs_nil, rs_cons, sv_nil, sv_cons, s_retV, s_retN, s_iff, s_for, s_whl, s_ex, s_pas, s_brk, s_cnt, obn_some, obn_none, brn_true, brn_false, mp_some, getVar, getW, setVar, look, looks, bnd_obn, bndS_obn, ret_app, chg, isOwn, doCall, contents, putBack, Ar.slots, nodupN, permute, R.toD, R.sv, COp.f, BOp.f, Bf.f, Mt.f, Mc.f, startE, svOf, finR, iosOf, retV, mkV, List.map_cons, List.map_nil, List.length_cons, List.length_nil, List.replicate, List.cons_append, List.nil_append, List.getElem?_cons_zero,
    List.getElem?_cons_succ, List.getElem?_nil, List.set_cons_zero, List.set_cons_succ, Option.map_some, Option.map_none, if_true, if_false, Bool.false_eq_true, reduceIte, Nat.reduceAdd, Nat.reduceSub, List.tail_cons, Bool.not_true, Bool.not_false, eq_self, items, truth, toI, Ty.has, dIs, dIsnot, D.isNon, dLt, dLe, D.seq?, D.lst?, p_var, w_int, t_int, p_int, r_int, w_str, t_str, p_str, r_str, w_bl, t_bl, p_bl, r_bl, w_non, t_non, p_non, r_non, w_glob, t_glob, p_glob, r_glob, w_bin, t_bin, p_bin, r_bin, w_neg, t_neg, p_neg, r_neg, w_cmp, r_cmp, w_chain, r_chain, w_and, p_and, r_and, w_or, p_or, r_or, w_not, p_not, r_not, w_ife, p_ife, r_ife, w_tup, t_tup, p_tup, r_tup, w_lst, t_lst, p_lst, r_lst, w_idx, t_idx, p_idx, r_idx, w_sli, t_sli, p_sli, r_sli, r_absent, w_call, t_call, p_call, r_call, w_callK, t_callK, p_callK, r_callK, w_blt, t_blt, p_blt, r_blt, w_minN, p_minN, r_minN, w_isi, t_isi, p_isi, r_isi, w_met, t_met, p_met, r_met, w_mut, p_mut, r_mut, w_comp, t_comp, p_comp, r_comp,
    w_listIt, p_listIt, r_listIt, add_int, sub_int, dEq_str, dEq_int, dEq_bl, dNe_str, dNe_int, dNe_bl, dEq_nil, dNe_nil, fInt_int, fTuple_lst, fLen_str, fLen_tup, fLen_lst, fLen_lk, dIn_str, mkTup_0, mkTup_1, mkTup_2, mkTup_3, mkTup_4, mkTup_5, mkLst_0, mkLst_1, mkLst_2, mkLst_3, mkLst_4, mkLst_5, mkLst_6, fMax_2, fMin_2, dSli, dIdx, fAll_map, fSum_map, turn_all, wipeE, List.foldr_cons, List.foldr_nil, id_eq, List.contains_nil, Bool.and_true, decide_true, decide_false, beq_self_eq_true, all_true, cfg_C, mk_0, mk_1, mk_2, mk_3, mk_4, mk_5, mk_6, mk_7, mk_8, mk_9, mk_10, mk_11, mk_12, mk_13, mk_14, mk_15, mk_16, mk_17, mk_18, mk_19, mk_20, mk_21, mk_22, mk_23, mk_24, mk_25, mk_26, mk_27, mk_28, cn_0, cn_1, cn_2, cn_3, cn_4, cn_5, cn_6, pm_0, pm_1, pm_2, pm_3, *])
/-! ### the texts' functions -/
theorem up {k d : Nat} (h : d + 1 ≤ k) : ∃ j, k = j + 1 ∧ d ≤ j := ⟨k - 1, by omega, by omega⟩
theorem v_is_text_of {k : Nat} (hk : 1 ≤ k) (s t : List Nat) (hs : s.length ≤ SZ) : callF T k i_is_text_of [.d (.str s), .d (.str t)] = some (.d (.bl (s.all fun c => decide (c ∈ t))), []) := by
  obtain ⟨j, rfl, hj⟩ := up hk
  rw [call_eq (fn := f_is_text_of) rfl rfl]
  simp only [f_is_text_of, b_is_text_of]
  walk_at "ev"
  rw [compV_map s (fun c => .str [c]) (fun c => .bl (decide (c ∈ t))) (ρ1 := [.d (.str s), .d (.str t), .un]) (by walk_at "ev") rfl hs
    (fun c _ => ⟨[.d (.str s), .d (.str t), .d (.str [c])], by walk_at "ev", rfl, rfl⟩)]
  walk_at "ev"
def isLn (s : List Nat) : Bool := (s.all fun c => decide (c ∈ sg)) && decide (s.length ≤ 200)
theorem v_is_lined {k : Nat} (hk : 2 ≤ k) (s : List Nat) (hs : s.length ≤ SZ) : callF T k i_is_lined [.d (.str s)] = some (.d (.bl (isLn s)), []) := by
  obtain ⟨j, rfl, hj⟩ := up hk
  have h1 := v_is_text_of hj s sg hs
  rw [call_eq (fn := f_is_lined) rfl rfl]
  simp only [f_is_lined, b_is_lined]
  walk_at "ev*"
  unfold isLn
  cases s.all fun c => decide (c ∈ sg)
  · walk_at "ev"; rfl
  · walk_at "ev"
    rw [show decide ((s.length : Int) ≤ 200) = decide (s.length ≤ 200) from decide_eq_decide.mpr (by omega)]
    rfl
theorem v_check_text {k : Nat} (hk : 1 ≤ k) (s : List Nat) : callF T k i_check_text [.d (.str s)] = some (.d .non, []) := by
  obtain ⟨j, rfl, hj⟩ := up hk
  rw [call_eq (fn := f_check_text) rfl rfl]
  simp only [f_check_text, b_check_text]
  walk_at "ev*"
theorem v_check_line {k : Nat} (hk : 3 ≤ k) (s : List Nat) (hs : isLn s = true) : callF T k i_check_line [.d (.str s)] = some (.d .non, []) := by
  obtain ⟨j, rfl, hj⟩ := up hk
  have hz : s.length ≤ SZ := by
    have := of_decide_eq_true (Bool.and_eq_true_iff.mp hs).2
    exact Nat.le_trans this (by decide)
  have h1 := v_is_lined hj s hz
  rw [hs] at h1
  rw [call_eq (fn := f_check_line) rfl rfl]
  simp only [f_check_line, b_check_line]
  walk_at "ev*"
def ix (c : Nat) : Nat := (sg.findIdx? (· == c)).getD 0
theorem ix_of {c : Nat} (h : c ∈ sg) : sg.findIdx? (· == c) = some (ix c) := by
  unfold ix
  cases e : sg.findIdx? (· == c) with
  | none => exact absurd (List.findIdx?_eq_none_iff.mp e c h) (by simp)
  | some i => rfl
def ckN : Nat → List Nat → Nat
  | _, [] => 0
  | k, c :: s => k * (ix c + 1) + ckN (k + 1) s
def ck (s : List Nat) : Nat := ckN 1 s % 997
theorem ck_lt (s : List Nat) : ck s < 1000 := Nat.lt_of_lt_of_le (Nat.mod_lt _ (by decide)) (by decide)
theorem ck_sum : ∀ (s : List Nat) (k : Nat), ((prs (k : Int) s).map fun p => p.1 * ((ix p.2 : Int) + 1)).sum = ((ckN k s : Nat) : Int)
  | [], _ => rfl
  | c :: s, k => by
    have e : (k : Int) + 1 = ((k + 1 : Nat) : Int) := rfl
    show (((k : Int), c) :: prs ((k : Int) + 1) s |>.map fun p => p.1 * ((ix p.2 : Int) + 1)).sum = _
    rw [List.map_cons, List.sum_cons, e, ck_sum s (k + 1)]
    show _ = ((k * (ix c + 1) + ckN (k + 1) s : Nat) : Int)
    rw [Int.natCast_add, Int.natCast_mul]; rfl
theorem fmod_nat (a : Nat) : Int.fmod (a : Int) 997 = ((a % 997 : Nat) : Int) := by
  rw [Int.fmod_eq_emod_of_nonneg _ (by decide)]; rfl
theorem v_check_of {k : Nat} (hk : 1 ≤ k) (s : List Nat) (hs : ∀ c ∈ s, c ∈ sg) (hz : s.length ≤ 1000000) : callF T k i_check_of [.d (.str s)] = some (.d (.int (ck s : Nat)), []) := by
  obtain ⟨j, rfl, hj⟩ := up hk
  rw [call_eq (fn := f_check_of) rfl rfl]
  simp only [f_check_of, b_check_of]
  walk_at "ev*"
  rw [compV_map (prs 1 s) (fun p => .tup [.int p.1, .str [p.2]]) (fun p => .int (p.1 * ((ix p.2 : Int) + 1))) (ρ1 := [.d (.str s), .un, .un]) (by walk_at "ev"; rw [enumL_map (fun c => .str [c])]) rfl (by rw [prs_len]; exact Nat.le_trans hz (by decide))
    (fun p hp => ⟨[.d (.str s), .d (.int p.1), .d (.str [p.2])], by
      obtain ⟨h1, h2, h3⟩ := prs_mem _ _ _ hp
      have e1 : mIndex (.str sg) [.str [p.2]] = some (.d (.int (ix p.2 : Nat))) := by
        show Option.map _ (sg.findIdx? (· == p.2)) = _
        rw [ix_of (hs _ h1)]; rfl
      have e2 : dMul (.int p.1) (.int ((ix p.2 : Int) + 1)) = some (.d (.int (p.1 * ((ix p.2 : Int) + 1)))) := mul_int (.inl (by omega))
      walk_at "ev*", rfl, rfl⟩)]
  have e3 : ((prs 1 s).map fun p => p.1 * ((ix p.2 : Int) + 1)).sum = ((ckN 1 s : Nat) : Int) := ck_sum s 1
  walk_at "ev*"
  rw [mod_int (by decide), fmod_nat]; rfl
theorem v_figures {k : Nat} (hk : 1 ≤ k) (n : Nat) (hn : n < 1000) : callF T k i_figures [.d (.int (n : Nat)), .d (.int 3)] = some (.d (.str (th n)), []) := by
  obtain ⟨j, rfl, hj⟩ := up hk
  rw [call_eq (fn := f_figures) rfl rfl]
  have e1 : fStr [.int (n : Nat)] = some (.d (.str (TL.numL n))) := by
    show (if (n : Int).natAbs.log2 < 1920 ∧ okS (strInt (n : Int)) = true then some (R.d (D.str (strInt (n : Int)))) else none) = _
    rw [strInt_nat, if_pos]
    refine ⟨?_, okS_mk ?_ fun c hc => ?_⟩
    · rw [Int.natAbs_natCast]
      refine Nat.lt_of_le_of_lt (Nat.log2_le_self n) (by omega)
    · exact Nat.le_trans (TL.numL_len (k := 3) (by decide) hn) (by decide)
    · have := TL.numL_digits n c hc
      omega
  have e2 : mZfill (.str (TL.numL n)) [.int 3] = some (.d (.str (th n))) := by
    have hp := th_pad hn
    have hne := TL.numL_ne n
    have hl := TL.numL_len (k := 3) (by decide) hn
    have hd := TL.numL_digits n
    cases e : TL.numL n with
    | nil => exact absurd e hne
    | cons c r =>
      rw [e] at hp hl hd
      have hc := hd c List.mem_cons_self
      show (if _ then _ else _) = _
      rw [if_pos ⟨by omega, by omega, by decide, by decide, by omega⟩]
      exact congrArg (fun z => some (R.d (.str z))) hp
  simp only [f_figures, b_figures]
  walk_at "ev*"
def frm (s : List Nat) : List Nat := th s.length ++ (th (ck s) ++ s)
theorem v_frame_of {k : Nat} (hk : 2 ≤ k) (s : List Nat) (hs : ∀ c ∈ s, c ∈ sg) (hz : s.length < 1000) : callF T k i_frame_of [.d (.str s)] = some (.d (.str (frm s)), []) := by
  obtain ⟨j, rfl, hj⟩ := up hk
  have h1 := v_figures hj s.length hz
  have h2 := v_check_of hj s hs (by omega)
  have h3 := v_figures hj (ck s) (ck_lt s)
  have e1 : dAdd (.str (th s.length)) (.str (th (ck s))) = some (.d (.str (th s.length ++ th (ck s)))) := add_str (show 6 ≤ 16777216 by decide)
  have e2 : dAdd (.str (th s.length ++ th (ck s))) (.str s) = some (.d (.str (th s.length ++ th (ck s) ++ s))) := add_str (by
    show 6 + s.length ≤ 16777216
    omega)
  rw [call_eq (fn := f_frame_of) rfl rfl]
  simp only [f_frame_of, b_frame_of]
  walk_at "ev*"
  rw [List.append_assoc]; rfl
/-! ### what frames stand in a text -/
def isD (s : List Nat) : Bool := s.all fun c => decide (c ∈ dg)
def isS (s : List Nat) : Bool := s.all fun c => decide (c ∈ sg)
def val3 (s : List Nat) : Nat := NumText.digitsVal s
def textAt (x : List Nat) : Option (List Nat) :=
  if (x.take 6).length < 6 then none else if isD (x.take 6) = false then none else
  if val3 (x.take 3) = 0 then none else if ((x.drop 6).take (val3 (x.take 3))).length < val3 (x.take 3) then none else
  if isS ((x.drop 6).take (val3 (x.take 3))) = false then none else
  if ck ((x.drop 6).take (val3 (x.take 3))) = val3 ((x.take 6).drop 3) then some ((x.drop 6).take (val3 (x.take 3))) else none
def optD : Option (List Nat) → D
  | none => .non
  | some t => .str t
theorem dg_rng {c : Nat} (h : c ∈ dg) : 48 ≤ c ∧ c ≤ 57 := by
  have : ∀ c ∈ dg, 48 ≤ c ∧ c ≤ 57 := by decide
  exact this c h
theorem isD_at {s : List Nat} (h : isD s = true) : ∀ c ∈ s, 48 ≤ c ∧ c ≤ 57 := fun c hc => dg_rng (of_decide_eq_true (List.all_eq_true.mp h c hc))
theorem int_dig {s : List Nat} (h : ∀ c ∈ s, 48 ≤ c ∧ c ≤ 57) (h0 : s ≠ []) (hl : s.length ≤ 640) : fInt [.str s] = some (.d (.int (val3 s : Nat))) := by
  show (if _ then _ else _) = _
  rw [if_pos ⟨List.all_eq_true.mpr fun c hc => by have := h c hc; simp; omega, h0, hl⟩]; rfl
theorem v_text_at {k : Nat} (hk : 2 ≤ k) (s : List Nat) (st : Nat) (hz : s.length ≤ 100000) : callF T k i_text_at [.d (.str s), .d (.int (st : Nat))] = some (.d (optD (textAt (s.drop st))), []) := by
  obtain ⟨j, rfl, hj⟩ := up hk
  have e1 : cutL s (some (st : Int)) (some ((st : Int) + 6)) = (s.drop st).take 6 := by
    have := cut_nat s st (st + 6)
    rw [Nat.add_sub_cancel_left] at this
    exact this
  have l1 : (s.drop st).length ≤ 100000 := by rw [List.length_drop]; omega
  have e2 : ∀ n : Nat, cutL s (some ((st : Int) + 6)) (some ((st : Int) + 6 + (n : Int))) = ((s.drop st).drop 6).take n := fun n => by
    have := cut_nat s (st + 6) (st + 6 + n)
    rw [Nat.add_sub_cancel_left] at this
    rw [List.drop_drop]
    exact this
  have e3 : cutL ((s.drop st).take 6) none (some 3) = (s.drop st).take 3 := by
    rw [show (3 : Int) = ((3 : Nat) : Int) from rfl, cut_to, List.take_take]; rfl
  have e4 : cutL ((s.drop st).take 6) (some 3) none = ((s.drop st).take 6).drop 3 := cut_from _ 3
  rw [call_eq (fn := f_text_at) rfl rfl]
  simp only [f_text_at, b_text_at]
  generalize s.drop st = x at *
  have h1 := v_is_text_of (k := j) (by omega) (x.take 6) dg (Nat.le_trans (List.length_take_le' _ _) (Nat.le_trans l1 (by decide)))
  unfold textAt
  by_cases c1 : (x.take 6).length < 6
  · have d1 : decide (((x.take 6).length : Int) < 6) = true := decide_eq_true (by omega)
    rw [if_pos c1]
    walk_at "ev*"
    rfl
  have d1 : decide (((x.take 6).length : Int) < 6) = false := decide_eq_false (by omega)
  rw [if_neg c1]
  by_cases c2 : isD (x.take 6) = false
  · replace h1 : callF T j 0 [.d (.str (x.take 6)), .d (.str dg)] = some (.d (.bl false), []) := by rw [← c2]; exact h1
    rw [if_pos c2]
    walk_at "ev*"
    rfl
  rw [if_neg c2]
  replace c2 : isD (x.take 6) = true := by simpa using c2
  replace h1 : callF T j 0 [.d (.str (x.take 6)), .d (.str dg)] = some (.d (.bl true), []) := by rw [← c2]; exact h1
  have l6 : (x.take 6).length = 6 := by rw [List.length_take] at c1 ⊢; omega
  have g3 : ∀ c ∈ x.take 3, 48 ≤ c ∧ c ≤ 57 := fun c hc => isD_at c2 c (by
    rw [show x.take 3 = (x.take 6).take 3 by rw [List.take_take]; rfl] at hc
    exact List.mem_of_mem_take hc)
  have g4 : ∀ c ∈ (x.take 6).drop 3, 48 ≤ c ∧ c ≤ 57 := fun c hc => isD_at c2 c (List.mem_of_mem_drop hc)
  have z3 : (x.take 3).length = 3 := by rw [List.length_take] at l6 ⊢; omega
  have z4 : ((x.take 6).drop 3).length = 3 := by rw [List.length_drop, l6]
  have i3 := int_dig g3 (fun z => by rw [z] at z3; cases z3) (by omega)
  have i4 := int_dig g4 (fun z => by rw [z] at z4; cases z4) (by omega)
  have e5 := e2 (val3 (x.take 3))
  clear l6 z3 z4
  have l2 : ((x.drop 6).take (val3 (x.take 3))).length ≤ 100000 := Nat.le_trans (List.length_take_le' _ _) (by rw [List.length_drop]; omega)
  generalize (x.drop 6).take (val3 (x.take 3)) = t at *
  generalize val3 (x.take 3) = n at *
  have h2 := v_is_text_of (k := j) (by omega) t sg (Nat.le_trans l2 (by decide))
  clear e2
  by_cases c3 : n = 0
  · have d3 : decide ((n : Int) = 0) = true := decide_eq_true (by omega)
    rw [if_pos c3]
    walk_at "ev*"
    rfl
  have d3 : decide ((n : Int) = 0) = false := decide_eq_false (by omega)
  rw [if_neg c3]
  by_cases c4 : t.length < n
  · have d4 : decide ((t.length : Int) < (n : Int)) = true := decide_eq_true (by omega)
    rw [if_pos c4]
    walk_at "ev*"
    rfl
  have d4 : decide ((t.length : Int) < (n : Int)) = false := decide_eq_false (by omega)
  rw [if_neg c4]
  by_cases c5 : isS t = false
  · replace h2 : callF T j 0 [.d (.str t), .d (.str sg)] = some (.d (.bl false), []) := by rw [← c5]; exact h2
    rw [if_pos c5]
    walk_at "ev*"
    rfl
  rw [if_neg c5]
  replace c5 : isS t = true := by simpa using c5
  replace h2 : callF T j 0 [.d (.str t), .d (.str sg)] = some (.d (.bl true), []) := by rw [← c5]; exact h2
  have h3 := v_check_of (k := j) (by omega) t (fun c hc => of_decide_eq_true (List.all_eq_true.mp c5 c hc)) (by omega)
  by_cases c6 : ck t = val3 ((x.take 6).drop 3)
  · have d6 : decide (((ck t : Nat) : Int) = ((val3 ((x.take 6).drop 3) : Nat) : Int)) = true := decide_eq_true (by omega)
    rw [if_pos c6]
    walk_at "ev*"
    rfl
  · have d6 : decide (((ck t : Nat) : Int) = ((val3 ((x.take 6).drop 3) : Nat) : Int)) = false := decide_eq_false (by omega)
    rw [if_neg c6]
    walk_at "ev*"
    rfl
/-! ### all frames of a text -/
def fr : Nat → List Nat → List (List Nat)
  | 0, _ => []
  | n + 1, x => match textAt x with
    | none => []
    | some t => t :: fr n (x.drop (6 + t.length))
def lens : List (List Nat) → Nat
  | [] => 0
  | t :: r => 6 + t.length + lens r
def frs (x : List Nat) : List (List Nat) := fr (x.length + 1) x
theorem textAt_len {x t : List Nat} (h : textAt x = some t) : 0 < t.length ∧ 6 + t.length ≤ x.length ∧ t = (x.drop 6).take t.length := by
  unfold textAt at h
  split at h
  · cases h
  rename_i c1
  split at h
  · cases h
  split at h
  · cases h
  rename_i c3
  split at h
  · cases h
  rename_i c4
  split at h
  · cases h
  split at h
  · cases h
    rw [List.length_take, List.length_drop] at c4
    rw [List.length_take] at c1
    rw [List.length_take, List.length_drop]
    refine ⟨by omega, by omega, ?_⟩
    rw [List.take_eq_take_iff, List.length_drop]; omega
  · cases h
theorem fr_more : ∀ (n m : Nat) (x : List Nat), x.length < n → x.length < m → fr n x = fr m x
  | 0, _, _, h, _ => absurd h (Nat.not_lt_zero _)
  | _ + 1, 0, _, _, h => absurd h (Nat.not_lt_zero _)
  | n + 1, m + 1, x, h1, h2 => by
    unfold fr
    cases e : textAt x with
    | none => rfl
    | some t =>
      obtain ⟨a, b, _⟩ := textAt_len e
      dsimp only
      rw [fr_more n m _ (by rw [List.length_drop]; omega) (by rw [List.length_drop]; omega)]
theorem lens_append (a b : List (List Nat)) : lens (a ++ b) = lens a + lens b := by
  induction a with
  | nil => simp [lens]
  | cons t r ih => show 6 + t.length + lens (r ++ b) = 6 + t.length + lens r + lens b; rw [ih]; omega
theorem v_frames_loop {j : Nat} (hj : 2 ≤ j) (s : List Nat) (hz : s.length ≤ 100000) : ∀ (n st : Nat) (found : List (List Nat)), (s.drop st).length < n → found.length + n ≤ 200000 →
    whileN (evE (T.cfg (callF T j)) (.cmp .isnot (.call i_text_at (.cons (.var 0) (.cons (.var 2) .nil))) .non)).t
      (evSs (T.cfg (callF T j)) (.cons (.ex (.mut .append 1 (.call i_text_at (.cons (.var 0) (.cons (.var 2) .nil))))) (.cons (.asg (.name 2) (.bin .add (.bin .add (.var 2) (.glob 5)) (.blt .len (.cons (.idx (.var 1) (.neg (.int 1))) .nil)))) .nil)))
      (n + 1) [.d (.str s), .own (found.map .str), .d (.int (st : Nat))] =
    some (.nx [.d (.str s), .own ((found ++ fr n (s.drop st)).map .str), .d (.int ((st + lens (fr n (s.drop st)) : Nat) : Int))])
  | 0, _, _, h, _ => absurd h (Nat.not_lt_zero _)
  | n + 1, st, found, h, hf => by
    have h1 := v_text_at hj s st hz
    rw [whileN_step]
    unfold fr
    cases e : textAt (s.drop st) with
    | none =>
      rw [e] at h1
      replace h1 : callF T j i_text_at [.d (.str s), .d (.int (st : Nat))] = some (.d .non, []) := h1
      walk_at "ev*"
      simp [lens]
    | some t =>
      rw [e] at h1
      replace h1 : callF T j i_text_at [.d (.str s), .d (.int (st : Nat))] = some (.d (.str t), []) := h1
      obtain ⟨a, b, -⟩ := textAt_len e
      have hl : (found.map D.str).length < SZ := by rw [List.length_map]; show _ < 16777216; omega
      have hx : L2.atI (found.map D.str ++ [D.str t]) (-1) = some (.str t) := at_last _ _
      have e2 : (st : Int) + 6 + (t.length : Int) = ((st + (6 + t.length) : Nat) : Int) := by omega
      have ih := v_frames_loop hj s hz n (st + (6 + t.length)) (found ++ [t]) (by rw [List.length_drop] at h b ⊢; omega) (by rw [List.length_append]; simp; omega)
      rw [List.map_append, List.map_cons, List.map_nil] at ih
      walk_at "ev*"
      rw [List.drop_drop, List.append_assoc]
      have e7 : st + (6 + t.length) + lens (fr n (s.drop (st + (6 + t.length)))) = st + lens (t :: fr n (s.drop (st + (6 + t.length)))) := by
        show _ = st + (6 + t.length + lens _)
        omega
      rw [e7]; rfl
theorem v_frames_by {k : Nat} (hk : 3 ≤ k) (s : List Nat) (hz : s.length ≤ 100000) : callF T k i_frames_by [.d (.str s)] = some (.d (.tup [.lst ((frs s).map .str), .int (lens (frs s) : Nat)]), []) := by
  obtain ⟨j, rfl, hj⟩ := up hk
  have h := v_frames_loop hj s hz (s.length + 1) 0 [] (Nat.lt_succ_self _) (by simp; omega)
  rw [List.nil_append, Nat.zero_add] at h
  have h := whileS_of h
  rw [call_eq (fn := f_frames_by) rfl rfl]
  simp only [f_frames_by, b_frames_by]
  walk_at "ev"
  rw [show ((0 : Nat) : Int) = 0 from rfl] at h
  have h' : whileS _ _ [SV.d (.str s), .own [], .d (.int 0)] = _ := h
  rw [h']
  walk_at "ev"
  rfl
/-! ### streams, what is checked -/
def okT (s : List Nat) : Bool := isLn s && decide (s ≠ [])
theorem okT_ln {s : List Nat} (h : okT s = true) : isLn s = true := (Bool.and_eq_true_iff.mp h).1
theorem okT_ne {s : List Nat} (h : okT s = true) : s ≠ [] := of_decide_eq_true (Bool.and_eq_true_iff.mp h).2
theorem isLn_sg {s : List Nat} (h : isLn s = true) : ∀ c ∈ s, c ∈ sg := fun c hc => of_decide_eq_true (List.all_eq_true.mp (Bool.and_eq_true_iff.mp h).1 c hc)
theorem isLn_len {s : List Nat} (h : isLn s = true) : s.length ≤ 200 := of_decide_eq_true (Bool.and_eq_true_iff.mp h).2
theorem isLn_sz {s : List Nat} (h : isLn s = true) : s.length ≤ SZ := Nat.le_trans (isLn_len h) (by decide)
theorem frm_len (s : List Nat) : (frm s).length = 6 + s.length := by
  show (th s.length ++ (th (ck s) ++ s)).length = _
  rw [List.length_append, List.length_append]
  show 3 + (3 + s.length) = _
  omega
def stm (ts : List (List Nat)) : List Nat := (ts.map frm).flatten
theorem stm_len : ∀ ts : List (List Nat), (stm ts).length = lens ts
  | [] => rfl
  | t :: r => by
    show (frm t ++ stm r).length = 6 + t.length + lens r
    rw [List.length_append, frm_len, stm_len r]
theorem lens_le {ts : List (List Nat)} (h : ∀ t ∈ ts, isLn t = true) : lens ts ≤ 206 * ts.length := by
  induction ts with
  | nil => exact Nat.le_refl _
  | cons t r ih =>
    have h1 := isLn_len (h t List.mem_cons_self)
    have h2 := ih fun t ht => h t (List.mem_cons_of_mem _ ht)
    show 6 + t.length + lens r ≤ 206 * (r.length + 1)
    omega
theorem v_stream_by {k : Nat} (hk : 3 ≤ k) (ts : List (List Nat)) (h : ∀ t ∈ ts, isLn t = true) (hl : ts.length ≤ 60) : callF T k i_stream_by [.d (.tup (ts.map .str))] = some (.d (.str (stm ts)), []) := by
  obtain ⟨j, rfl, hj⟩ := up hk
  rw [call_eq (fn := f_stream_by) rfl rfl]
  simp only [f_stream_by, b_stream_by]
  walk_at "ev"
  rw [compV_map ts (fun t => .str t) (fun t => .str (frm t)) (ρ1 := [.d (.tup (ts.map .str)), .un]) (by walk_at "ev") rfl (Nat.le_trans hl (by decide))
    (fun t ht => ⟨[.d (.tup (ts.map .str)), .d (.str t)], by
      have h1 := v_frame_of hj t (isLn_sg (h t ht)) (by have := isLn_len (h t ht); omega)
      walk_at "ev*", rfl, rfl⟩)]
  have h2 := mJoin_map ts frm (by
    have a := stm_len ts
    have b := lens_le h
    show (stm ts).length ≤ 16777216
    omega)
  walk_at "ev*"
  rfl
theorem v_check_filled_line {k : Nat} (hk : 4 ≤ k) (s : List Nat) (hs : okT s = true) : callF T k i_check_filled_line [.d (.str s)] = some (.d .non, []) := by
  obtain ⟨j, rfl, hj⟩ := up hk
  have h1 := v_check_line hj s (okT_ln hs)
  have h2 : decide (s = []) = false := decide_eq_false (okT_ne hs)
  rw [call_eq (fn := f_check_filled_line) rfl rfl]
  simp only [f_check_filled_line, b_check_filled_line]
  walk_at "ev*"
theorem v_first_wrong_text {k : Nat} (hk : 3 ≤ k) (ts : List (List Nat)) (h : ∀ t ∈ ts, okT t = true) (hl : ts.length ≤ 60) : callF T k i_first_wrong_text [.d (.tup (ts.map .str))] = some (.d .non, []) := by
  obtain ⟨j, rfl, hj⟩ := up hk
  rw [call_eq (fn := f_first_wrong_text) rfl rfl]
  simp only [f_first_wrong_text, b_first_wrong_text]
  walk_at "ev"
  rw [compV_filter (prs 0 ts) (fun p => .tup [.int p.1, .str p.2]) (fun p => .int p.1) (fun _ => false) (ρ1 := [.d (.tup (ts.map .str)), .un, .un]) (by walk_at "ev"; rw [enumL_map D.str]) rfl (by rw [prs_len]; exact Nat.le_trans hl (by decide))
    (fun p hp => ⟨[.d (.tup (ts.map .str)), .d (.int p.1), .d (.str p.2)], by
      obtain ⟨a, -, -⟩ := prs_mem _ _ _ hp
      have h0 := h _ a
      have h1 := v_is_lined hj p.2 (isLn_sz (okT_ln h0))
      rw [okT_ln h0] at h1
      have h2 : decide (p.2 = []) = false := decide_eq_false (okT_ne h0)
      rw [turn_if _ _ _ _ _ _ rfl]
      walk_at "ev*", rfl, rfl⟩)]
  have e : (prs 0 ts).filter (fun _ => false) = [] := by simp
  rw [e]
  walk_at "ev"
  rfl
theorem v_check_texts {k : Nat} (hk : 4 ≤ k) (ts : List (List Nat)) (h : ∀ t ∈ ts, okT t = true) (hl : ts.length ≤ 60) : callF T k i_check_texts [.d (.tup (ts.map .str))] = some (.d .non, []) := by
  obtain ⟨j, rfl, hj⟩ := up hk
  have h1 := v_first_wrong_text hj ts h hl
  have h2 : decide ((60 : Int) < ((ts.map D.str).length : Int)) = false := decide_eq_false (by rw [List.length_map]; omega)
  rw [call_eq (fn := f_check_texts) rfl rfl]
  simp only [f_check_texts, b_check_texts]
  walk_at "ev*"
theorem v_check_number {k : Nat} (hk : 4 ≤ k) (s : List Nat) (hs : isLn s = true) : callF T k i_check_number [.d (.str s)] = some (.d (.int (ck s : Nat)), []) := by
  obtain ⟨j, rfl, hj⟩ := up hk
  have h1 := v_check_line hj s hs
  have h2 := v_check_of (k := j) (by omega) s (isLn_sg hs) (by have := isLn_len hs; omega)
  rw [call_eq (fn := f_check_number) rfl rfl]
  simp only [f_check_number, b_check_number]
  walk_at "ev*"
theorem v_frame {k : Nat} (hk : 5 ≤ k) (s : List Nat) (hs : okT s = true) : callF T k i_frame [.d (.str s)] = some (.d (.str (frm s)), []) := by
  obtain ⟨j, rfl, hj⟩ := up hk
  have h1 := v_check_filled_line hj s hs
  have h2 := v_frame_of (k := j) (by omega) s (isLn_sg (okT_ln hs)) (by have := isLn_len (okT_ln hs); omega)
  rw [call_eq (fn := f_frame) rfl rfl]
  simp only [f_frame, b_frame]
  walk_at "ev*"
theorem v_frames_in {k : Nat} (hk : 4 ≤ k) (s : List Nat) (hz : s.length ≤ 100000) : callF T k i_frames_in [.d (.str s)] = some (.d (.tup [.tup ((frs s).map .str), .int (lens (frs s) : Nat)]), []) := by
  obtain ⟨j, rfl, hj⟩ := up hk
  have h1 := v_check_text (k := j) (by omega) s
  have h2 := v_frames_by hj s hz
  rw [call_eq (fn := f_frames_in) rfl rfl]
  simp only [f_frames_in, b_frames_in]
  walk_at "ev*"
theorem v_stream_of {k : Nat} (hk : 5 ≤ k) (ts : List (List Nat)) (h : ∀ t ∈ ts, okT t = true) (hl : ts.length ≤ 60) : callF T k i_stream_of [.d (.tup (ts.map .str))] = some (.d (.str (stm ts)), []) := by
  obtain ⟨j, rfl, hj⟩ := up hk
  have h1 := v_check_texts hj ts h hl
  have h2 := v_stream_by (k := j) (by omega) ts (fun t ht => okT_ln (h t ht)) hl
  rw [call_eq (fn := f_stream_of) rfl rfl]
  simp only [f_stream_of, b_stream_of]
  walk_at "ev*"
/-! ### the laws' own draws: _law_well, _law_take, _law_pick; _law_same -/
/-- a well: three numbers, the first not below nought -/
def isW (w : List D) : Prop := ∃ a b c : Int, w = [.int a, .int b, .int c] ∧ 0 ≤ b ∧ b < 2147483563
theorem v_law_take {k : Nat} (hk : 1 ≤ k) {w : List D} (hw : isW w) {m : Int} (h0 : 0 < m) (h1 : m < 1073741824) :
    ∃ (r : Int) (w' : List D), callF T k i_law_take [.io w, .d (.int m)] = some (.d (.int r), [w']) ∧ isW w' ∧ 0 ≤ r ∧ r < m := by
  obtain ⟨j, rfl, hj⟩ := up hk
  obtain ⟨a, b, c, rfl, b0, b1⟩ := hw
  rw [call_eq (fn := f_law_take) rfl rfl]
  simp only [f_law_take, b_law_take]
  have i0 : ∀ x y z : D, L2.atI [x, y, z] 0 = some x := fun _ _ _ => rfl
  have i1 : ∀ x y z : D, L2.atI [x, y, z] 1 = some y := fun _ _ _ => rfl
  have i2 : ∀ x y z : D, L2.atI [x, y, z] 2 = some z := fun _ _ _ => rfl
  have j0 : L2.ixN 3 0 = some 0 := rfl
  have j1 : L2.ixN 3 1 = some 1 := rfl
  have j2 : L2.ixN 3 2 = some 2 := rfl
  by_cases ha : 0 < a
  · have d1 : decide (0 < a) = true := decide_eq_true ha
    have e1 : fDivmod [.int a, .int m] = some (.d (.tup [.int (a / m), .int (a % m)])) := by
      show (if _ then _ else _) = _
      rw [if_pos ⟨h0, by omega⟩]
    refine ⟨a % m, [.int (a / m), .int b, .int c], ?_, ⟨_, _, _, rfl, b0, b1⟩, Int.emod_nonneg _ (by omega), Int.emod_lt_of_pos _ h0⟩
    walk_at "ev*"
  · have d1 : decide (0 < a) = false := decide_eq_false ha
    have m1 : dMod (.int b) (.int 28657) = some (.d (.int (b.fmod 28657))) := mod_int (by decide)
    have m2 : ∀ x : Int, dMul (.int b) (.int x) = some (.d (.int (b * x))) := fun x => mul_int (.inl (by omega))
    have m3 : ∀ x : Int, dMul (.int 50023) (.int x) = some (.d (.int (50023 * x))) := fun x => mul_int (.inl (by decide))
    have m4 : ∀ x : Int, dMod (.int x) (.int 2147483563) = some (.d (.int (x.fmod 2147483563))) := fun x => mod_int (by decide)
    have m5 : ∀ x : Int, dFdiv (.int x) (.int 83) = some (.d (.int (x.fdiv 83))) := fun x => fdiv_int (by decide)
    have m6 : ∀ x : Int, dMod (.int x) (.int m) = some (.d (.int (x.fmod m))) := fun x => mod_int (by omega)
    refine ⟨((((b * (b.fmod 28657 + 40009) + 50023 * (c + 1) + 17).fmod 2147483563).fdiv 83).fmod m), [.int a, .int ((b * (b.fmod 28657 + 40009) + 50023 * (c + 1) + 17).fmod 2147483563), .int (c + 1)], ?_, ⟨_, _, _, rfl, Int.fmod_nonneg_of_pos _ (by decide), Int.fmod_lt_of_pos _ (by decide)⟩, ?_, ?_⟩
    · walk_at "ev*"
    · exact Int.fmod_nonneg_of_pos _ h0
    · exact Int.fmod_lt_of_pos _ h0
theorem v_law_pick_str {k : Nat} (hk : 2 ≤ k) {w : List D} (hw : isW w) {s : List Nat} (h0 : s ≠ []) (h1 : s.length ≤ 1000000) :
    ∃ (c : Nat) (w' : List D), callF T k i_law_pick [.io w, .d (.str s)] = some (.d (.str [c]), [w']) ∧ isW w' ∧ c ∈ s := by
  obtain ⟨j, rfl, hj⟩ := up hk
  have hp : 0 < s.length := List.length_pos_iff.mpr h0
  obtain ⟨r, w', e, hw', r0, r1⟩ := v_law_take hj hw (m := (s.length : Nat)) (by omega) (by omega)
  rw [call_eq (fn := f_law_pick) rfl rfl]
  simp only [f_law_pick, b_law_pick]
  have hr : r.toNat < s.length := by omega
  have e1 : L2.atI s r = some s[r.toNat] := by
    have := at_nat (xs := s) (i := r.toNat) (List.getElem?_eq_getElem hr)
    rwa [Int.toNat_of_nonneg r0] at this
  refine ⟨s[r.toNat], w', ?_, hw', List.getElem_mem hr⟩
  walk_at "ev*"
theorem v_law_pick_lst {k : Nat} (hk : 2 ≤ k) {w : List D} (hw : isW w) {s : List D} (h0 : s ≠ []) (h1 : s.length ≤ 1000000) :
    ∃ (c : D) (w' : List D), callF T k i_law_pick [.io w, .d (.lst s)] = some (.d c, [w']) ∧ isW w' ∧ c ∈ s := by
  obtain ⟨j, rfl, hj⟩ := up hk
  have hp : 0 < s.length := List.length_pos_iff.mpr h0
  obtain ⟨r, w', e, hw', r0, r1⟩ := v_law_take hj hw (m := (s.length : Nat)) (by omega) (by omega)
  rw [call_eq (fn := f_law_pick) rfl rfl]
  simp only [f_law_pick, b_law_pick]
  have hr : r.toNat < s.length := by omega
  have e1 : L2.atI s r = some s[r.toNat] := by
    have := at_nat (xs := s) (i := r.toNat) (List.getElem?_eq_getElem hr)
    rwa [Int.toNat_of_nonneg r0] at this
  refine ⟨s[r.toNat], w', ?_, hw', List.getElem_mem hr⟩
  walk_at "ev*"
theorem v_law_well {k : Nat} (hk : 1 ≤ k) (ns : List Int) (hl : ns.length ≤ 63) (t : Nat) (ht : t < 1000) :
    ∃ w : List D, callF T k i_law_well [.d (.lk ns), .d (.int (t : Nat))] = some (.fr w, []) ∧ isW w := by
  obtain ⟨j, rfl, hj⟩ := up hk
  rw [call_eq (fn := f_law_well) rfl rfl]
  simp only [f_law_well, b_law_well]
  have own : ∃ a : Int, obn ((evE (T.cfg (callF T j)) (.ife (.cmp .lt (.var 1) (.blt .len (.cons (.var 0) .nil))) (.blt .int (.cons (.idx (.var 0) (.var 1)) .nil)) (.bin .add (.bin .add (.bin .mul (.int 9311) (.var 1)) (.bin .mod (.blt .int (.cons (.blt .sum (.cons (.sli (.var 0) .absent (.int 2)) .nil)) .nil)) (.int 1000003))) (.int 71)))).v [.d (.lk ns), .d (.int (t : Nat)), .un, .un, .un]) (fun p => obn (setVar 2 p.1 p.2) fun q => some (Fl.nx q.2)) = some (.nx [.d (.lk ns), .d (.int (t : Nat)), .d (.int a), .un, .un]) := by
    by_cases h : t < ns.length
    · have d1 : decide ((t : Int) < (ns.length : Int)) = true := decide_eq_true (by omega)
      have e1 : L2.atI ns (t : Int) = some ns[t] := at_nat (List.getElem?_eq_getElem h)
      refine ⟨ns[t], ?_⟩
      walk_at "ev*"
    · have d1 : decide ((t : Int) < (ns.length : Int)) = false := decide_eq_false (by omega)
      have m1 : dMul (.int 9311) (.int (t : Nat)) = some (.d (.int (9311 * (t : Int)))) := mul_int (.inl (by decide))
      have m2 : ∀ x : Int, dMod (.int x) (.int 1000003) = some (.d (.int (x.fmod 1000003))) := fun x => mod_int (by decide)
      have m3 : fSum [.lst ((cutL ns none (some 2)).map .int)] = some (.d (.int (cutL ns none (some 2)).sum)) := by
        show Option.map _ (intsOf _) = _
        rw [intsOf_map]; rfl
      refine ⟨9311 * (t : Int) + (cutL ns none (some 2)).sum.fmod 1000003 + 71, ?_⟩
      walk_at "ev*"
  obtain ⟨a, own⟩ := own
  rw [show startE ["script", "turn", "own", "stir", "cell"].length [.d (.lk ns), .d (.int (t : Nat))] = [.d (.lk ns), .d (.int (t : Nat)), .un, .un, .un] from rfl]
  rw [s_cons, s_asg, own]
  have m1 : dMul (.int 1013) (.int (t : Nat)) = some (.d (.int (1013 * (t : Int)))) := mul_int (.inl (by decide))
  have l5 : (cutL ns none (some 5)).length ≤ 63 := by
    rw [show (5 : Int) = ((5 : Nat) : Int) from rfl, cut_to]
    exact Nat.le_trans (List.length_take_le' _ _) hl
  have m2 : dAdd (.lst ((cutL ns none (some 5)).map .int)) (.lst [.int a]) = some (.fr (((cutL ns none (some 5)) ++ [a]).map .int)) := by
    rw [List.map_append]
    exact add_lst (by rw [List.length_map]; show _ + 1 ≤ 16777216; omega)
  walk_at "ev*"
  generalize hcs : cutL ns none (some 5) ++ [a] = cs
  have cs0 : cs ≠ [] := by rw [← hcs]; simp
  obtain ⟨ρ', e, x, b, rfl, h2⟩ := forL_ind (f := fun d => bndS (evG (T.cfg (callF T j)) (.name 4) d) fun _ => evSs (T.cfg (callF T j)) (.cons (.asg (.name 3) (.bin .mod (.blt .int (.cons (.bin .add (.bin .add (.bin .mul (.var 3) (.int 45013)) (.bin .mod (.blt .int (.cons (.var 4) .nil)) (.int 2147483399))) (.int 37)) .nil)) (.int 2147483563))) .nil)) (cs.map D.int)
    (fun i ρ => ∃ (x : SV) (b : Int), ρ = [.d (.lk ns), .d (.int (t : Nat)), .d (.int a), .d (.int b), x] ∧ (x = .un ∨ ∃ y, x = .d (.int y)) ∧ (0 < i → 0 ≤ b ∧ b < 2147483563)) [.d (.lk ns), .d (.int (t : Nat)), .d (.int a), .d (.int (50021 + 1013 * (t : Int))), .un] ⟨_, _, rfl, .inl rfl, fun h => absurd h (Nat.lt_irrefl 0)⟩
    (fun i ρ d hp hd => by
      obtain ⟨x, b, rfl, hx, hb⟩ := hp
      rw [List.getElem?_map] at hd
      cases e : cs[i]? with
      | none => rw [e] at hd; cases hd
      | some y =>
        rw [e] at hd; cases hd
        have m3 : dMul (.int b) (.int 45013) = some (.d (.int (b * 45013))) := mul_int (.inr (by decide))
        have m4 : ∀ x : Int, dMod (.int x) (.int 2147483399) = some (.d (.int (x.fmod 2147483399))) := fun x => mod_int (by decide)
        have m5 : ∀ x : Int, dMod (.int x) (.int 2147483563) = some (.d (.int (x.fmod 2147483563))) := fun x => mod_int (by decide)
        refine ⟨[.d (.lk ns), .d (.int (t : Nat)), .d (.int a), .d (.int ((b * 45013 + y.fmod 2147483399 + 37).fmod 2147483563)), .d (.int y)], .inl ?_, _, _, rfl, .inr ⟨_, rfl⟩, fun _ => ⟨Int.fmod_nonneg_of_pos _ (by decide), Int.fmod_lt_of_pos _ (by decide)⟩⟩
        rcases hx with rfl | ⟨z, rfl⟩
        · walk_at "ev*"
        · walk_at "ev*")
  have hb : 0 ≤ b ∧ b < 2147483563 := h2.2 (by rw [List.length_map]; exact List.length_pos_iff.mpr cs0)
  have hp : dPow (.int 10) (.int 17) = some (.d (.int 100000000000000000)) := rfl
  have fin : ∀ v : Int, isW [.int v, .int b, .int 0] := fun v => ⟨_, _, _, rfl, hb⟩
  rw [e]
  by_cases c1 : a < 0
  · have d1 : decide (a < 0) = true := decide_eq_true c1
    have f1 : fAbs [.int a] = some (.d (.int (-a))) := by
      show some (R.d (.int (if a < 0 then -a else a))) = _
      rw [if_pos c1]
    refine ⟨_, ?_, fin (-a)⟩
    rcases h2.1 with rfl | ⟨z, rfl⟩
    · walk_at "ev*"
    · walk_at "ev*"
  · have d1 : decide (a < 0) = false := decide_eq_false c1
    by_cases c2 : (100000000000000000 : Int) ≤ a
    · have d2 : decide ((100000000000000000 : Int) ≤ a) = true := decide_eq_true c2
      have f1 : fAbs [.int a] = some (.d (.int a)) := by
        show some (R.d (.int (if a < 0 then -a else a))) = _
        rw [if_neg c1]
      refine ⟨_, ?_, fin a⟩
      rcases h2.1 with rfl | ⟨z, rfl⟩
      · walk_at "ev*"
      · walk_at "ev*"
    · have d2 : decide ((100000000000000000 : Int) ≤ a) = false := decide_eq_false c2
      refine ⟨_, ?_, fin 0⟩
      rcases h2.1 with rfl | ⟨z, rfl⟩
      · walk_at "ev*"
      · walk_at "ev*"
/-! ### _law_same -/
theorem same_seq {j n : Nat} (xs : List D) (hz : xs.length ≤ SZ) (ih : ∀ x ∈ xs, callF T j i_law_same [.d x, .d x] = some (.d (.bl true), [])) {d : D} (hl : fLen [d] = some (.d (.int (xs.length : Nat)))) (ha : ∀ (i : Nat) (x : D), xs[i]? = some x → dIdx d (.int (i : Nat)) = some x) :
    compV [2] (evI (T.cfg (callF T j)) (.range (.cons (.blt .len (.cons (.var 1) .nil)) .nil)))
      (turnC (evG (T.cfg (callF T j)) (.name 2)) (evE (T.cfg (callF T j)) .absent) (evE (T.cfg (callF T j)) (.call i_law_same (.cons (.idx (.var 0) (.var 2)) (.cons (.idx (.var 1) (.var 2)) .nil))))) [.d d, .d d, .un] =
    some (.fr ((List.range xs.length).map fun _ => .bl true), [.d d, .d d, .un]) := by
  have hr := range_1 (n := xs.length) hz
  refine compV_map (List.range xs.length) (fun i => .int (i : Nat)) (fun _ => .bl true) (by walk_at "ev*") rfl (by rw [List.length_range]; exact hz) fun i hi => ⟨[.d d, .d d, .d (.int (i : Nat))], ?_, rfl, rfl⟩
  have hi : i < xs.length := List.mem_range.mp hi
  have h0 := ih xs[i] (List.getElem_mem hi)
  have h1 : dIdx d (.int (i : Nat)) = some xs[i] := ha i _ (List.getElem?_eq_getElem hi)
  clear hr hl ha ih
  rw [turn_all, g_name]
  show obn (some ((), _)) _ = _
  rw [obn_some, v_call]
  simp only [mk_20, as_consF, as_nil, v_idx, w_var, v_var, getW, getVar, obn_some, look, ret_app, wipeE, List.foldr_cons, List.foldr_nil, List.getElem?_cons_zero, List.getElem?_cons_succ, List.set_cons_zero, List.set_cons_succ, List.getElem?_nil, R.toD, R.sv, h1, Option.map_some, mp_some, doCall, Ar.slots, nodupN, contents, cfg_C, h0, putBack, if_true, bnd_obn]
theorem v_law_same : ∀ (n : Nat) (d : D), d.dep ≤ n → d.fine = true → ∀ k, n + 1 ≤ k → callF T k i_law_same [.d d, .d d] = some (.d (.bl true), []) := by
  intro n
  induction n with
  | zero =>
    intro d hd hf k hk
    obtain ⟨j, rfl, hj⟩ := up hk
    rw [call_eq (fn := f_law_same) rfl rfl]
    simp only [f_law_same, b_law_same]
    cases d with
    | tup xs => exact absurd (show deps xs + 1 ≤ 0 from hd) (Nat.not_succ_le_zero _)
    | lst xs => exact absurd (show deps xs + 1 ≤ 0 from hd) (Nat.not_succ_le_zero _)
    | lk ns => cases hf
    | non => walk_at "ev"
    | bl b => walk_at "ev"
    | int i => walk_at "ev"
    | str s => walk_at "ev"
  | succ n ih =>
    intro d hd hf k hk
    obtain ⟨j, rfl, hj⟩ := up hk
    rw [call_eq (fn := f_law_same) rfl rfl]
    simp only [f_law_same, b_law_same]
    cases d with
    | tup xs =>
      have hf := Bool.and_eq_true_iff.mp (show (decide (xs.length ≤ SZ) && fines xs) = true from hf)
      have hd : deps xs + 1 ≤ n + 1 := hd
      have h := same_seq (j := j) (n := n) xs (of_decide_eq_true hf.1) (fun x hx => ih x (by have := deps_at hx; omega) (fines_at hf.2 hx) j hj) (d := .tup xs) rfl (fun i x e => at_nat e)
      walk_at "ev"
      rw [h]
      walk_at "ev"
    | lst xs =>
      have hf := Bool.and_eq_true_iff.mp (show (decide (xs.length ≤ SZ) && fines xs) = true from hf)
      have hd : deps xs + 1 ≤ n + 1 := hd
      have h := same_seq (j := j) (n := n) xs (of_decide_eq_true hf.1) (fun x hx => ih x (by have := deps_at hx; omega) (fines_at hf.2 hx) j hj) (d := .lst xs) rfl (fun i x e => at_nat e)
      walk_at "ev"
      rw [h]
      walk_at "ev"
    | lk ns => cases hf
    | non => walk_at "ev"
    | bl b => walk_at "ev"
    | int i => walk_at "ev"
    | str s => walk_at "ev"
/-! ### law_k43: its own functions -/
theorem ckN_app : ∀ (a : List Nat) (c k : Nat), ckN k (a ++ [c]) = ckN k a + (k + a.length) * (ix c + 1)
  | [], c, k => by show k * (ix c + 1) + 0 = 0 + (k + 0) * (ix c + 1); simp
  | x :: a, c, k => by
    show k * (ix x + 1) + ckN (k + 1) (a ++ [c]) = k * (ix x + 1) + ckN (k + 1) a + (k + (a.length + 1)) * (ix c + 1)
    rw [ckN_app a c (k + 1)]
    have e : k + 1 + a.length = k + (a.length + 1) := by omega
    rw [e]; omega
theorem v_law_check {k : Nat} (hk : 1 ≤ k) (s : List Nat) (hs : ∀ c ∈ s, c ∈ sg) (hz : s.length ≤ 100000) : callF T k i_law_check [.d (.str s)] = some (.d (.int (ck s : Nat)), []) := by
  obtain ⟨j, rfl, hj⟩ := up hk
  rw [call_eq (fn := f_law_check) rfl rfl]
  simp only [f_law_check, b_law_check]
  have hr := range_1 (n := s.length) (Nat.le_trans hz (by decide))
  obtain ⟨ρ', e, x, rfl, h2⟩ := forL_ind (f := fun d => bndS (evG (T.cfg (callF T j)) (.name 1) d) fun _ => evSs (T.cfg (callF T j)) (.cons (.asg (.name 3) (.bin .add (.var 3) (.bin .mul (.bin .add (.var 1) (.int 1)) (.bin .add (.met .index (.var 2) (.cons (.idx (.var 0) (.var 1)) .nil)) (.int 1))))) .nil)) ((List.range s.length).map fun i => D.int (i : Nat))
    (fun i ρ => ∃ x : SV, ρ = [.d (.str s), x, .d (.str sg), .d (.int (ckN 1 (s.take i) : Nat))] ∧ (x = .un ∨ ∃ y, x = .d (.int y))) [.d (.str s), .un, .d (.str sg), .d (.int 0)] ⟨_, rfl, .inl rfl⟩
    (fun i ρ d hp hd => by
      obtain ⟨x, rfl, hx⟩ := hp
      rw [List.getElem?_map] at hd
      by_cases hi : i < s.length
      · rw [List.getElem?_range hi] at hd
        cases hd
        have e1 : L2.atI s (i : Int) = some s[i] := at_nat (List.getElem?_eq_getElem hi)
        have e2 : mIndex (.str sg) [.str [s[i]]] = some (.d (.int (ix s[i] : Nat))) := by
          show Option.map _ (sg.findIdx? (· == s[i])) = _
          rw [ix_of (hs _ (List.getElem_mem hi))]; rfl
        have e3 : dMul (.int ((i : Int) + 1)) (.int ((ix s[i] : Int) + 1)) = some (.d (.int (((i : Int) + 1) * ((ix s[i] : Int) + 1)))) := mul_int (.inl (by omega))
        have e4 : ((ckN 1 (s.take i) : Nat) : Int) + ((i : Int) + 1) * ((ix s[i] : Int) + 1) = ((ckN 1 (s.take (i + 1)) : Nat) : Int) := by
          have e5 : s.take (i + 1) = s.take i ++ [s[i]] := by
            rw [List.take_add_one, List.getElem?_eq_getElem hi]; rfl
          rw [e5, ckN_app, List.length_take, Nat.min_eq_left (Nat.le_of_lt hi), Int.natCast_add, Int.natCast_mul]
          have e6 : ((1 + i : Nat) : Int) = (i : Int) + 1 := by omega
          rw [e6]; rfl
        refine ⟨[.d (.str s), .d (.int (i : Nat)), .d (.str sg), .d (.int (ckN 1 (s.take (i + 1)) : Nat))], .inl ?_, _, rfl, .inr ⟨_, rfl⟩⟩
        clear hr hs
        rcases hx with rfl | ⟨z, rfl⟩
        · walk_at "ev*"
        · walk_at "ev*"
      · rw [List.getElem?_eq_none (by rw [List.length_range]; omega)] at hd
        cases hd)
  have hl : ((List.range s.length).map fun i => D.int (i : Nat)).length = s.length := by rw [List.length_map, List.length_range]
  rw [hl, List.take_length] at e
  have m1 : dMod (.int (ckN 1 s : Nat)) (.int 997) = some (.d (.int (ck s : Nat))) := by
    rw [mod_int (by decide), fmod_nat]; rfl
  walk_at "ev"
  rw [hr]
  walk_at "ev"
  rw [e]
  rcases h2 with rfl | ⟨z, rfl⟩
  · walk_at "ev"
    rw [m1]
    walk_at "ev"
  · walk_at "ev"
    rw [m1]
    walk_at "ev"
theorem v_law_three {k : Nat} (hk : 1 ≤ k) (n : Nat) (hn : n < 1000) : callF T k i_law_three [.d (.int (n : Nat))] = some (.d (.str (th n)), []) := by
  obtain ⟨j, rfl, hj⟩ := up hk
  rw [call_eq (fn := f_law_three) rfl rfl]
  have e1 : fStr [.int (n : Nat)] = some (.d (.str (TL.numL n))) := by
    show (if (n : Int).natAbs.log2 < 1920 ∧ okS (strInt (n : Int)) = true then some (R.d (D.str (strInt (n : Int)))) else none) = _
    rw [strInt_nat, if_pos]
    refine ⟨?_, okS_mk ?_ fun c hc => ?_⟩
    · rw [Int.natAbs_natCast]
      refine Nat.lt_of_le_of_lt (Nat.log2_le_self n) (by omega)
    · exact Nat.le_trans (TL.numL_len (k := 3) (by decide) hn) (by decide)
    · have := TL.numL_digits n c hc
      omega
  have e2 : dAdd (.str [48, 48, 48]) (.str (TL.numL n)) = some (.d (.str ([48, 48, 48] ++ TL.numL n))) := add_str (by
    have := TL.numL_len (k := 3) (by decide) hn
    show 3 + _ ≤ 16777216
    omega)
  have e3 := th_cut hn
  simp only [f_law_three, b_law_three]
  walk_at "ev"
  rw [e1]
  walk_at "ev"
  rw [e2]
  walk_at "ev"
  rw [show (-3 : Int) = -3 from rfl] at e3
  have e3' : cutL ([48, 48, 48] ++ TL.numL n) (some (-3)) none = th n := e3
  rw [show ([48, 48, 48] ++ TL.numL n) = 48 :: 48 :: 48 :: TL.numL n from rfl] at e3'
  rw [e3']
theorem v_law_frame {k : Nat} (hk : 2 ≤ k) (s : List Nat) (hs : ∀ c ∈ s, c ∈ sg) (hz : s.length < 1000) : callF T k i_law_frame [.d (.str s)] = some (.d (.str (frm s)), []) := by
  obtain ⟨j, rfl, hj⟩ := up hk
  have h1 := v_law_three hj s.length hz
  have h2 := v_law_check hj s hs (by omega)
  have h3 := v_law_three hj (ck s) (ck_lt s)
  have e1 : dAdd (.str (th s.length)) (.str (th (ck s))) = some (.d (.str (th s.length ++ th (ck s)))) := add_str (show 6 ≤ 16777216 by decide)
  have e2 : dAdd (.str (th s.length ++ th (ck s))) (.str s) = some (.d (.str (th s.length ++ th (ck s) ++ s))) := add_str (by
    show 6 + s.length ≤ 16777216
    omega)
  rw [call_eq (fn := f_law_frame) rfl rfl]
  simp only [f_law_frame, b_law_frame]
  walk_at "ev*"
  rw [List.append_assoc]; rfl
theorem filt_nil {s t : List Nat} : decide (s.filter (fun c => !decide (c ∈ t)) = []) = s.all fun c => decide (c ∈ t) := by
  cases h : s.all fun c => decide (c ∈ t) with
  | true =>
    refine decide_eq_true (List.filter_eq_nil_iff.mpr fun c hc => ?_)
    have := List.all_eq_true.mp h c hc
    rw [this]; simp
  | false =>
    refine decide_eq_false fun z => ?_
    have z := List.filter_eq_nil_iff.mp z
    have : (s.all fun c => decide (c ∈ t)) = true := List.all_eq_true.mpr fun c hc => by simpa using z c hc
    rw [this] at h; cases h
theorem v_law_is_signs {k : Nat} (hk : 1 ≤ k) (s : List Nat) (hz : s.length ≤ SZ) : callF T k i_law_is_signs [.d (.str s)] = some (.d (.bl (isS s)), []) := by
  obtain ⟨j, rfl, hj⟩ := up hk
  rw [call_eq (fn := f_law_is_signs) rfl rfl]
  simp only [f_law_is_signs, b_law_is_signs]
  walk_at "ev"
  rw [compV_filter s (fun c => .str [c]) (fun c => .str [c]) (fun c => !decide (c ∈ sg)) (ρ1 := [.d (.str s), .un]) (by walk_at "ev") rfl hz
    (fun c _ => ⟨[.d (.str s), .d (.str [c])], by
      rw [turn_if _ _ _ _ _ _ rfl]
      walk_at "ev"
      cases decide (c ∈ sg) <;> rfl, rfl, rfl⟩)]
  walk_at "ev"
  rw [filt_nil]; rfl
/-! ### the law's own reading of frames -/
/-- what a turn of the law's own loop does -/
def bodyFI : Ss := (.cons (.asg (.name 4) (.sli (.var 0) (.var 3) (.bin .add (.var 3) (.int 6))))
    (.cons (.iff (.or (.cmp .lt (.blt .len (.cons (.var 4) .nil)) (.int 6)) (.cmp .ne (.comp [7] (.name 7) (.of (.var 4)) (.cmp .notin (.var 7) (.str dg)) (.var 7)) (.lst .nil)))
      (.cons (.ret (.tup (.cons (.var 2) (.cons (.var 3) .nil))))
      .nil)
      .nil)
    (.cons (.asg (.name 5) (.blt .int (.cons (.sli (.var 4) .absent (.int 3)) .nil)))
    (.cons (.asg (.name 6) (.sli (.var 0) (.bin .add (.var 3) (.int 6)) (.bin .add (.bin .add (.var 3) (.int 6)) (.var 5))))
    (.cons (.iff (.or (.cmp .eq (.var 5) (.int 0)) (.or (.cmp .lt (.blt .len (.cons (.var 6) .nil)) (.var 5)) (.or (.not (.call i_law_is_signs (.cons (.var 6) .nil))) (.cmp .ne (.call i_law_three (.cons (.call i_law_check (.cons (.var 6) .nil)) .nil)) (.sli (.var 4) (.int 3) .absent)))))
      (.cons (.ret (.tup (.cons (.var 2) (.cons (.var 3) .nil))))
      .nil)
      .nil)
    (.cons (.par [2, 3] (.cons (.bin .add (.var 2) (.tup (.cons (.var 6) .nil))) (.cons (.bin .add (.bin .add (.var 3) (.int 6)) (.var 5)) .nil)))
    .nil))))))
theorem comp_dg {G : Cfg} (a0 a1 a2 a3 a5 a6 : SV) (h : List Nat) (hz : h.length ≤ SZ) : compV [7] (evI G (.of (.var 4))) (turnC (evG G (.name 7)) (evE G (.cmp .notin (.var 7) (.str dg))) (evE G (.var 7))) [a0, a1, a2, a3, .d (.str h), a5, a6, .un] =
    some (.fr ((h.filter fun c => !decide (c ∈ dg)).map fun c => .str [c]), [a0, a1, a2, a3, .d (.str h), a5, a6, .un]) :=
  compV_filter h (fun c => .str [c]) (fun c => .str [c]) (fun c => !decide (c ∈ dg)) (by walk_at "ev") rfl hz
    (fun c _ => ⟨[a0, a1, a2, a3, .d (.str h), a5, a6, .d (.str [c])], by
      rw [turn_if _ _ _ _ _ _ rfl]
      walk_at "ev"
      cases decide (c ∈ dg) <;> rfl, rfl, rfl⟩)
theorem turn_FI {j : Nat} (hj : 1 ≤ j) (s : List Nat) (hz : s.length ≤ 100000) (ts : List (List Nat)) (ht : ts.length ≤ 100000) (st : Nat) (x1 x4 x5 x6 : SV) (hx : (x1 = .un ∧ x4 = .un ∧ x5 = .un ∧ x6 = .un) ∨ ∃ a b c d, x1 = .d a ∧ x4 = .d b ∧ x5 = .d c ∧ x6 = .d d) (i : Nat) :
    (textAt (s.drop st) = none ∧ ∃ ρ', (bndS (evG (T.cfg (callF T j)) (.name 1) (.int (i : Nat))) fun _ => evSs (T.cfg (callF T j)) bodyFI) [.d (.str s), x1, .d (.tup (ts.map .str)), .d (.int (st : Nat)), x4, x5, x6, .un] = some (.rt (.d (.tup [.tup (ts.map .str), .int (st : Nat)])) ρ')) ∨
    ∃ t a b c d, textAt (s.drop st) = some t ∧
      (bndS (evG (T.cfg (callF T j)) (.name 1) (.int (i : Nat))) fun _ => evSs (T.cfg (callF T j)) bodyFI) [.d (.str s), x1, .d (.tup (ts.map .str)), .d (.int (st : Nat)), x4, x5, x6, .un] =
        some (.nx [.d (.str s), .d a, .d (.tup ((ts ++ [t]).map .str)), .d (.int ((st + (6 + t.length) : Nat) : Int)), .d b, .d c, .d d, .un]) := by
  have e1 : cutL s (some (st : Int)) (some ((st : Int) + 6)) = (s.drop st).take 6 := by
    have := cut_nat s st (st + 6)
    rw [Nat.add_sub_cancel_left] at this
    exact this
  have l1 : (s.drop st).length ≤ 100000 := by rw [List.length_drop]; omega
  have e2 : ∀ n : Nat, cutL s (some ((st : Int) + 6)) (some ((st : Int) + 6 + (n : Int))) = ((s.drop st).drop 6).take n := fun n => by
    have := cut_nat s (st + 6) (st + 6 + n)
    rw [Nat.add_sub_cancel_left] at this
    rw [List.drop_drop]
    exact this
  have e3 : cutL ((s.drop st).take 6) none (some 3) = (s.drop st).take 3 := by
    rw [show (3 : Int) = ((3 : Nat) : Int) from rfl, cut_to, List.take_take]; rfl
  have e4 : cutL ((s.drop st).take 6) (some 3) none = ((s.drop st).take 6).drop 3 := cut_from _ 3
  simp only [bodyFI]
  generalize s.drop st = x at *
  have z6 : (x.take 6).length ≤ SZ := Nat.le_trans (List.length_take_le' _ _) (Nat.le_trans l1 (by decide))
  by_cases c1 : (x.take 6).length < 6
  · have ta : textAt x = none := by unfold textAt; rw [if_pos c1]
    have d1 : decide (((x.take 6).length : Int) < 6) = true := decide_eq_true (by omega)
    refine .inl ⟨ta, ?_⟩
    rcases hx with ⟨rfl, rfl, rfl, rfl⟩ | ⟨a, b, c, d, rfl, rfl, rfl, rfl⟩
    · refine ⟨[.d (.str s), .d (.int (i : Nat)), .d (.tup (ts.map .str)), .d (.int (st : Nat)), .d (.str (x.take 6)), .un, .un, .un], ?_⟩; walk_at "ev*"
    · refine ⟨[.d (.str s), .d (.int (i : Nat)), .d (.tup (ts.map .str)), .d (.int (st : Nat)), .d (.str (x.take 6)), .d c, .d d, .un], ?_⟩; walk_at "ev*"
  have d1 : decide (((x.take 6).length : Int) < 6) = false := decide_eq_false (by omega)
  have hc := fun a0 a1 a2 a3 a5 a6 => comp_dg (G := T.cfg (callF T j)) a0 a1 a2 a3 a5 a6 (x.take 6) z6
  have hfl : decide ((x.take 6).filter (fun c => !decide (c ∈ dg)) = []) = isD (x.take 6) := filt_nil
  by_cases c2 : isD (x.take 6) = false
  · have ta : textAt x = none := by unfold textAt; rw [if_neg c1, if_pos c2]
    rw [c2] at hfl
    clear z6 c1
    refine .inl ⟨ta, ?_⟩
    rcases hx with ⟨rfl, rfl, rfl, rfl⟩ | ⟨a, b, c, d, rfl, rfl, rfl, rfl⟩
    · refine ⟨[.d (.str s), .d (.int (i : Nat)), .d (.tup (ts.map .str)), .d (.int (st : Nat)), .d (.str (x.take 6)), .un, .un, .un], ?_⟩; walk_at "ev*"
    · refine ⟨[.d (.str s), .d (.int (i : Nat)), .d (.tup (ts.map .str)), .d (.int (st : Nat)), .d (.str (x.take 6)), .d c, .d d, .un], ?_⟩; walk_at "ev*"
  replace c2 : isD (x.take 6) = true := by simpa using c2
  rw [c2] at hfl
  have l6 : (x.take 6).length = 6 := by rw [List.length_take] at c1 ⊢; omega
  have g3 : ∀ c ∈ x.take 3, 48 ≤ c ∧ c ≤ 57 := fun c hc => isD_at c2 c (by
    rw [show x.take 3 = (x.take 6).take 3 by rw [List.take_take]; rfl] at hc
    exact List.mem_of_mem_take hc)
  have g4 : ∀ c ∈ (x.take 6).drop 3, 48 ≤ c ∧ c ≤ 57 := fun c hc => isD_at c2 c (List.mem_of_mem_drop hc)
  have z3 : (x.take 3).length = 3 := by rw [List.length_take] at l6 ⊢; omega
  have z4 : ((x.take 6).drop 3).length = 3 := by rw [List.length_drop, l6]
  have i3 := int_dig g3 (fun z => by rw [z] at z3; cases z3) (by omega)
  obtain ⟨v4, v4l⟩ := val_th z4 g4
  have e5 := e2 (val3 (x.take 3))
  have l2 : ((x.drop 6).take (val3 (x.take 3))).length ≤ 100000 := Nat.le_trans (List.length_take_le' _ _) (by rw [List.length_drop]; omega)
  clear l6 z3 z4 e2 z6 g3 g4
  have tx : textAt x = (if val3 (x.take 3) = 0 then none else if ((x.drop 6).take (val3 (x.take 3))).length < val3 (x.take 3) then none else
  if isS ((x.drop 6).take (val3 (x.take 3))) = false then none else
  if ck ((x.drop 6).take (val3 (x.take 3))) = val3 ((x.take 6).drop 3) then some ((x.drop 6).take (val3 (x.take 3))) else none) := by
    conv => lhs; unfold textAt
    rw [if_neg c1, if_neg (by rw [c2]; decide)]
  have tl : ((x.drop 6).take (val3 (x.take 3))).length ≤ val3 (x.take 3) := List.length_take_le _ _
  generalize (x.drop 6).take (val3 (x.take 3)) = t at *
  generalize val3 (x.take 3) = n at *
  have h2 := v_law_is_signs (k := j) (by omega) t (Nat.le_trans l2 (by decide))
  clear c1
  by_cases c3 : n = 0
  · have d3 : decide ((n : Int) = 0) = true := decide_eq_true (by omega)
    rw [if_pos c3] at tx
    refine .inl ⟨tx, ?_⟩
    clear tx tl c3
    rcases hx with ⟨rfl, rfl, rfl, rfl⟩ | ⟨a, b, c, d, rfl, rfl, rfl, rfl⟩
    · refine ⟨[.d (.str s), .d (.int (i : Nat)), .d (.tup (ts.map .str)), .d (.int (st : Nat)), .d (.str (x.take 6)), .d (.int (n : Nat)), .d (.str t), .un], ?_⟩; walk_at "ev*"
    · refine ⟨[.d (.str s), .d (.int (i : Nat)), .d (.tup (ts.map .str)), .d (.int (st : Nat)), .d (.str (x.take 6)), .d (.int (n : Nat)), .d (.str t), .un], ?_⟩; walk_at "ev*"
  have d3 : decide ((n : Int) = 0) = false := decide_eq_false (by omega)
  rw [if_neg c3] at tx
  by_cases c4 : t.length < n
  · have d4 : decide ((t.length : Int) < (n : Int)) = true := decide_eq_true (by omega)
    rw [if_pos c4] at tx
    refine .inl ⟨tx, ?_⟩
    clear tx tl c3 c4
    rcases hx with ⟨rfl, rfl, rfl, rfl⟩ | ⟨a, b, c, d, rfl, rfl, rfl, rfl⟩
    · refine ⟨[.d (.str s), .d (.int (i : Nat)), .d (.tup (ts.map .str)), .d (.int (st : Nat)), .d (.str (x.take 6)), .d (.int (n : Nat)), .d (.str t), .un], ?_⟩; walk_at "ev*"
    · refine ⟨[.d (.str s), .d (.int (i : Nat)), .d (.tup (ts.map .str)), .d (.int (st : Nat)), .d (.str (x.take 6)), .d (.int (n : Nat)), .d (.str t), .un], ?_⟩; walk_at "ev*"
  have d4 : decide ((t.length : Int) < (n : Int)) = false := decide_eq_false (by omega)
  rw [if_neg c4] at tx
  have tn : t.length = n := by omega
  by_cases c5 : isS t = false
  · replace h2 : callF T j i_law_is_signs [.d (.str t)] = some (.d (.bl false), []) := by rw [← c5]; exact h2
    rw [if_pos c5] at tx
    refine .inl ⟨tx, ?_⟩
    clear tx tl c3 c4 tn
    rcases hx with ⟨rfl, rfl, rfl, rfl⟩ | ⟨a, b, c, d, rfl, rfl, rfl, rfl⟩
    · refine ⟨[.d (.str s), .d (.int (i : Nat)), .d (.tup (ts.map .str)), .d (.int (st : Nat)), .d (.str (x.take 6)), .d (.int (n : Nat)), .d (.str t), .un], ?_⟩; walk_at "ev*"
    · refine ⟨[.d (.str s), .d (.int (i : Nat)), .d (.tup (ts.map .str)), .d (.int (st : Nat)), .d (.str (x.take 6)), .d (.int (n : Nat)), .d (.str t), .un], ?_⟩; walk_at "ev*"
  rw [if_neg c5] at tx
  replace c5 : isS t = true := by simpa using c5
  replace h2 : callF T j i_law_is_signs [.d (.str t)] = some (.d (.bl true), []) := by rw [← c5]; exact h2
  have h3 := v_law_check (k := j) (by omega) t (fun c hc => of_decide_eq_true (List.all_eq_true.mp c5 c hc)) (by omega)
  have h4 := v_law_three (k := j) (by omega) (ck t) (ck_lt t)
  by_cases c6 : ck t = val3 ((x.take 6).drop 3)
  · have d6 : decide (th (ck t) = (x.take 6).drop 3) = true := decide_eq_true (by rw [v4, c6]; rfl)
    rw [if_pos c6] at tx
    have a1 : dAdd (.tup (ts.map .str)) (.tup [.str t]) = some (.d (.tup ((ts ++ [t]).map .str))) := by
      rw [List.map_append]
      exact add_tup (by rw [List.length_map]; show _ + 1 ≤ 16777216; omega)
    refine .inr ⟨t, .int (i : Nat), .str (x.take 6), .int (n : Nat), .str t, tx, ?_⟩
    subst tn
    clear tx tl c3 c4 c6 v4
    have a2 : (st : Int) + 6 + (t.length : Int) = ((st + (6 + t.length) : Nat) : Int) := by omega
    rw [← a2]
    clear a2
    rcases hx with ⟨rfl, rfl, rfl, rfl⟩ | ⟨a, b, c, d, rfl, rfl, rfl, rfl⟩
    · walk_at "ev*"
    · walk_at "ev*"
  · have d6 : decide (th (ck t) = (x.take 6).drop 3) = false := decide_eq_false fun z => c6 (by
      have := congrArg NumText.digitsVal z
      rw [th_val (ck_lt t)] at this
      exact this)
    rw [if_neg c6] at tx
    refine .inl ⟨tx, ?_⟩
    clear tx tl c3 c4 tn c6 v4
    rcases hx with ⟨rfl, rfl, rfl, rfl⟩ | ⟨a, b, c, d, rfl, rfl, rfl, rfl⟩
    · refine ⟨[.d (.str s), .d (.int (i : Nat)), .d (.tup (ts.map .str)), .d (.int (st : Nat)), .d (.str (x.take 6)), .d (.int (n : Nat)), .d (.str t), .un], ?_⟩; walk_at "ev*"
    · refine ⟨[.d (.str s), .d (.int (i : Nat)), .d (.tup (ts.map .str)), .d (.int (st : Nat)), .d (.str (x.take 6)), .d (.int (n : Nat)), .d (.str t), .un], ?_⟩; walk_at "ev*"
theorem loop_FI {j : Nat} (hj : 1 ≤ j) (s : List Nat) (hz : s.length ≤ 100000) : ∀ (is : List Nat) (ts : List (List Nat)) (st : Nat) (x1 x4 x5 x6 : SV), (s.drop st).length ≤ is.length → ts.length + is.length ≤ 100000 →
    ((x1 = .un ∧ x4 = .un ∧ x5 = .un ∧ x6 = .un) ∨ ∃ a b c d, x1 = .d a ∧ x4 = .d b ∧ x5 = .d c ∧ x6 = .d d) →
    (∃ ρ', forL (fun d => bndS (evG (T.cfg (callF T j)) (.name 1) d) fun _ => evSs (T.cfg (callF T j)) bodyFI) (is.map fun i => .int (i : Nat)) [.d (.str s), x1, .d (.tup (ts.map .str)), .d (.int (st : Nat)), x4, x5, x6, .un] =
      some (.rt (.d (.tup [.tup ((ts ++ frs (s.drop st)).map .str), .int ((st + lens (frs (s.drop st)) : Nat) : Int)])) ρ')) ∨
    ∃ y1 y4 y5 y6, forL (fun d => bndS (evG (T.cfg (callF T j)) (.name 1) d) fun _ => evSs (T.cfg (callF T j)) bodyFI) (is.map fun i => .int (i : Nat)) [.d (.str s), x1, .d (.tup (ts.map .str)), .d (.int (st : Nat)), x4, x5, x6, .un] =
      some (.nx [.d (.str s), y1, .d (.tup ((ts ++ frs (s.drop st)).map .str)), .d (.int ((st + lens (frs (s.drop st)) : Nat) : Int)), y4, y5, y6, .un])
  | [], ts, st, x1, x4, x5, x6, h, hl, hx => by
    have e0 : s.drop st = [] := List.eq_nil_of_length_eq_zero (Nat.le_zero.mp h)
    have e1 : frs (s.drop st) = [] := by rw [e0]; rfl
    refine .inr ⟨x1, x4, x5, x6, ?_⟩
    rw [e1, List.append_nil]; rfl
  | i :: is, ts, st, x1, x4, x5, x6, h, hl, hx => by
    have hl : ts.length + (is.length + 1) ≤ 100000 := hl
    rcases turn_FI hj s hz ts (by omega) st x1 x4 x5 x6 hx i with ⟨tn, ρ', e⟩ | ⟨t, a, b, c, d, tt, e⟩
    · have e1 : frs (s.drop st) = [] := by
        unfold frs fr; rw [tn]
      refine .inl ⟨ρ', ?_⟩
      rw [e1, List.append_nil]
      show forL _ (_ :: _) _ = _
      unfold forL
      rw [e]; rfl
    · obtain ⟨p1, p2, -⟩ := textAt_len tt
      have e1 : frs (s.drop st) = t :: frs (s.drop (st + (6 + t.length))) := by
        have u : frs (s.drop st) = t :: fr (s.drop st).length ((s.drop st).drop (6 + t.length)) := by
          conv => lhs; unfold frs fr
          rw [tt]
        rw [u, List.drop_drop]
        unfold frs
        rw [fr_more _ ((s.drop (st + (6 + t.length))).length + 1)]
        · rw [List.length_drop] at p2 ⊢; rw [List.length_drop]; omega
        · omega
      have h' : (s.drop (st + (6 + t.length))).length ≤ is.length := by
        have h : (s.drop st).length ≤ is.length + 1 := h
        rw [List.length_drop] at h p2 ⊢; omega
      have ih := loop_FI hj s hz is (ts ++ [t]) (st + (6 + t.length)) (.d a) (.d b) (.d c) (.d d) h' (by rw [List.length_append]; simp; omega) (.inr ⟨a, b, c, d, rfl, rfl, rfl, rfl⟩)
      have u1 : ts ++ frs (s.drop st) = ts ++ [t] ++ frs (s.drop (st + (6 + t.length))) := by rw [e1, List.append_assoc]; rfl
      have u2 : st + lens (frs (s.drop st)) = st + (6 + t.length) + lens (frs (s.drop (st + (6 + t.length)))) := by
        rw [e1]
        show st + (6 + t.length + lens _) = _
        omega
      rw [u1, u2]
      have u3 : ∀ ρ, forL (fun d => bndS (evG (T.cfg (callF T j)) (.name 1) d) fun _ => evSs (T.cfg (callF T j)) bodyFI) ((i :: is).map fun i => .int (i : Nat)) ρ = (match (bndS (evG (T.cfg (callF T j)) (.name 1) (.int (i : Nat))) fun _ => evSs (T.cfg (callF T j)) bodyFI) ρ with
        | some (.nx ρ') => forL (fun d => bndS (evG (T.cfg (callF T j)) (.name 1) d) fun _ => evSs (T.cfg (callF T j)) bodyFI) (is.map fun i => .int (i : Nat)) ρ'
        | some (.ct ρ') => forL (fun d => bndS (evG (T.cfg (callF T j)) (.name 1) d) fun _ => evSs (T.cfg (callF T j)) bodyFI) (is.map fun i => .int (i : Nat)) ρ'
        | some (.bk ρ') => some (.nx ρ')
        | some (.rt r ρ') => some (.rt r ρ')
        | none => none) := fun ρ => rfl
      rw [u3, e]
      exact ih
theorem v_law_frames_in {k : Nat} (hk : 2 ≤ k) (s : List Nat) (hz : s.length ≤ 50000) : callF T k i_law_frames_in [.d (.str s)] = some (.d (.tup [.tup ((frs s).map .str), .int (lens (frs s) : Nat)]), []) := by
  obtain ⟨j, rfl, hj⟩ := up hk
  have hr := range_1 (n := s.length) (Nat.le_trans hz (by decide))
  have h := loop_FI hj s (by omega) (List.range s.length) [] 0 .un .un .un .un (by rw [List.length_range]; exact Nat.le_refl _) (by rw [List.length_range]; simp; omega) (.inl ⟨rfl, rfl, rfl, rfl⟩)
  rw [List.nil_append, Nat.zero_add] at h
  rw [call_eq (fn := f_law_frames_in) rfl rfl]
  simp only [f_law_frames_in, b_law_frames_in]
  walk_at "ev"
  rw [hr]
  walk_at "ev"
  rcases h with ⟨ρ', h⟩ | ⟨y1, y4, y5, y6, h⟩
  · have h' : forL _ _ [SV.d (.str s), .un, .d (.tup []), .d (.int 0), .un, .un, .un, .un] = _ := h
    unfold bodyFI at h'
    rw [h']
    walk_at "ev"
    rfl
  · have h' : forL _ _ [SV.d (.str s), .un, .d (.tup []), .d (.int 0), .un, .un, .un, .un] = _ := h
    unfold bodyFI at h'
    rw [h']
    walk_at "ev"
    rfl
/-! ### plain: what stands in a cut stream -/
theorem dg_126 : (126 : Nat) ∉ dg := by decide
theorem sg_126 : (126 : Nat) ∉ sg := by decide
theorem th_len (n : Nat) : (th n).length = 3 := rfl
theorem th_isD {n : Nat} (h : n < 1000) : isD (th n) = true := by
  refine List.all_eq_true.mpr fun c hc => decide_eq_true ?_
  have := th_dig h c hc
  have k : ∀ c, 48 ≤ c ∧ c ≤ 57 → c ∈ dg := fun c hc => by
    have : c = 48 ∨ c = 49 ∨ c = 50 ∨ c = 51 ∨ c = 52 ∨ c = 53 ∨ c = 54 ∨ c = 55 ∨ c = 56 ∨ c = 57 := by omega
    unfold dg
    rcases this with rfl | rfl | rfl | rfl | rfl | rfl | rfl | rfl | rfl | rfl <;> decide
  exact k c this
theorem isD_app (a b : List Nat) : isD (a ++ b) = (isD a && isD b) := List.all_append
theorem isS_app (a b : List Nat) : isS (a ++ b) = (isS a && isS b) := List.all_append
theorem okT_S {t : List Nat} (h : okT t = true) : isS t = true := (Bool.and_eq_true_iff.mp (okT_ln h)).1
theorem okT_pos {t : List Nat} (h : okT t = true) : 0 < t.length := List.length_pos_iff.mpr (okT_ne h)
theorem okT_len {t : List Nat} (h : okT t = true) : t.length ≤ 200 := isLn_len (okT_ln h)
theorem textAt_frm {t : List Nat} (h : okT t = true) (r : List Nat) : textAt (frm t ++ r) = some t := by
  have hl := okT_len h
  have hp := okT_pos h
  have a1 : (frm t ++ r).take 6 = th t.length ++ th (ck t) := by
    show (th t.length ++ (th (ck t) ++ t) ++ r).take 6 = _
    rw [List.append_assoc, List.append_assoc, ← List.append_assoc (th t.length)]
    exact List.take_left' rfl
  have a2 : (frm t ++ r).take 3 = th t.length := by
    show (th t.length ++ (th (ck t) ++ t) ++ r).take 3 = _
    rw [List.append_assoc]
    exact List.take_left' rfl
  have a3 : (frm t ++ r).drop 6 = t ++ r := by
    show (th t.length ++ (th (ck t) ++ t) ++ r).drop 6 = _
    rw [List.append_assoc, List.append_assoc, ← List.append_assoc (th t.length)]
    exact List.drop_left' rfl
  have a4 : val3 (th t.length) = t.length := th_val (by omega)
  have a5 : (th t.length ++ th (ck t)).drop 3 = th (ck t) := List.drop_left' rfl
  unfold textAt
  rw [a1, a2, a3, a4, a5, List.take_left' rfl]
  rw [if_neg (by show ¬ 6 < 6; decide), if_neg (by rw [isD_app, th_isD (by omega), th_isD (ck_lt t)]; decide), if_neg (by omega), if_neg (by omega), if_neg (by rw [okT_S h]; decide), if_pos (show ck t = val3 (th (ck t)) from (th_val (ck_lt t)).symm)]
theorem frs_none {x : List Nat} (h : textAt x = none) : frs x = [] := by
  unfold frs fr; rw [h]
theorem frs_frm {t : List Nat} (h : okT t = true) (r : List Nat) : frs (frm t ++ r) = t :: frs r := by
  have e : (frm t ++ r).drop (6 + t.length) = r := List.drop_left' (frm_len t)
  have u : frs (frm t ++ r) = t :: fr (frm t ++ r).length ((frm t ++ r).drop (6 + t.length)) := by
    conv => lhs; unfold frs fr
    rw [textAt_frm h]
  rw [u, e]
  unfold frs
  rw [fr_more _ (r.length + 1)]
  · rw [List.length_append, frm_len]; omega
  · omega
theorem frs_nil : frs [] = [] := rfl
/-- nothing, or signs that are none -/
def blank (x : List Nat) : Prop := ∃ n, x = List.replicate n 126
theorem isD_blank {a x : List Nat} (hx : blank x) (h : x ≠ []) : isD (a ++ x) = false := by
  obtain ⟨n, rfl⟩ := hx
  cases n with
  | zero => exact absurd rfl h
  | succ n =>
    rw [isD_app]
    have : isD (List.replicate (n + 1) 126) = false := by
      rw [show isD (List.replicate (n + 1) 126) = (decide (126 ∈ dg) && isD (List.replicate n 126)) from rfl, decide_eq_false dg_126]; rfl
    rw [this, Bool.and_false]
theorem isS_blank {a x : List Nat} (hx : blank x) (h : x ≠ []) : isS (a ++ x) = false := by
  obtain ⟨n, rfl⟩ := hx
  cases n with
  | zero => exact absurd rfl h
  | succ n =>
    rw [isS_app]
    have : isS (List.replicate (n + 1) 126) = false := by
      rw [show isS (List.replicate (n + 1) 126) = (decide (126 ∈ sg) && isS (List.replicate n 126)) from rfl, decide_eq_false sg_126]; rfl
    rw [this, Bool.and_false]
theorem blank_take {x : List Nat} (h : blank x) (k : Nat) : blank (x.take k) := by
  obtain ⟨n, rfl⟩ := h
  exact ⟨min k n, by rw [List.take_replicate]⟩
/-- less than a frame, and signs that are none: no frame -/
theorem textAt_cut {t : List Nat} (h : okT t = true) {k : Nat} (hk : k < 6 + t.length) {x : List Nat} (hx : blank x) : textAt ((frm t).take k ++ x) = none := by
  have hl := okT_len h
  have lk : ((frm t).take k).length = k := by rw [List.length_take, frm_len]; omega
  unfold textAt
  by_cases c : ((((frm t).take k ++ x).take 6)).length < 6
  · rw [if_pos c]
  rw [if_neg c]
  by_cases k6 : k < 6
  · have e : ((frm t).take k ++ x).take 6 = (frm t).take k ++ x.take (6 - k) := by
      rw [List.take_append, lk, List.take_of_length_le (by omega)]
    rw [e] at c ⊢
    rw [if_pos (isD_blank (blank_take hx _) (fun z => by rw [z, List.append_nil, lk] at c; exact c k6))]
  · have e0 : (frm t).take k = th t.length ++ th (ck t) ++ t.take (k - 6) := by
      show (th t.length ++ (th (ck t) ++ t)).take k = _
      rw [← List.append_assoc, List.take_append, List.take_of_length_le (by show 6 ≤ k; omega)]; rfl
    have e1 : ((frm t).take k ++ x).take 3 = th t.length := by
      rw [e0, List.append_assoc, List.append_assoc]; exact List.take_left' rfl
    have e2 : ((frm t).take k ++ x).drop 6 = t.take (k - 6) ++ x := by
      rw [e0, List.append_assoc]; exact List.drop_left' rfl
    rw [e1, e2, show val3 (th t.length) = t.length from th_val (by omega)]
    split
    · rfl
    split
    · rfl
    by_cases c4 : ((t.take (k - 6) ++ x).take t.length).length < t.length
    · rw [if_pos c4]
    · have e3 : (t.take (k - 6) ++ x).take t.length = t.take (k - 6) ++ x.take (t.length - (k - 6)) := by
        have l6 : (t.take (k - 6)).length = k - 6 := by rw [List.length_take]; omega
        rw [List.take_append, l6, List.take_of_length_le (by omega)]
      rw [if_neg c4]
      rw [e3] at c4 ⊢
      rw [if_pos (isS_blank (blank_take hx _) (fun z => by
        rw [z, List.append_nil, List.length_take] at c4; omega))]
def cnt : List (List Nat) → Nat → Nat
  | [], _ => 0
  | t :: r, a => if 6 + t.length ≤ a then 1 + cnt r (a - (6 + t.length)) else 0
theorem textAt_blank {x : List Nat} (hx : blank x) : textAt x = none := by
  unfold textAt
  by_cases c : (x.take 6).length < 6
  · rw [if_pos c]
  · rw [if_neg c, if_pos]
    have := isD_blank (a := []) (blank_take hx 6) (fun z => c (by rw [z]; decide))
    exact this
theorem frs_cut : ∀ (ts : List (List Nat)) (a : Nat) (x : List Nat), (∀ t ∈ ts, okT t = true) → blank x → frs ((stm ts).take a ++ x) = ts.take (cnt ts a)
  | [], a, x, _, hx => by
    show frs (([] : List Nat).take a ++ x) = _
    rw [List.take_nil, List.nil_append, frs_none (textAt_blank hx)]; rfl
  | t :: r, a, x, h, hx => by
    have ht := h t List.mem_cons_self
    show frs ((frm t ++ stm r).take a ++ x) = _
    unfold cnt
    by_cases c : 6 + t.length ≤ a
    · rw [if_pos c, List.take_append, List.take_of_length_le (by rw [frm_len]; exact c), frm_len, List.append_assoc, frs_frm ht, frs_cut r _ x (fun t ht => h t (List.mem_cons_of_mem _ ht)) hx, Nat.add_comm 1]
      rfl
    · have e : (frm t ++ stm r).take a = (frm t).take a := by
        rw [List.take_append, frm_len, show a - (6 + t.length) = 0 by omega, List.take_zero, List.append_nil]
      rw [if_neg c, e, frs_none (textAt_cut ht (by omega) hx)]; rfl
theorem frs_all (ts : List (List Nat)) (h : ∀ t ∈ ts, okT t = true) : frs (stm ts) = ts := by
  induction ts with
  | nil => rfl
  | cons t r ih =>
    show frs (frm t ++ stm r) = _
    rw [frs_frm (h t List.mem_cons_self), ih fun t ht => h t (List.mem_cons_of_mem _ ht)]
/-- the ends behind k -/
def ends : Nat → List (List Nat) → List Nat
  | _, [] => []
  | k, t :: r => (k + 6 + t.length) :: ends (k + 6 + t.length) r
theorem ends_ge : ∀ (ts : List (List Nat)) (k e : Nat), e ∈ ends k ts → k ≤ e
  | t :: r, k, e, h => by
    rcases List.mem_cons.mp h with rfl | h
    · omega
    · have := ends_ge r _ e h; omega
theorem cnt_ends : ∀ (ts : List (List Nat)) (k a : Nat), k ≤ a → ((ends k ts).filter fun e => decide (e ≤ a)).length = cnt ts (a - k)
  | [], _, _, _ => rfl
  | t :: r, k, a, h => by
    unfold ends cnt
    by_cases c : k + 6 + t.length ≤ a
    · rw [List.filter_cons_of_pos (by simpa using c), List.length_cons, cnt_ends r _ a c, if_pos (by omega), Nat.add_comm]
      congr 2; omega
    · rw [List.filter_cons_of_neg (by simpa using c), if_neg (by omega)]
      have : (ends (k + 6 + t.length) r).filter (fun e => decide (e ≤ a)) = [] := List.filter_eq_nil_iff.mpr fun e he => by
        have := ends_ge r _ e he
        simp; omega
      rw [this]; rfl
theorem ends_at : ∀ (ts : List (List Nat)) (k m : Nat), m ≤ ts.length → (k :: ends k ts)[m]? = some (k + lens (ts.take m))
  | ts, k, 0, _ => by simp [lens]
  | [], k, m + 1, h => absurd h (Nat.not_succ_le_zero _)
  | t :: r, k, m + 1, h => by
    show (ends k (t :: r))[m]? = _
    have e := ends_at r (k + 6 + t.length) m (Nat.le_of_succ_le_succ h)
    show ((k + 6 + t.length) :: ends (k + 6 + t.length) r)[m]? = _
    rw [e]
    show some (k + 6 + t.length + lens (r.take m)) = some (k + (6 + t.length + lens (r.take m)))
    congr 1; omega
theorem cnt_le : ∀ (ts : List (List Nat)) (a : Nat), cnt ts a ≤ ts.length
  | [], _ => Nat.le_refl _
  | t :: r, a => by
    unfold cnt
    split
    · have := cnt_le r (a - (6 + t.length)); rw [List.length_cons]; omega
    · exact Nat.zero_le _
/-! ### drawn texts -/
theorem flat1 : ∀ t : List Nat, (t.map fun c => [c]).flatten = t
  | [] => rfl
  | c :: t => by show c :: (t.map fun c => [c]).flatten = _; rw [flat1 t]
theorem sg_sub2 : ∀ c ∈ q_2, c ∈ sg := by decide
theorem sg_subd : ∀ c ∈ dg, c ∈ sg := by decide
theorem sg_subz : ∀ c ∈ [122, 121, 120, 32, 61], c ∈ sg := by decide
theorem okT_of {t : List Nat} (h0 : t ≠ []) (h1 : t.length ≤ 200) (h2 : ∀ c ∈ t, c ∈ sg) : okT t = true :=
  Bool.and_eq_true_iff.mpr ⟨Bool.and_eq_true_iff.mpr ⟨List.all_eq_true.mpr fun c hc => decide_eq_true (h2 c hc), decide_eq_true h1⟩, decide_eq_true h0⟩
theorem four {r : Int} (h0 : 0 ≤ r) (h1 : r < 4) : r = 0 ∨ r = 1 ∨ r = 2 ∨ r = 3 := by omega
theorem v_law_text {k : Nat} (hk : 3 ≤ k) {w : List D} (hw : isW w) (m : Nat) (h0 : 0 < m) (h1 : m ≤ 200) :
    ∃ (t : List Nat) (w' : List D), callF T k i_law_text [.io w, .d (.int (m : Nat))] = some (.d (.str t), [w']) ∧ isW w' ∧ okT t = true ∧ t.length ≤ m := by
  obtain ⟨j, rfl, hj⟩ := up hk
  obtain ⟨r1, w1, e1, hw1, a0, a1⟩ := v_law_take (k := j) (by omega) hw (m := 4) (by decide) (by decide)
  obtain ⟨r2, w2, e2, hw2, b0, b1⟩ := v_law_take (k := j) (by omega) hw1 (m := (m : Nat)) (by omega) (by omega)
  obtain ⟨sig, es, s0, s1, s2⟩ : ∃ sig : List Nat, L2.atI [D.str sg, .str dg, .str q_2, .str [122, 121, 120, 32, 61]] r1 = some (.str sig) ∧ sig ≠ [] ∧ sig.length ≤ 1000000 ∧ ∀ c ∈ sig, c ∈ sg := by
    rcases four a0 a1 with rfl | rfl | rfl | rfl
    · exact ⟨sg, rfl, by decide, by decide, fun c h => h⟩
    · exact ⟨dg, rfl, by decide, by decide, sg_subd⟩
    · exact ⟨q_2, rfl, by decide, by decide, sg_sub2⟩
    · exact ⟨[122, 121, 120, 32, 61], rfl, by decide, by decide, sg_subz⟩
  obtain ⟨n, rfl⟩ : ∃ n : Nat, r2 = (n : Int) := ⟨r2.toNat, (Int.toNat_of_nonneg b0).symm⟩
  have en : (1 : Int) + (n : Int) = ((n + 1 : Nat) : Int) := by omega
  have hr := range_1 (n := n + 1) (by show n + 1 ≤ 16777216; omega)
  rw [call_eq (fn := f_law_text) rfl rfl]
  simp only [f_law_text, b_law_text]
  obtain ⟨ys, ρ', ec, t, w', x, rfl, tl, tg, hw', rfl, hx⟩ := compV_ind (own := [5]) (it := evI (T.cfg (callF T j)) (.range (.cons (.var 4) .nil))) (f := turnC (evG (T.cfg (callF T j)) (.name 5)) (evE (T.cfg (callF T j)) .absent) (evE (T.cfg (callF T j)) (.call i_law_pick (.cons (.var 0) (.cons (.var 2) .nil)))))
    (fun i acc ρ => ∃ (t : List Nat) (w' : List D) (x : SV), acc = (t.map fun c => .str [c]) ∧ t.length = i ∧ (∀ c ∈ t, c ∈ sg) ∧ isW w' ∧ ρ = [.io w', .d (.int (m : Nat)), .d (.str sig), .d (.int r1), .d (.int ((n + 1 : Nat) : Int)), x] ∧ (x = .un ∨ ∃ d, x = .d d))
    (ρ := [.io w2, .d (.int (m : Nat)), .d (.str sig), .d (.int r1), .d (.int ((n + 1 : Nat) : Int)), .un]) (ρ1 := [.io w2, .d (.int (m : Nat)), .d (.str sig), .d (.int r1), .d (.int ((n + 1 : Nat) : Int)), .un]) (ds := (List.range (n + 1)).map fun i => .int (i : Nat))
    (by walk_at "ev"; rw [hr]; rfl) rfl (by rw [List.length_map, List.length_range]; show n + 1 ≤ 16777216; omega) ⟨[], w2, .un, rfl, rfl, (fun _ h => nomatch h), hw2, rfl, .inl rfl⟩
    (fun i acc ρ d hp hf hd => by
      obtain ⟨t, w', x, rfl, tl, tg, hw', rfl, hx⟩ := hp
      rw [List.getElem?_map] at hd
      cases e : (List.range (n + 1))[i]? with
      | none => rw [e] at hd; cases hd
      | some y =>
        rw [e] at hd; cases hd
        obtain ⟨c, w3, e3, hw3, hc⟩ := v_law_pick_str (k := j) (by omega) hw' s0 s1
        refine ⟨some (.str [c]), [.io w3, .d (.int (m : Nat)), .d (.str sig), .d (.int r1), .d (.int ((n + 1 : Nat) : Int)), .d (.int (y : Nat))], ?_, rfl, t ++ [c], w3, .d (.int (y : Nat)), by rw [List.map_append]; rfl, by rw [List.length_append, tl]; rfl, fun c' h => ?_, hw3, rfl, .inr ⟨_, rfl⟩⟩
        · clear hr e1 e2 es
          walk_at "ev*"
        · rcases List.mem_append.mp h with h | h
          · exact tg c' h
          · rw [List.mem_singleton.mp h]; exact s2 c hc)
  rw [List.length_map, List.length_range] at tl
  have hj2 := mJoin_map t (fun c => [c]) (by rw [flat1, tl]; show n + 1 ≤ 16777216; omega)
  rw [flat1] at hj2
  refine ⟨t, w', ?_, hw', okT_of (fun z => by rw [z] at tl; cases tl) (by omega) tg, by omega⟩
  have ec' : compV [5] _ _ [.io w2, .d (.int (m : Nat)), .d (.str sig), .d (.int r1), .d (.int ((n + 1 : Nat) : Int)), .un] = some (.fr (t.map fun c => .str [c]), [.io w', .d (.int (m : Nat)), .d (.str sig), .d (.int r1), .d (.int ((n + 1 : Nat) : Int)), .un]) := ec
  clear ec hr
  walk_at "ev"
  rw [e1]
  walk_at "ev"
  rw [e2]
  walk_at "ev"
  rw [en, es]
  walk_at "ev"
  rw [ec']
  walk_at "ev"
  rw [hj2]
  walk_at "ev"
/-! ### _law_right -/
def junk (x : SV) : Prop := x = .un ∨ ∃ d, x = .d d
theorem ends_len : ∀ (ts : List (List Nat)) (k : Nat), (ends k ts).length = ts.length
  | [], _ => rfl
  | t :: r, k => by show (ends _ r).length + 1 = _; rw [ends_len r]; rfl
theorem ends_app : ∀ (ts : List (List Nat)) (t : List Nat) (k : Nat), ends k (ts ++ [t]) = ends k ts ++ [k + lens ts + 6 + t.length]
  | [], t, k => rfl
  | u :: r, t, k => by
    show (k + 6 + u.length) :: ends (k + 6 + u.length) (r ++ [t]) = (k + 6 + u.length) :: ends (k + 6 + u.length) r ++ [k + (6 + u.length + lens r) + 6 + t.length]
    rw [ends_app r t]
    have e : k + 6 + u.length + lens r + 6 + t.length = k + (6 + u.length + lens r) + 6 + t.length := by omega
    rw [e]; rfl
section
variable {j : Nat} (w : List D) (ts : List (List Nat))
theorem r_S0 (hj : 6 ≤ j) (h : ∀ t ∈ ts, okT t = true) (hl : ts.length ≤ 8) : evS (T.cfg (callF T j)) (nthS b_law_right 0) [.io w, .d (.tup (ts.map .str)), .un, .un, .un, .un, .un, .un, .un, .un, .un] =
    some (.nx [.io w, .d (.tup (ts.map .str)), .d (.str (stm ts)), .un, .un, .un, .un, .un, .un, .un, .un]) := by
  simp only [b_law_right, nthS]
  walk_at "ev"
  rw [compV_map ts (fun t => .str t) (fun t => .str (frm t)) (ρ1 := [.io w, .d (.tup (ts.map .str)), .un, .un, .un, .un, .un, .un, .un, .un, .un]) (by walk_at "ev") rfl (Nat.le_trans hl (by decide))
    (fun t ht => ⟨[.io w, .d (.tup (ts.map .str)), .un, .d (.str t), .un, .un, .un, .un, .un, .un, .un], by
      have h1 := v_law_frame (k := j) (by omega) t (isLn_sg (okT_ln (h t ht))) (by have := okT_len (h t ht); omega)
      walk_at "ev*", rfl, rfl⟩)]
  have h2 := mJoin_map ts frm (by
    have a := stm_len ts
    have b := lens_le (fun t ht => okT_ln (h t ht))
    show (stm ts).length ≤ 16777216
    omega)
  walk_at "ev"
  rw [h2]
  rfl
theorem fine_strs (l : List (List Nat)) (h : l.length ≤ SZ) : (D.tup (l.map .str)).fine = true := by
  show (decide ((l.map D.str).length ≤ SZ) && fines (l.map fun c => .str (id c))) = true
  rw [strs_fine, List.length_map, decide_eq_true h]; rfl
theorem dep_strs (l : List (List Nat)) : (D.tup (l.map .str)).dep = 1 := by
  show deps (l.map fun c => .str (id c)) + 1 = 1
  rw [strs_deps]
theorem stm_le (h : ∀ t ∈ ts, okT t = true) (hl : ts.length ≤ 8) : (stm ts).length ≤ 1648 := by
  have a := stm_len ts
  have b := lens_le (fun t ht => okT_ln (h t ht))
  omega
theorem r_S1 (hj : 6 ≤ j) (h : ∀ t ∈ ts, okT t = true) (hl : ts.length ≤ 8) : evS (T.cfg (callF T j)) (nthS b_law_right 1) [.io w, .d (.tup (ts.map .str)), .d (.str (stm ts)), .un, .un, .un, .un, .un, .un, .un, .un] =
    some (.nx [.io w, .d (.tup (ts.map .str)), .d (.str (stm ts)), .un, .un, .un, .un, .un, .un, .un, .un]) := by
  have hs := stm_le ts h hl
  have h1 := v_stream_of (k := j) (by omega) ts h (by omega)
  have h2 := v_frames_in (k := j) (by omega) (stm ts) (by omega)
  rw [frs_all ts h, ← stm_len] at h2
  have hT := fine_strs ts (Nat.le_trans hl (by decide))
  have hD := dep_strs ts
  have h3 := v_law_same 3 (.lst [.str (stm ts), .str (stm ts), .tup [.tup (ts.map .str), .int ((stm ts).length : Nat)], .tup [.tup (ts.map .str), .int ((stm ts).length : Nat)]]) (by
    show deps [_, _, _, _] + 1 ≤ 3
    show max 0 (max 0 (max (deps [_, _] + 1) (max (deps [_, _] + 1) 0))) + 1 ≤ 3
    show max 0 (max 0 (max (max _ (max 0 0) + 1) (max (max _ (max 0 0) + 1) 0))) + 1 ≤ 3
    rw [hD]; decide) (by
    show (decide (4 ≤ SZ) && (true && (true && ((decide (2 ≤ SZ) && (D.fine _ && (true && true))) && ((decide (2 ≤ SZ) && (D.fine _ && (true && true))) && true))))) = true
    rw [hT]; rfl) j (by omega)
  simp only [b_law_right, nthS]
  clear hT hD hs hl h hj
  walk_at "ev*"
theorem r_S2 (hj : 6 ≤ j) (h : ∀ t ∈ ts, okT t = true) (hl : ts.length ≤ 8) : ∃ x, junk x ∧ evS (T.cfg (callF T j)) (nthS b_law_right 2) [.io w, .d (.tup (ts.map .str)), .d (.str (stm ts)), .un, .un, .un, .un, .un, .un, .un, .un] =
    some (.nx [.io w, .d (.tup (ts.map .str)), .d (.str (stm ts)), x, .un, .un, .un, .un, .un, .un, .un]) := by
  obtain ⟨ρ', e, x, hx, rfl⟩ := for_ind (G := T.cfg (callF T j)) (s := nthS b_law_right 2) rfl (fun i ρ => ∃ x, junk x ∧ ρ = [.io w, .d (.tup (ts.map .str)), .d (.str (stm ts)), x, .un, .un, .un, .un, .un, .un, .un])
    (ρ := [.io w, .d (.tup (ts.map .str)), .d (.str (stm ts)), .un, .un, .un, .un, .un, .un, .un, .un]) (ρ1 := [.io w, .d (.tup (ts.map .str)), .d (.str (stm ts)), .un, .un, .un, .un, .un, .un, .un, .un]) (ds := ts.map .str)
    (by walk_at "ev") ⟨.un, .inl rfl, rfl⟩ (by
      intro i ρ d hp hd
      obtain ⟨x, hx, rfl⟩ := hp
      rw [List.getElem?_map] at hd
      cases e : ts[i]? with
      | none => rw [e] at hd; cases hd
      | some t =>
        rw [e] at hd; cases hd
        have ht := h t (List.mem_of_getElem? e)
        have h1 := v_check_number (k := j) (by omega) t (okT_ln ht)
        have h2 := v_frame (k := j) (by omega) t ht
        have h3 := v_law_check (k := j) (by omega) t (isLn_sg (okT_ln ht)) (by have := okT_len ht; omega)
        have h4 := v_law_frame (k := j) (by omega) t (isLn_sg (okT_ln ht)) (by have := okT_len ht; omega)
        have h5 := mul_lst2 (.int (ck t : Nat)) (.str (frm t))
        have h6 := v_law_same 1 (.lst [.int (ck t : Nat), .str (frm t), .int (ck t : Nat), .str (frm t)]) (Nat.le_refl _) rfl j (by omega)
        refine ⟨[.io w, .d (.tup (ts.map .str)), .d (.str (stm ts)), .d (.str t), .un, .un, .un, .un, .un, .un, .un], ?_, _, .inr ⟨_, rfl⟩, rfl⟩
        clear hl h hj ht
        rcases hx with rfl | ⟨z, rfl⟩
        · walk_at "ev*"
        · walk_at "ev*")
  exact ⟨x, hx, e⟩
theorem r_S3 (x : SV) : evS (T.cfg (callF T j)) (nthS b_law_right 3) [.io w, .d (.tup (ts.map .str)), .d (.str (stm ts)), x, .un, .un, .un, .un, .un, .un, .un] =
    some (.nx [.io w, .d (.tup (ts.map .str)), .d (.str (stm ts)), x, .own [.int 0], .un, .un, .un, .un, .un, .un]) := by
  simp only [b_law_right, nthS]
  walk_at "ev"
theorem r_S4 (hl : ts.length ≤ 8) (x : SV) (hx : junk x) : ∃ y, junk y ∧ evS (T.cfg (callF T j)) (nthS b_law_right 4) [.io w, .d (.tup (ts.map .str)), .d (.str (stm ts)), x, .own [.int 0], .un, .un, .un, .un, .un, .un] =
    some (.nx [.io w, .d (.tup (ts.map .str)), .d (.str (stm ts)), y, .own ((0 :: ends 0 ts).map fun n => .int (n : Nat)), .un, .un, .un, .un, .un, .un]) := by
  obtain ⟨ρ', e, x, hx, rfl⟩ := for_ind (G := T.cfg (callF T j)) (s := nthS b_law_right 4) rfl (fun i ρ => ∃ x, junk x ∧ ρ = [.io w, .d (.tup (ts.map .str)), .d (.str (stm ts)), x, .own ((0 :: ends 0 (ts.take i)).map fun n => .int (n : Nat)), .un, .un, .un, .un, .un, .un])
    (ρ := [.io w, .d (.tup (ts.map .str)), .d (.str (stm ts)), x, .own [.int 0], .un, .un, .un, .un, .un, .un]) (ρ1 := [.io w, .d (.tup (ts.map .str)), .d (.str (stm ts)), x, .own [.int 0], .un, .un, .un, .un, .un, .un]) (ds := ts.map .str)
    (by walk_at "ev") ⟨x, hx, rfl⟩ (by
      intro i ρ d hp hd
      obtain ⟨x, hx, rfl⟩ := hp
      rw [List.getElem?_map] at hd
      cases e : ts[i]? with
      | none => rw [e] at hd; cases hd
      | some t =>
        rw [e] at hd; cases hd
        have hi : i < ts.length := (List.getElem?_eq_some_iff.mp e).1
        have et : ts.take (i + 1) = ts.take i ++ [t] := by rw [List.take_add_one, e]; rfl
        have lt : (ts.take i).length = i := by rw [List.length_take]; omega
        have h1 := ends_at (ts.take i) 0 i (by omega)
        rw [List.take_take, Nat.min_self, Nat.zero_add] at h1
        have h2 : L2.atI ((0 :: ends 0 (ts.take i)).map fun n => D.int (n : Nat)) (-1) = some (.int (lens (ts.take i) : Nat)) := at_m1 (n := i) (by rw [List.length_map, List.length_cons, ends_len, lt]) (by rw [List.getElem?_map, h1]; rfl)
        have h3 : ((0 :: ends 0 (ts.take i)).map fun n => D.int (n : Nat)).length < SZ := by
          rw [List.length_map, List.length_cons, ends_len, lt]; show i + 1 < 16777216; omega
        have h4 : ((0 :: ends 0 (ts.take i)).map fun n => D.int (n : Nat)) ++ [.int ((lens (ts.take i) : Int) + 6 + (t.length : Int))] = (0 :: ends 0 (ts.take (i + 1))).map fun n => D.int (n : Nat) := by
          rw [et, ends_app, ← List.cons_append, List.map_append]
          show _ ++ [D.int _] = _ ++ [D.int _]
          congr 3
          omega
        rw [← h4]
        generalize ((0 :: ends 0 (ts.take i)).map fun n => D.int (n : Nat)) = E at *
        refine ⟨[.io w, .d (.tup (ts.map .str)), .d (.str (stm ts)), .d (.str t), .own (E ++ [.int ((lens (ts.take i) : Int) + 6 + (t.length : Int))]), .un, .un, .un, .un, .un, .un], ?_, _, .inr ⟨_, rfl⟩, rfl⟩
        clear hl h1 e et lt hi h4
        rcases hx with rfl | ⟨z, rfl⟩
        · walk_at "ev*"
        · walk_at "ev*")
  rw [List.length_map, List.take_length] at e
  exact ⟨x, hx, e⟩
end
section
variable {j : Nat} (ts : List (List Nat))
def itAt : S → It
  | .for_ _ it _ => it
  | _ => .of .non
theorem r_it (hj : 6 ≤ j) {w : List D} (hw : isW w) (s : List Nat) (hs : s.length ≤ 1648) (x3 : SV) (E : List D) :
    ∃ (as : List Nat) (w' : List D), evI (T.cfg (callF T j)) (itAt (nthS b_law_right 5)) [.io w, .d (.tup (ts.map .str)), .d (.str s), x3, .own E, .un, .un, .un, .un, .un, .un] =
      some (as.map fun a => .int (a : Nat), [.io w', .d (.tup (ts.map .str)), .d (.str s), x3, .own E, .un, .un, .un, .un, .un, .un]) ∧ isW w' ∧ ∀ a ∈ as, a ≤ s.length := by
  simp only [b_law_right, nthS, itAt]
  by_cases c : s.length < 200
  · have d1 : decide ((s.length : Int) < 200) = true := decide_eq_true (by omega)
    have hr := range_1 (n := s.length + 1) (by show s.length + 1 ≤ 16777216; omega)
    have en : (s.length : Int) + 1 = ((s.length + 1 : Nat) : Int) := by omega
    have hm : mkLst ((List.range (s.length + 1)).map fun i => D.int (i : Nat)) = some (.fr ((List.range (s.length + 1)).map fun i => D.int (i : Nat))) := if_pos (by rw [List.length_map, List.length_range]; show s.length + 1 ≤ 16777216; omega)
    refine ⟨List.range (s.length + 1), w, ?_, hw, fun a ha => by have := List.mem_range.mp ha; omega⟩
    walk_at "ev"
    rw [d1]
    walk_at "ev"
    rw [en, hr]
    walk_at "ev"
    rw [hm]
    walk_at "ev"
  · have d1 : decide ((s.length : Int) < 200) = false := decide_eq_false (by omega)
    have hr : rangeD [.int 60] = some ((List.range 60).map fun i => .int (i : Nat)) := range_1 (n := 60) (by decide)
    obtain ⟨ys, ρ', ec, t, w', x, rfl, tg, hw', rfl, hx⟩ := compV_ind (own := [6]) (it := evI (T.cfg (callF T j)) (.range (.cons (.int 60) .nil))) (f := turnC (evG (T.cfg (callF T j)) (.name 6)) (evE (T.cfg (callF T j)) .absent) (evE (T.cfg (callF T j)) (.call i_law_take (.cons (.var 0) (.cons (.blt .len (.cons (.var 2) .nil)) .nil)))))
      (fun i acc ρ => ∃ (t : List Nat) (w' : List D) (x : SV), acc = (t.map fun c => .int (c : Nat)) ∧ (∀ a ∈ t, a ≤ s.length) ∧ isW w' ∧ ρ = [.io w', .d (.tup (ts.map .str)), .d (.str s), x3, .own E, .un, x, .un, .un, .un, .un] ∧ junk x)
      (ρ := [.io w, .d (.tup (ts.map .str)), .d (.str s), x3, .own E, .un, .un, .un, .un, .un, .un]) (ρ1 := [.io w, .d (.tup (ts.map .str)), .d (.str s), x3, .own E, .un, .un, .un, .un, .un, .un]) (ds := (List.range 60).map fun i => .int (i : Nat))
      (by walk_at "ev"; rw [hr]; rfl) rfl (by rw [List.length_map, List.length_range]; decide) ⟨[], w, .un, rfl, (fun _ h => nomatch h), hw, rfl, .inl rfl⟩
      (fun i acc ρ d hp hf hd => by
        obtain ⟨t, w', x, rfl, tg, hw', rfl, hx⟩ := hp
        rw [List.getElem?_map] at hd
        cases e : (List.range 60)[i]? with
        | none => rw [e] at hd; cases hd
        | some y =>
          rw [e] at hd; cases hd
          obtain ⟨r, w3, e3, hw3, r0, r1⟩ := v_law_take (k := j) (by omega) hw' (m := (s.length : Nat)) (by omega) (by omega)
          obtain ⟨n, rfl⟩ : ∃ n : Nat, r = (n : Int) := ⟨r.toNat, (Int.toNat_of_nonneg r0).symm⟩
          refine ⟨some (.int (n : Nat)), [.io w3, .d (.tup (ts.map .str)), .d (.str s), x3, .own E, .un, .d (.int (y : Nat)), .un, .un, .un, .un], ?_, rfl, t ++ [n], w3, .d (.int (y : Nat)), by rw [List.map_append]; rfl, fun a ha => ?_, hw3, rfl, .inr ⟨_, rfl⟩⟩
          · clear hr d1
            walk_at "ev*"
          · rcases List.mem_append.mp ha with ha | ha
            · exact tg a ha
            · rw [List.mem_singleton.mp ha]; omega)
    have ec' : compV [6] _ _ [.io w, .d (.tup (ts.map .str)), .d (.str s), x3, .own E, .un, .un, .un, .un, .un, .un] = some (.fr (t.map fun c => .int (c : Nat)), [.io w', .d (.tup (ts.map .str)), .d (.str s), x3, .own E, .un, .un, .un, .un, .un, .un]) := ec
    refine ⟨t, w', ?_, hw', tg⟩
    clear ec hr
    walk_at "ev"
    rw [d1]
    walk_at "ev"
    rw [ec']
    walk_at "ev"
/-- one place to cut at -/
theorem r_cut (hj : 6 ≤ j) (h : ∀ t ∈ ts, okT t = true) (hl : ts.length ≤ 8) {w : List D} (x3 x5 x7 x8 : SV) (hx : (x5 = .un ∧ x7 = .un ∧ x8 = .un) ∨ ∃ a b c, x5 = .d a ∧ x7 = .d b ∧ x8 = .d c) (a : Nat) (ha : a ≤ (stm ts).length)
    {b : Ss} (hb : nthS b_law_right 5 = .for_ (.name 5) (itAt (nthS b_law_right 5)) b) :
    ∃ u v z, obn (evG (T.cfg (callF T j)) (.name 5) (.int (a : Nat)) [.io w, .d (.tup (ts.map .str)), .d (.str (stm ts)), x3, .own ((0 :: ends 0 ts).map fun n => .int (n : Nat)), x5, .un, x7, x8, .un, .un]) (fun p => evSs (T.cfg (callF T j)) b p.2) =
      some (.nx [.io w, .d (.tup (ts.map .str)), .d (.str (stm ts)), x3, .own ((0 :: ends 0 ts).map fun n => .int (n : Nat)), .d u, .un, .d v, .d z, .un, .un]) := by
  have hs := stm_le ts h hl
  injection hb with _ _ hb
  subst hb
  have e1 : cutL ((0 :: ends 0 ts).map fun n => D.int (n : Nat)) (some 1) none = (ends 0 ts).map fun n => .int (n : Nat) := cut_from _ 1
  have hE : (ends 0 ts).length ≤ SZ := by rw [ends_len]; exact Nat.le_trans hl (by decide)
  have hc : ∀ x7 x8 : SV, compV [10] (evI (T.cfg (callF T j)) (.of (.sli (.var 4) (.int 1) .absent))) (turnC (evG (T.cfg (callF T j)) (.name 10)) (evE (T.cfg (callF T j)) (.cmp .le (.var 10) (.var 5))) (evE (T.cfg (callF T j)) (.var 10)))
      [.io w, .d (.tup (ts.map .str)), .d (.str (stm ts)), x3, .own ((0 :: ends 0 ts).map fun n => .int (n : Nat)), .d (.int (a : Nat)), .un, x7, x8, .un, .un] =
      some (.fr (((ends 0 ts).filter fun e => decide (e ≤ a)).map fun n => .int (n : Nat)), [.io w, .d (.tup (ts.map .str)), .d (.str (stm ts)), x3, .own ((0 :: ends 0 ts).map fun n => .int (n : Nat)), .d (.int (a : Nat)), .un, x7, x8, .un, .un]) := fun x7 x8 => by
    refine compV_filter (ends 0 ts) (fun n => .int (n : Nat)) (fun n => .int (n : Nat)) (fun e => decide (e ≤ a)) ?_ rfl hE fun e _ => ⟨[.io w, .d (.tup (ts.map .str)), .d (.str (stm ts)), x3, .own ((0 :: ends 0 ts).map fun n => .int (n : Nat)), .d (.int (a : Nat)), .un, x7, x8, .un, .d (.int (e : Nat))], ?_, rfl, rfl⟩
    · generalize ((0 :: ends 0 ts).map fun n => D.int (n : Nat)) = E at *
      walk_at "ev"
      rw [e1]
    · generalize ((0 :: ends 0 ts).map fun n => D.int (n : Nat)) = E at *
      rw [turn_if _ _ _ _ _ _ rfl]
      walk_at "ev"
      rw [show decide ((e : Int) ≤ (a : Int)) = decide (e ≤ a) from decide_eq_decide.mpr (by omega)]
      cases decide (e ≤ a) <;> rfl
  have hm : (((ends 0 ts).filter fun e => decide (e ≤ a)).map fun n => D.int (n : Nat)).length = cnt ts a := by
    rw [List.length_map, cnt_ends ts 0 a (Nat.zero_le _)]; rfl
  have hm2 := cnt_le ts a
  have e2 : cutL (stm ts) none (some (a : Int)) = (stm ts).take a := cut_to _ a
  have e3 : cutL (ts.map D.str) none (some ((cnt ts a : Nat) : Int)) = (ts.take (cnt ts a)).map .str := by rw [cut_to, List.map_take]
  have e4 : L2.atI ((0 :: ends 0 ts).map fun n => D.int (n : Nat)) ((cnt ts a : Nat) : Int) = some (.int (lens (ts.take (cnt ts a)) : Nat)) := at_nat (by
    rw [List.getElem?_map, ends_at ts 0 (cnt ts a) hm2]
    show some (D.int ((0 + lens (ts.take (cnt ts a)) : Nat) : Int)) = _
    rw [Nat.zero_add])
  have fin : ∀ tail : List Nat, blank tail → tail.length ≤ 9 → dAdd (.str ((stm ts).take a)) (.str tail) = some (.d (.str ((stm ts).take a ++ tail))) ∧
      callF T j i_frames_in [.d (.str ((stm ts).take a ++ tail))] = some (.d (.tup [.tup ((ts.take (cnt ts a)).map .str), .int (lens (ts.take (cnt ts a)) : Nat)]), []) := fun tail hb hl9 => by
    have l1 : ((stm ts).take a).length ≤ 1648 := Nat.le_trans (List.length_take_le' _ _) hs
    refine ⟨add_str (by show _ ≤ 16777216; omega), ?_⟩
    have := v_frames_in (k := j) (by omega) ((stm ts).take a ++ tail) (by rw [List.length_append]; omega)
    rw [frs_cut ts a tail h hb] at this
    exact this
  obtain ⟨f1, f2⟩ := fin [] ⟨0, rfl⟩ (by decide)
  obtain ⟨g1, g2⟩ := fin (List.replicate 9 126) ⟨9, rfl⟩ (by decide)
  have m9 : dMul (.str [126]) (.int 9) = some (.d (.str (List.replicate 9 126))) := rfl
  have same := v_law_same 2 (.tup [.tup ((ts.take (cnt ts a)).map .str), .int (lens (ts.take (cnt ts a)) : Nat)]) (by
    show max _ (max 0 0) + 1 ≤ 2
    rw [dep_strs]; decide) (by
    show (decide (2 ≤ SZ) && (D.fine _ && (true && true))) = true
    rw [fine_strs _ (Nat.le_trans (List.length_take_le' _ _) (Nat.le_trans hl (by decide)))]; rfl) j (by omega)
  refine ⟨.int (a : Nat), .int (cnt ts a : Nat), .str (List.replicate 9 126), ?_⟩
  generalize ((0 :: ends 0 ts).map fun n => D.int (n : Nat)) = E at *
  generalize hF : (((ends 0 ts).filter fun e => decide (e ≤ a)).map fun n => D.int (n : Nat)) = F at *
  generalize hR : List.replicate 9 126 = nine at *
  generalize (stm ts).take a = st at *
  clear e1 hE hs hm2 ha fin hF hR hl h hj
  rcases hx with ⟨rfl, rfl, rfl⟩ | ⟨u, v, z, rfl, rfl, rfl⟩
  · walk_at "ev"
    rw [hc]
    walk_at "ev"
    rw [hm, m9]
    walk_at "ev"
    rw [forL_nx (ρ' := [.io w, .d (.tup (ts.map .str)), .d (.str (stm ts)), x3, .own E, .d (.int (a : Nat)), .un, .d (.int (cnt ts a : Nat)), .d (.str []), .un, .un]) (by
      clear hc
      walk_at "ev*")]
    rw [forL_nx (ρ' := [.io w, .d (.tup (ts.map .str)), .d (.str (stm ts)), x3, .own E, .d (.int (a : Nat)), .un, .d (.int (cnt ts a : Nat)), .d (.str nine), .un, .un]) (by
      clear hc
      walk_at "ev*")]
    rw [forL_nil]
    walk_at "ev"
  · walk_at "ev"
    rw [hc]
    walk_at "ev"
    rw [hm, m9]
    walk_at "ev"
    rw [forL_nx (ρ' := [.io w, .d (.tup (ts.map .str)), .d (.str (stm ts)), x3, .own E, .d (.int (a : Nat)), .un, .d (.int (cnt ts a : Nat)), .d (.str []), .un, .un]) (by
      clear hc
      walk_at "ev*")]
    rw [forL_nx (ρ' := [.io w, .d (.tup (ts.map .str)), .d (.str (stm ts)), x3, .own E, .d (.int (a : Nat)), .un, .d (.int (cnt ts a : Nat)), .d (.str nine), .un, .un]) (by
      clear hc
      walk_at "ev*")]
    rw [forL_nil]
    walk_at "ev"
end
section
variable {j : Nat} (ts : List (List Nat))
theorem r_S5 (hj : 6 ≤ j) (h : ∀ t ∈ ts, okT t = true) (hl : ts.length ≤ 8) {w : List D} (hw : isW w) (x3 : SV) :
    ∃ w' x5 x7 x8, isW w' ∧ junk x5 ∧ evS (T.cfg (callF T j)) (nthS b_law_right 5) [.io w, .d (.tup (ts.map .str)), .d (.str (stm ts)), x3, .own ((0 :: ends 0 ts).map fun n => .int (n : Nat)), .un, .un, .un, .un, .un, .un] =
      some (.nx [.io w', .d (.tup (ts.map .str)), .d (.str (stm ts)), x3, .own ((0 :: ends 0 ts).map fun n => .int (n : Nat)), x5, .un, x7, x8, .un, .un]) := by
  obtain ⟨as, w', ei, hw', ha⟩ := r_it ts hj hw (stm ts) (stm_le ts h hl) x3 ((0 :: ends 0 ts).map fun n => .int (n : Nat))
  obtain ⟨ρ', e, x5, x7, x8, hx, rfl⟩ := for_ind (G := T.cfg (callF T j)) (s := nthS b_law_right 5) (t := .name 5) (it := itAt (nthS b_law_right 5)) rfl
    (fun i ρ => ∃ x5 x7 x8 : SV, ((x5 = .un ∧ x7 = .un ∧ x8 = .un) ∨ ∃ a b c, x5 = .d a ∧ x7 = .d b ∧ x8 = .d c) ∧ ρ = [.io w', .d (.tup (ts.map .str)), .d (.str (stm ts)), x3, .own ((0 :: ends 0 ts).map fun n => .int (n : Nat)), x5, .un, x7, x8, .un, .un])
    ei ⟨.un, .un, .un, .inl ⟨rfl, rfl, rfl⟩, rfl⟩ (by
      intro i ρ d hp hd
      obtain ⟨x5, x7, x8, hx, rfl⟩ := hp
      rw [List.getElem?_map] at hd
      cases e : as[i]? with
      | none => rw [e] at hd; cases hd
      | some a =>
        rw [e] at hd; cases hd
        obtain ⟨u, v, z, e2⟩ := r_cut ts hj h hl (w := w') x3 x5 x7 x8 hx a (ha a (List.mem_of_getElem? e)) rfl
        exact ⟨_, e2, _, _, _, .inr ⟨u, v, z, rfl, rfl, rfl⟩, rfl⟩)
  refine ⟨w', x5, x7, x8, hw', ?_, e⟩
  rcases hx with ⟨rfl, _, _⟩ | ⟨a, _, _, rfl, _, _⟩
  · exact .inl rfl
  · exact .inr ⟨a, rfl⟩
theorem frs_len_le : ∀ (n : Nat) (x : List Nat), (fr n x).length ≤ n
  | 0, _ => Nat.le_refl _
  | n + 1, x => by
    unfold fr
    cases textAt x with
    | none => exact Nat.zero_le _
    | some t => exact Nat.succ_le_succ (frs_len_le n _)
theorem picks {c : D} (h : c ∈ [D.str [], .str [126], .str q_6, .str q_5, .str q_4, .str [57, 57, 57]]) : ∃ s : List Nat, c = .str s ∧ s.length ≤ 7 := by
  simp only [List.mem_cons, List.not_mem_nil, or_false] at h
  rcases h with rfl | rfl | rfl | rfl | rfl | rfl
  · exact ⟨_, rfl, by decide⟩
  · exact ⟨_, rfl, by decide⟩
  · exact ⟨_, rfl, by decide⟩
  · exact ⟨_, rfl, by decide⟩
  · exact ⟨_, rfl, by decide⟩
  · exact ⟨_, rfl, by decide⟩
theorem r_S6 (hj : 6 ≤ j) (s : List Nat) (hs : s.length ≤ 1648) {w : List D} (hw : isW w) (tx : D) (x3 x5 x7 x8 : SV) (hx : junk x5) (E : List D) :
    ∃ w' ρ', isW w' ∧ evS (T.cfg (callF T j)) (nthS b_law_right 6) [.io w, .d tx, .d (.str s), x3, .own E, x5, .un, x7, x8, .un, .un] = some (.nx (.io w' :: ρ')) := by
  have hr : rangeD [.int 12] = some ((List.range 12).map fun i => .int (i : Nat)) := range_1 (n := 12) (by decide)
  obtain ⟨ρ', e, w', x5, x6, x9, hw', hx5, hx, rfl⟩ := for_ind (G := T.cfg (callF T j)) (s := nthS b_law_right 6) rfl
    (fun i ρ => ∃ (w' : List D) (x5 x6 x9 : SV), isW w' ∧ junk x5 ∧ ((x6 = .un ∧ x9 = .un) ∨ ∃ a b, x6 = .d a ∧ x9 = .d b) ∧ ρ = [.io w', .d tx, .d (.str s), x3, .own E, x5, x6, x7, x8, x9, .un])
    (ρ := [.io w, .d tx, .d (.str s), x3, .own E, x5, .un, x7, x8, .un, .un]) (ρ1 := [.io w, .d tx, .d (.str s), x3, .own E, x5, .un, x7, x8, .un, .un]) (ds := (List.range 12).map fun i => .int (i : Nat))
    (by walk_at "ev"; rw [hr]; rfl) ⟨w, x5, .un, .un, hw, hx, .inl ⟨rfl, rfl⟩, rfl⟩ (by
      intro i ρ d hp hd
      obtain ⟨w', x5, x6, x9, hw', hx5, hx, rfl⟩ := hp
      rw [List.getElem?_map] at hd
      cases e : (List.range 12)[i]? with
      | none => rw [e] at hd; cases hd
      | some y =>
        rw [e] at hd; cases hd
        clear hr e
        obtain ⟨M, hM, hM0, hM1⟩ : ∃ M : Int, (if (s.length : Int) > 1 then (s.length : Int) else 1) = M ∧ 0 < M ∧ M < 1073741824 := by
          by_cases c : (s.length : Int) > 1
          · exact ⟨_, if_pos c, by omega, by omega⟩
          · exact ⟨_, if_neg c, by decide, by decide⟩
        obtain ⟨r, w1, e1, hw1, r0, r1⟩ := v_law_take (k := j) (by omega) hw' hM0 hM1
        obtain ⟨n, rfl⟩ : ∃ n : Nat, r = (n : Int) := ⟨r.toNat, (Int.toNat_of_nonneg r0).symm⟩
        obtain ⟨c, w2, e2, hw2, hc⟩ := v_law_pick_str (k := j) (by omega) hw1 (s := q_3) (by decide) (by decide)
        obtain ⟨c2, w3, e3, hw3, hc2⟩ := v_law_pick_lst (k := j) (by omega) hw2 (s := [D.str [], .str [126], .str q_6, .str q_5, .str q_4, .str [57, 57, 57]]) (by decide) (by decide)
        obtain ⟨z, rfl, hz⟩ := picks hc2
        have k1 : cutL s none (some (n : Int)) = s.take n := cut_to _ n
        have k2 : cutL s (some ((n : Int) + 1)) none = s.drop (n + 1) := cut_from _ (n + 1)
        have l1 : (s.take n).length ≤ 1648 := Nat.le_trans (List.length_take_le' _ _) hs
        have l2 : (s.drop (n + 1)).length ≤ 1648 := by rw [List.length_drop]; omega
        generalize s.take n = p at *
        generalize s.drop (n + 1) = q at *
        have a1 : dAdd (.str p) (.str [c]) = some (.d (.str (p ++ [c]))) := add_str (by show _ + 1 ≤ 16777216; omega)
        have a2 : dAdd (.str (p ++ [c])) (.str q) = some (.d (.str (p ++ [c] ++ q))) := add_str (by rw [List.length_append]; show _ + 1 + _ ≤ 16777216; omega)
        have a3 : dAdd (.str (p ++ [c] ++ q)) (.str z) = some (.d (.str (p ++ [c] ++ q ++ z))) := add_str (by rw [List.length_append, List.length_append]; show _ + 1 + _ + _ ≤ 16777216; omega)
        have lb : (p ++ [c] ++ q ++ z).length ≤ 5000 := by rw [List.length_append, List.length_append, List.length_append]; show _ + 1 + _ + _ ≤ 5000; omega
        generalize p ++ [c] ++ q ++ z = b at *
        have f1 := v_frames_in (k := j) (by omega) b (by omega)
        have f2 := v_law_frames_in (k := j) (by omega) b (by omega)
        have f3 := v_law_same 2 (.tup [.tup ((frs b).map .str), .int (lens (frs b) : Nat)]) (by
          show max _ (max 0 0) + 1 ≤ 2
          rw [dep_strs]; decide) (by
          show (decide (2 ≤ SZ) && (D.fine _ && (true && true))) = true
          rw [fine_strs (frs b) (Nat.le_trans (frs_len_le _ _) (by show b.length + 1 ≤ 16777216; omega))]; rfl) j (by omega)
        refine ⟨[.io w3, .d tx, .d (.str s), x3, .own E, .d (.int (n : Nat)), .d (.int (y : Nat)), x7, x8, .d (.str b), .un], ?_, w3, .d (.int (n : Nat)), .d (.int (y : Nat)), .d (.str b), hw3, .inr ⟨_, rfl⟩, .inr ⟨_, _, rfl, rfl⟩, rfl⟩
        clear lb l1 l2 hz hc hc2 r0 r1 hM0 hM1 hs hj
        rcases hx5 with rfl | ⟨u, rfl⟩
        · rcases hx with ⟨rfl, rfl⟩ | ⟨u2, v2, rfl, rfl⟩
          · walk_at "ev"; rw [hM, e1]; clear hM; walk_at "ev*"
          · walk_at "ev"; rw [hM, e1]; clear hM; walk_at "ev*"
        · rcases hx with ⟨rfl, rfl⟩ | ⟨u2, v2, rfl, rfl⟩
          · walk_at "ev"; rw [hM, e1]; clear hM; walk_at "ev*"
          · walk_at "ev"; rw [hM, e1]; clear hM; walk_at "ev*")
  exact ⟨w', _, hw', e⟩
theorem r_S7 (ρ : En) : evS (T.cfg (callF T j)) (nthS b_law_right 7) ρ = some (.rt (.d (.bl true)) ρ) := by
  simp only [b_law_right, nthS]
  walk_at "ev"
theorem v_law_right {k : Nat} (hk : 7 ≤ k) {w : List D} (hw : isW w) (h : ∀ t ∈ ts, okT t = true) (hl : ts.length ≤ 8) : ∃ w', callF T k i_law_right [.io w, .d (.tup (ts.map .str))] = some (.d (.bl true), [w']) ∧ isW w' := by
  obtain ⟨j, rfl, hj⟩ := up hk
  obtain ⟨x2, hx2, e2⟩ := r_S2 w ts hj h hl
  obtain ⟨x4, hx4, e4⟩ := r_S4 (j := j) w ts hl x2 hx2
  obtain ⟨w5, x5, x7, x8, hw5, hx5, e5⟩ := r_S5 ts hj h hl hw x4
  obtain ⟨w6, ρ6, hw6, e6⟩ := r_S6 hj (stm ts) (stm_le ts h hl) hw5 (.tup (ts.map .str)) x4 x5 x7 x8 hx5 ((0 :: ends 0 ts).map fun n => .int (n : Nat))
  refine ⟨w6, ?_, hw6⟩
  rw [call_eq (fn := f_law_right) rfl rfl]
  have ev : evSs (T.cfg (callF T j)) (dropS b_law_right 0) [.io w, .d (.tup (ts.map .str)), .un, .un, .un, .un, .un, .un, .un, .un, .un] = some (.rt (.d (.bl true)) (.io w6 :: ρ6)) := by
    rw [ss_step rfl (r_S0 w ts hj h hl), ss_step rfl (r_S1 w ts hj h hl), ss_step rfl e2, ss_step rfl (r_S3 w ts x2), ss_step rfl e4, ss_step rfl e5, ss_step rfl e6, ss_last rfl (r_S7 _)]
  have ev' : evSs (T.cfg (callF T j)) f_law_right.body (startE f_law_right.slots.length [.io w, .d (.tup (ts.map .str))]) = some (.rt (.d (.bl true)) (.io w6 :: ρ6)) := ev
  rw [ev']
  rfl
end
section
theorem forL_ob {G : Cfg} {t : Tg} {b : Ss} {d : D} {ds : List D} {ρ ρ' : En} (h : obn (evG G t d ρ) (fun p => evSs G b p.2) = some (.nx ρ')) : forL (fun d => bndS (evG G t d) fun _ => evSs G b) (d :: ds) ρ = forL (fun d => bndS (evG G t d) fun _ => evSs G b) ds ρ' :=
  forL_nx (by rw [bndS_obn]; exact h)
/-- one draw of texts, told right -/
theorem law_pair {j : Nat} (hj : 8 ≤ j) {w : List D} (hw : isW w) (s1 s2 s3 s4 : SV) (n m : Nat) (hn : n ≤ 8) (hm : 0 < m ∧ m ≤ 200) (s : D) (t : D) (x3 x4 : SV) (hx : (x3 = .un ∧ x4 = .un) ∨ ∃ a b, x3 = .d a ∧ x4 = .d b) {b : Ss} {tg : Tg} {it : It}
    (hb : nthS (match nthS b_law 0 with | .for_ _ _ b => b | _ => .nil) 1 = .for_ tg it b) :
    ∃ w' a c, isW w' ∧ obn (evG (T.cfg (callF T j)) tg (.tup [.int (n : Nat), .int (m : Nat)]) [.d s, .d t, .own w, x3, x4, .un]) (fun p => evSs (T.cfg (callF T j)) b p.2) =
      some (.nx [.d s, .d t, .own w', .d a, .d c, .un]) := by
  injection hb with h1 h2 h3
  subst h1 h2 h3
  have hr := range_1 (n := n) (Nat.le_trans hn (by decide))
  obtain ⟨ys, ρ', ec, ts, w', x, rfl, tl, tg, hw', rfl, hx5⟩ := compV_ind (own := [5]) (it := evI (T.cfg (callF T j)) (.range (.cons (.var 3) .nil))) (f := turnC (evG (T.cfg (callF T j)) (.name 5)) (evE (T.cfg (callF T j)) .absent) (evE (T.cfg (callF T j)) (.call i_law_text (.cons (.var 2) (.cons (.var 4) .nil)))))
    (fun i acc ρ => ∃ (ts : List (List Nat)) (w' : List D) (x : SV), acc = ts.map .str ∧ ts.length = i ∧ (∀ t ∈ ts, okT t = true) ∧ isW w' ∧ ρ = [.d s, .d t, .own w', .d (.int (n : Nat)), .d (.int (m : Nat)), x] ∧ junk x)
    (ρ := [.d s, .d t, .own w, .d (.int (n : Nat)), .d (.int (m : Nat)), .un]) (ρ1 := [.d s, .d t, .own w, .d (.int (n : Nat)), .d (.int (m : Nat)), .un]) (ds := (List.range n).map fun i => .int (i : Nat))
    (by walk_at "ev"; rw [hr]; rfl) rfl (by rw [List.length_map, List.length_range]; exact Nat.le_trans hn (by decide)) ⟨[], w, .un, rfl, rfl, (fun _ h => nomatch h), hw, rfl, .inl rfl⟩
    (fun i acc ρ d hp hf hd => by
      obtain ⟨ts, w', x, rfl, tl, tg, hw', rfl, hx⟩ := hp
      rw [List.getElem?_map] at hd
      cases e : (List.range n)[i]? with
      | none => rw [e] at hd; cases hd
      | some y =>
        rw [e] at hd; cases hd
        obtain ⟨u, w3, e3, hw3, hu, hul⟩ := v_law_text (k := j) (by omega) hw' m hm.1 hm.2
        refine ⟨some (.str u), [.d s, .d t, .own w3, .d (.int (n : Nat)), .d (.int (m : Nat)), .d (.int (y : Nat))], ?_, rfl, ts ++ [u], w3, .d (.int (y : Nat)), by rw [List.map_append]; rfl, by rw [List.length_append, tl]; rfl, fun c' h => ?_, hw3, rfl, .inr ⟨_, rfl⟩⟩
        · clear hr
          walk_at "ev*"
        · rcases List.mem_append.mp h with h | h
          · exact tg c' h
          · rw [List.mem_singleton.mp h]; exact hu)
  rw [List.length_map, List.length_range] at tl
  obtain ⟨w2, e2, hw2⟩ := v_law_right (k := j) ts (by omega) hw' tg (by omega)
  have ec' : compV [5] _ _ [.d s, .d t, .own w, .d (.int (n : Nat)), .d (.int (m : Nat)), .un] = some (.fr (ts.map .str), [.d s, .d t, .own w', .d (.int (n : Nat)), .d (.int (m : Nat)), .un]) := ec
  refine ⟨w2, .int (n : Nat), .int (m : Nat), hw2, ?_⟩
  clear ec hr
  rcases hx with ⟨rfl, rfl⟩ | ⟨a, c, rfl, rfl⟩
  · walk_at "ev"
    rw [ec']
    walk_at "ev"
    rw [e2]
    walk_at "ev"
  · walk_at "ev"
    rw [ec']
    walk_at "ev"
    rw [e2]
    walk_at "ev"
theorem law_val (ns : List Int) (hl : ns.length ≤ 63) : callF T 12 i_law [.d (.lk ns)] = some (.d (.bl true), []) := by
  rw [call_eq (fn := f_law) rfl rfl]
  generalize hj : (11 : Nat) = j
  have hj : 8 ≤ j := by omega
  obtain ⟨n, hn0, hn1⟩ : ∃ n : Nat, (if (if (4 : Int) < (ns.length : Int) then (4 : Int) else (ns.length : Int)) > 2 then (if (4 : Int) < (ns.length : Int) then (4 : Int) else (ns.length : Int)) else 2) = (n : Int) ∧ n ≤ 4 := by
    by_cases c1 : (4 : Int) < (ns.length : Int)
    · rw [if_pos c1, if_pos (by decide)]; exact ⟨4, rfl, Nat.le_refl _⟩
    · rw [if_neg c1]
      by_cases c2 : (ns.length : Int) > 2
      · rw [if_pos c2]; exact ⟨ns.length, rfl, by omega⟩
      · rw [if_neg c2]; exact ⟨2, rfl, by decide⟩
  have hr := range_1 (n := n) (Nat.le_trans hn1 (by decide))
  obtain ⟨ρ', e, x1, x2, x3, x4, hx, rfl⟩ := for_ind (G := T.cfg (callF T j)) (s := nthS b_law 0) rfl
    (fun i ρ => ∃ x1 x2 x3 x4 : SV, ((x1 = .un ∧ x2 = .un ∧ x3 = .un ∧ x4 = .un) ∨ ∃ a w b c, x1 = .d a ∧ x2 = .own w ∧ x3 = .d b ∧ x4 = .d c) ∧ ρ = [.d (.lk ns), x1, x2, x3, x4, .un])
    (ρ := [.d (.lk ns), .un, .un, .un, .un, .un]) (ρ1 := [.d (.lk ns), .un, .un, .un, .un, .un]) (ds := (List.range n).map fun i => .int (i : Nat))
    (by walk_at "ev"; rw [hn0, hr]; rfl) ⟨.un, .un, .un, .un, .inl ⟨rfl, rfl, rfl, rfl⟩, rfl⟩ (by
      intro i ρ d hp hd
      obtain ⟨x1, x2, x3, x4, hx, rfl⟩ := hp
      rw [List.getElem?_map] at hd
      by_cases hi : i < n
      · rw [List.getElem?_range hi] at hd
        cases hd
        obtain ⟨w0, ew, hw0⟩ := v_law_well (k := j) (by omega) ns hl i (by omega)
        have x34 : (x3 = .un ∧ x4 = .un) ∨ ∃ a b, x3 = .d a ∧ x4 = .d b := by
          rcases hx with ⟨_, _, h3, h4⟩ | ⟨_, _, b, c, _, _, h3, h4⟩
          · exact .inl ⟨h3, h4⟩
          · exact .inr ⟨b, c, h3, h4⟩
        have pr := fun {w : List D} (hw : isW w) (n m : Nat) (hn : n ≤ 8) (hm : 0 < m ∧ m ≤ 200) (x3 x4 : SV) (hx) => law_pair hj hw .un .un .un .un n m hn hm (.lk ns) (.int (i : Nat)) x3 x4 hx rfl
        obtain ⟨w1, a1, c1, hw1, p1⟩ := pr hw0 0 1 (by decide) (by decide) x3 x4 x34
        obtain ⟨w2, a2, c2, hw2, p2⟩ := pr hw1 1 200 (by decide) (by decide) (.d a1) (.d c1) (.inr ⟨_, _, rfl, rfl⟩)
        obtain ⟨w3, a3, c3, hw3, p3⟩ := pr hw2 2 20 (by decide) (by decide) (.d a2) (.d c2) (.inr ⟨_, _, rfl, rfl⟩)
        obtain ⟨w4, a4, c4, hw4, p4⟩ := pr hw3 3 30 (by decide) (by decide) (.d a3) (.d c3) (.inr ⟨_, _, rfl, rfl⟩)
        obtain ⟨w5, a5, c5, hw5, p5⟩ := pr hw4 5 6 (by decide) (by decide) (.d a4) (.d c4) (.inr ⟨_, _, rfl, rfl⟩)
        obtain ⟨w6, a6, c6, hw6, p6⟩ := pr hw5 8 60 (by decide) (by decide) (.d a5) (.d c5) (.inr ⟨_, _, rfl, rfl⟩)
        refine ⟨[.d (.lk ns), .d (.int (i : Nat)), .own w6, .d a6, .d c6, .un], ?_, _, _, _, _, .inr ⟨_, _, _, _, rfl, rfl, rfl, rfl⟩, rfl⟩
        clear hr hn0 pr x34
        have fl : ∀ (w : List D) (x3 x4 : SV), True := fun _ _ _ => trivial
        have inner : evS (T.cfg (callF T j)) (nthS (match nthS b_law 0 with | .for_ _ _ b => b | _ => .nil) 1) [.d (.lk ns), .d (.int (i : Nat)),   .own w0, x3, x4, .un] = some (.nx [.d (.lk ns), .d (.int (i : Nat)), .own w6, .d a6, .d c6, .un]) := by
          show evS _ (.for_ _ _ _) _ = _
          rw [s_for]
          have hi2 : evI (T.cfg (callF T j)) (.of (.lst (.cons (.tup (.cons (.int 0) (.cons (.int 1) .nil))) (.cons (.tup (.cons (.int 1) (.cons (.int 200) .nil))) (.cons (.tup (.cons (.int 2) (.cons (.int 20) .nil))) (.cons (.tup (.cons (.int 3) (.cons (.int 30) .nil))) (.cons (.tup (.cons (.int 5) (.cons (.int 6) .nil))) (.cons (.tup (.cons (.int 8) (.cons (.int 60) .nil))) .nil)))))))) [.d (.lk ns), .d (.int (i : Nat)), .own w0, x3, x4, .un] =
            some ([.tup [.int (0 : Nat), .int (1 : Nat)], .tup [.int (1 : Nat), .int (200 : Nat)], .tup [.int (2 : Nat), .int (20 : Nat)], .tup [.int (3 : Nat), .int (30 : Nat)], .tup [.int (5 : Nat), .int (6 : Nat)], .tup [.int (8 : Nat), .int (60 : Nat)]], [.d (.lk ns), .d (.int (i : Nat)), .own w0, x3, x4, .un]) := by
            walk_at "ev"
            rfl
          rw [hi2, obn_some]
          rw [forL_ob p1, forL_ob p2, forL_ob p3, forL_ob p4, forL_ob p5, forL_ob p6, forL_nil]
        have inner' : evS (T.cfg (callF T j)) (.for_ _ _ _) _ = _ := inner
        rcases hx with ⟨rfl, rfl, rfl, rfl⟩ | ⟨a, w, b, c, rfl, rfl, rfl, rfl⟩
        · rw [g_name]
          show obn (some ((), ([.d (.lk ns), .d (.int (i : Nat)), .un, .un, .un, .un] : En))) _ = _
          rw [obn_some, s_cons]
          have h1 : evS (T.cfg (callF T j)) (.asg (.name 2) (.call i_law_well (.cons (.var 0) (.cons (.var 1) .nil)))) [.d (.lk ns), .d (.int (i : Nat)), .un, .un, .un, .un] = some (.nx [.d (.lk ns), .d (.int (i : Nat)), .own w0, .un, .un, .un]) := by
            walk_at "ev"
            rw [ew]
            walk_at "ev"
          rw [h1, fwd_nx, s_cons, inner', fwd_nx, s_nil]
        · rw [g_name]
          show obn (some ((), ([.d (.lk ns), .d (.int (i : Nat)), .own w, .d b, .d c, .un] : En))) _ = _
          rw [obn_some, s_cons]
          have h1 : evS (T.cfg (callF T j)) (.asg (.name 2) (.call i_law_well (.cons (.var 0) (.cons (.var 1) .nil)))) [.d (.lk ns), .d (.int (i : Nat)), .own w, .d b, .d c, .un] = some (.nx [.d (.lk ns), .d (.int (i : Nat)), .own w0, .d b, .d c, .un]) := by
            walk_at "ev"
            rw [ew]
            walk_at "ev"
          rw [h1, fwd_nx, s_cons, inner', fwd_nx, s_nil]
      · rw [List.getElem?_eq_none (by rw [List.length_range]; omega)] at hd
        cases hd)
  have h0 := v_check_number (k := j) (by omega) [] rfl
  have e7 : ∀ ρ : En, evS (T.cfg (callF T j)) (nthS b_law 1) ρ = some (.rt (.d (.bl true)) ρ) := fun ρ => by
    simp only [b_law, nthS]
    walk_at "ev"
    rw [h0]
    rfl
  have ev : evSs (T.cfg (callF T j)) (dropS b_law 0) [.d (.lk ns), .un, .un, .un, .un, .un] = some (.rt (.d (.bl true)) [.d (.lk ns), x1, x2, x3, x4, .un]) := by
    rw [ss_step rfl e, ss_last rfl (e7 _)]
  have ev' : evSs (T.cfg (callF T j)) f_law.body (startE f_law.slots.length [.d (.lk ns)]) = some (.rt (.d (.bl true)) [.d (.lk ns), x1, x2, x3, x4, .un]) := ev
  rw [ev']
  rfl
end
end Tb
/-! ## the head -/
namespace Tb
open Rm PySem PySem.Spec L2
def fa : List He.Fa := faOf T bltNames
def dl : List He.DefD := dsOf fns sts
def tb : List (Str × List He.Dv) := conTb con
abbrev lw : PySem.W.OpenRow := PySem.W.OpenLaw.row PySem.Challenge.rw_roadsmeet_k43_frames_cut_anywhere
abbrev hk : PySem.W.Hook := hookM 4 fa dl tb
def ob (s : PySem.W.SharedT) : AlM := obsMG 4 fa dl tb (HandSHeadRun.getT s)
theorem ob_eq (s : PySem.W.SharedT) : ob s = hk.obs s.abs := obsMG_eq (HandSHeadRun.getT_eq s)
def names : List Str := ((["StoreError", "InvalidText", "InvalidEntries", "is_text_of", "DIGITS", "SIGNS", "LONGEST_LINE", "is_lined", "check_text", "check_line", "MODULUS", "DIGITS_OF_PART", "HEAD", "MOST_TEXTS", "first_wrong_text", "check_of", "figures", "frame_of", "text_at", "frames_by", "stream_by", "check_filled_line", "check_texts", "check_number", "frame", "frames_in", "stream_of", "_law_well", "_law_take", "_law_pick"] : List PySem.Str) ++ (["_law_same", "_law_check", "_law_three", "_law_frame", "_law_is_signs", "_law_frames_in", "_law_text", "_law_right"] : List PySem.Str))
set_option maxHeartbeats 0 in
theorem run (w : World) : HandSHeadRun.RunEq lw (PySem.W.view lw.prog [45]) hk ob 2840 names w := by
  intro os
  kernel_rfl
theorem facts {P : Program} {w : World} {K : PySem.W.Frag} {h : Heap} {mg : Str → Option Value} {f : Addr} (X : K.In h) (G : h.Ns mainGlobals mg) (hfa : mg (sS "law") = some (.ref f)) (c : SaysM fa dl tb K) :
    ∃ fd : FuncData, (∀ (s : Shared) (v : Value), BindsTo s fd ⟨[v], []⟩ [(sS "script", v)]) ∧ ∀ base : Heap, K.In base → base.Ns mainGlobals mg → FnOk P w K mg base CX0 12 f fd [sS "script"] (spC K (callF T 12) 28 1) := by
  have gl : Globs K mg T := globs_of X G c bAll kAll cAll (by decide +kernel) (fun x hx => hx)
  obtain ⟨fd, hb, hS⟩ := law_stands X G c bAll kAll cAll gl (f := 28) (fn := f_law) rfl hfa (x := sS "script") rfl
  exact ⟨fd, hb, fun base _ _ => fnA_all gl 12 28 f_law f fd rfl hS⟩
end Tb

/-! ## the law -/
open PySem PySem.W PySem.Calls PyProof.Rows in
theorem PySem.Challenge.cw_roadsmeet_k43_frames_cut_anywhere_holds : PySem.Challenge.rw_roadsmeet_k43_frames_cut_anywhere.Holds := by
  w_on; o_law
  refine HandSHeadRun.head_any (r := Tb.lw) (q := view Tb.lw.prog [45]) (H := Tb.hk) (ob := Tb.ob) (M := 2840) (loose := Tb.names) (d := HandSHeadRun.topDef Tb.lw.prog 45) (kwd := []) Tb.ob_eq
    (by kernel_rfl) (fun s => by kernel_rfl) Tb.run (by kernel_rfl) (by kernel_rfl) (by kernel_rfl) (by rfl) (by first | assumption | decide +kernel) (by decide +kernel) ⟨rfl, rfl, rfl, rfl, rfl, by decide +kernel⟩ ?hw ?hc
  case hw => w_witness2
  case hc =>
    refine L2.walk_ofE (l := PySem.Challenge.rw_roadsmeet_k43_frames_cut_anywhere) (n := 63) (k := 12) (x := Rm.sS "script") (CX := L2.CX0) rfl (by decide) (by kernel_rfl) ⟨rfl, by decide, by decide⟩ ?F (fun _ _ _ _ z => z)
    intro w mg fa h Y G hmg0
    obtain ⟨K, KX, c⟩ := Y
    have hmg : mg (Rm.sS "law") = some (.ref fa) := by
      have e : (HandSHeadRun.topDef Tb.lw.prog 45).name = Rm.sS "law" := by kernel_rfl
      rw [← e]
      exact hmg0
    obtain ⟨fd, hb, hF⟩ := Tb.facts (P := (PySem.Challenge.rw_roadsmeet_k43_frames_cut_anywhere).prog) (w := w) KX G hmg c
    exact ⟨K, fd, Rm.spC K (Rm.callF Tb.T 12) 28 1, KX, hb, fun H a ns hl _ hS => Rm.law_sp hl hS (Tb.law_val ns hl), hF⟩

