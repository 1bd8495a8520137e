import PyProof.Rows.All
import HandS.ForMost
import KE.DataCmp
import PyProof.ReprReads
import HandS.TupAny
import HandS.TupLe
import HandS.IsInst
import HandS.Deep
import KE.DataMinMax
import KE.DataEq
import PyProof.SumWalkG
import PyProof.WalksMore
import KE.SortData
import PyProof.TupleOfSeq
import PyProof.Rows.ReprR
import KE.GoesNew
import KE.GoesEnum
import KE.GoesMore
import HandS.Star
import HandS.Flow
import KE.KDictZip
import PyProof.CollectWalk
import PyProof.ListNew
import HandS.Conv
import HandS.Call
import HandS.Words
import HandS.Defaults
import HandS.Ends
import HandS.HeadHook2
import HandS.Head0
import HandS.Head1
import HandS.Head2
import HandS.HeadEnd
import PySem.Challenge.RW_outandshut_k72_whole_floors_by_what_is_l
set_option Elab.async false
set_option linter.all false
section
set_option Elab.async false
set_option linter.all false
set_option maxRecDepth 100000
set_option maxHeartbeats 4000000
namespace Ev
open PySem PySem.Spec PyProof.Rows L2

/-! ### data of the evaluator -/
/-- a value: pure data, or a reference into the store -/
inductive D where
  | non | bl (b : Bool) | int (i : Int) | str (x : Str)
  | tup (xs : List D) | lst (xs : List D) | ref (k : Nat)
deriving Inhabited

/-- what can be changed: a list, dicts by ints and texts, dicts by tuples of such; fz: a list that stands still -/
inductive SO where
  | lst (xs : List D) | fz (xs : List D) | dK (kvs : List (Key × D)) | dT (kvs : List (List Key × D))
deriving Inhabited

/-- what a slot holds: a value; a thing of its own -/
inductive EV where
  | d (x : D) | own (so : SO)
deriving Inhabited

/-- what an expression gives: a value; the thing that a slot owns; a new thing -/
inductive RV where
  | d (x : D) | slot (i : Nat) | new (so : SO)
deriving Inhabited

structure SS where
  env : List (Option EV)
  st : List SO
deriving Inhabited

/-! ### how data stand in the heap -/
/-- a list that stands still -/
def FzL (H : Hp) (a : Addr) (vs : List V) : Prop := ∃ o, H a = some (.frz o (.lst vs))
theorem FzL.rd {H : Hp} {a : Addr} {vs : List V} (h : FzL H a vs) : Rd H a (.lst vs) := .inr h
theorem FzL.sq {K : PySem.W.Frag} {H : Hp} {a : Addr} {vs : List V} (h : FzL H a vs) : SqL K H a vs := .inl h.rd

mutual
inductive RD (K : PySem.W.Frag) (ι : List Addr) (H : Hp) : D → V → Prop
  | non : RD K ι H .non .non
  | bl (b : Bool) : RD K ι H (.bl b) (.bl b)
  | int (i : Int) : RD K ι H (.int i) (.int i)
  | str (x : Str) : RD K ι H (.str x) (.str x)
  | tup {a : Addr} {vs : List V} {ds : List D} : SqT K H a vs → RDs K ι H ds vs → RD K ι H (.tup ds) (.ref a)
  | lst {a : Addr} {vs : List V} {ds : List D} : FzL H a vs → RDs K ι H ds vs → RD K ι H (.lst ds) (.ref a)
  | ref {k : Nat} {a : Addr} : ι[k]? = some a → RD K ι H (.ref k) (.ref a)
inductive RDs (K : PySem.W.Frag) (ι : List Addr) (H : Hp) : List D → List V → Prop
  | nil : RDs K ι H [] []
  | cons {d : D} {v : V} {ds : List D} {vs : List V} : RD K ι H d v → RDs K ι H ds vs → RDs K ι H (d :: ds) (v :: vs)
end

/-- the heap's step: tuples and what stands still stay, the store grows -/
structure Stp (ι : List Addr) (H : Hp) (ι' : List Addr) (H' : Hp) : Prop where
  pre : ∃ e, ι' = ι ++ e
  tup : ∀ a xs, H a = some (.tup xs) → H' a = some (.tup xs)
  frz : ∀ a o u, H a = some (.frz o u) → H' a = some (.frz o u)
/-- .. and what is not of the store stays -/
structure Frm (ι : List Addr) (H : Hp) (ι' : List Addr) (H' : Hp) : Prop where
  stp : Stp ι H ι' H'
  fresh : ∀ a ∈ ι', a ∈ ι ∨ H a = none
  keep : ∀ a o, H a = some o → a ∉ ι → H' a = some o

section
variable {K : PySem.W.Frag} {ι ι' ι'' : List Addr} {H H' H'' : Hp}
theorem Stp.refl : Stp ι H ι H := ⟨⟨[], by simp⟩, fun _ _ h => h, fun _ _ _ h => h⟩
theorem Stp.trans (a : Stp ι H ι' H') (b : Stp ι' H' ι'' H'') : Stp ι H ι'' H'' := by
  obtain ⟨e, he⟩ := a.pre
  obtain ⟨e', he'⟩ := b.pre
  exact ⟨⟨e ++ e', by rw [he', he, List.append_assoc]⟩, fun x xs h => b.tup x xs (a.tup x xs h), fun x o u h => b.frz x o u (a.frz x o u h)⟩
theorem Stp.at (s : Stp ι H ι' H') {k : Nat} {a : Addr} (h : ι[k]? = some a) : ι'[k]? = some a := by
  obtain ⟨e, he⟩ := s.pre
  rw [he, List.getElem?_append_left (List.getElem?_eq_some_iff.mp h).1]
  exact h
theorem Stp.sqT (s : Stp ι H ι' H') {a : Addr} {vs : List V} (h : SqT K H a vs) : SqT K H' a vs := by
  rcases h with (h | ⟨o, h⟩) | h
  · exact .inl (.inl (s.tup _ _ h))
  · exact .inl (.inr ⟨o, s.frz _ _ _ h⟩)
  · exact .inr h
theorem Stp.fzL (s : Stp ι H ι' H') {a : Addr} {vs : List V} (h : FzL H a vs) : FzL H' a vs := let ⟨o, h⟩ := h; ⟨o, s.frz _ _ _ h⟩
mutual
theorem RD.mono (s : Stp ι H ι' H') : ∀ {d : D} {v : V}, RD K ι H d v → RD K ι' H' d v
  | _, _, .non => .non
  | _, _, .bl b => .bl b
  | _, _, .int i => .int i
  | _, _, .str x => .str x
  | _, _, .tup h r => .tup (s.sqT h) (RDs.mono s r)
  | _, _, .lst h r => .lst (s.fzL h) (RDs.mono s r)
  | _, _, .ref h => .ref (s.at h)
theorem RDs.mono (s : Stp ι H ι' H') : ∀ {ds : List D} {vs : List V}, RDs K ι H ds vs → RDs K ι' H' ds vs
  | _, _, .nil => .nil
  | _, _, .cons h r => .cons (RD.mono s h) (RDs.mono s r)
end
theorem RDs.length : ∀ {ds : List D} {vs : List V}, RDs K ι H ds vs → ds.length = vs.length
  | _, _, .nil => rfl
  | _, _, .cons _ r => by rw [List.length_cons, List.length_cons, RDs.length r]
theorem RDs.get : ∀ {ds : List D} {vs : List V} {i : Nat} {d : D}, RDs K ι H ds vs → ds[i]? = some d → ∃ v, vs[i]? = some v ∧ RD K ι H d v
  | _, _, _, _, .nil, e => by simp at e
  | _, _, 0, _, .cons h _, e => by simp at e; subst e; exact ⟨_, rfl, h⟩
  | _, _, i + 1, d, .cons _ r, e => by
    obtain ⟨v, h1, h2⟩ := RDs.get (i := i) (d := d) r (by simpa using e)
    exact ⟨v, by simpa using h1, h2⟩
theorem RDs.getV {ds : List D} {vs : List V} {i : Nat} {v : V} (r : RDs K ι H ds vs) (e : vs[i]? = some v) : ∃ d, ds[i]? = some d ∧ RD K ι H d v := by
  have hi : i < ds.length := by rw [r.length]; exact (List.getElem?_eq_some_iff.mp e).1
  obtain ⟨v', h1, h2⟩ := r.get (List.getElem?_eq_getElem hi)
  rw [e] at h1; cases h1
  exact ⟨_, List.getElem?_eq_getElem hi, h2⟩
theorem RDs.append : ∀ {ds es : List D} {vs ws : List V}, RDs K ι H ds vs → RDs K ι H es ws → RDs K ι H (ds ++ es) (vs ++ ws)
  | _, _, _, _, .nil, s => s
  | _, _, _, _, .cons h r, s => .cons h (RDs.append r s)
theorem RDs.drop : ∀ {ds : List D} {vs : List V} (n : Nat), RDs K ι H ds vs → RDs K ι H (ds.drop n) (vs.drop n)
  | _, _, 0, r => r
  | _, _, _ + 1, .nil => .nil
  | _, _, n + 1, .cons _ r => RDs.drop n r
theorem RDs.take : ∀ {ds : List D} {vs : List V} (n : Nat), RDs K ι H ds vs → RDs K ι H (ds.take n) (vs.take n)
  | _, _, 0, _ => .nil
  | _, _, _ + 1, .nil => .nil
  | _, _, n + 1, .cons h r => .cons h (RDs.take n r)
theorem RDs.set {d : D} {v : V} (h : RD K ι H d v) : ∀ {ds : List D} {vs : List V} (i : Nat), RDs K ι H ds vs → RDs K ι H (ds.set i d) (vs.set i v)
  | _, _, _, .nil => .nil
  | _, _, 0, .cons _ r => .cons h r
  | _, _, i + 1, .cons q r => .cons q (RDs.set h i r)
theorem RDs.dropLast : ∀ {ds : List D} {vs : List V}, RDs K ι H ds vs → RDs K ι H ds.dropLast vs.dropLast := fun {ds vs} r => by
  rw [List.dropLast_eq_take, List.dropLast_eq_take, ← r.length]; exact r.take _
theorem RDs.eraseIdx : ∀ {ds : List D} {vs : List V} (i : Nat), RDs K ι H ds vs → RDs K ι H (ds.eraseIdx i) (vs.eraseIdx i)
  | _, _, _, .nil => .nil
  | _, _, 0, .cons _ r => r
  | _, _, i + 1, .cons q r => .cons q (RDs.eraseIdx i r)
theorem RDs.replicate {ds : List D} {vs : List V} (r : RDs K ι H ds vs) : ∀ k : Nat, RDs K ι H (List.replicate k ds).flatten (List.replicate k vs).flatten
  | 0 => .nil
  | k + 1 => by rw [List.replicate_succ, List.replicate_succ, List.flatten_cons, List.flatten_cons]; exact r.append (RDs.replicate r k)
theorem RDs.reverse : ∀ {ds : List D} {vs : List V}, RDs K ι H ds vs → RDs K ι H ds.reverse vs.reverse
  | _, _, .nil => .nil
  | _, _, .cons h r => by rw [List.reverse_cons, List.reverse_cons]; exact (RDs.reverse r).append (.cons h .nil)
theorem RDs.nil_iff {ds : List D} {vs : List V} (r : RDs K ι H ds vs) : ds = [] ↔ vs = [] := by
  cases r <;> simp
theorem RDs.inv_cons {d : D} {ds : List D} {vs : List V} (r : RDs K ι H (d :: ds) vs) : ∃ v ws, vs = v :: ws ∧ RD K ι H d v ∧ RDs K ι H ds ws := by
  cases r with
  | cons h t => exact ⟨_, _, rfl, h, t⟩
theorem RDs.inv_nil {vs : List V} (r : RDs K ι H [] vs) : vs = [] := by cases r; rfl
end

/-- a dict's pairs -/
def RKs {κ : Type} (K : PySem.W.Frag) (ι : List Addr) (H : Hp) : List (κ × D) → List (κ × V) → Prop := Paired fun p q => p.1 = q.1 ∧ RD K ι H p.2 q.2
theorem RKs.mono {κ : Type} {K : PySem.W.Frag} {ι ι' : List Addr} {H H' : Hp} (s : Stp ι H ι' H') {l : List (κ × D)} {m : List (κ × V)} (r : RKs K ι H l m) : RKs K ι' H' l m :=
  Paired.mapP r fun _ _ h => ⟨h.1, h.2.mono s⟩

/-- a thing that can be changed, at a -/
def SoR (K : PySem.W.Frag) (ι : List Addr) (H : Hp) (a : Addr) : SO → Prop
  | .lst ds => ∃ vs, H a = some (.lst vs) ∧ RDs K ι H ds vs
  | .fz ds => ∃ o vs, H a = some (.frz o (.lst vs)) ∧ RDs K ι H ds vs
  | .dK kvs => ∃ m, H a = some (.dK m) ∧ RKs K ι H kvs m
  | .dT kvs => ∃ m, H a = some (.dT m) ∧ RKs K ι H kvs m
theorem SoR.there {K : PySem.W.Frag} {ι : List Addr} {H : Hp} {a : Addr} : ∀ {so : SO}, SoR K ι H a so → ∃ o, H a = some o
  | .lst _, ⟨_, h, _⟩ => ⟨_, h⟩
  | .fz _, ⟨_, _, h, _⟩ => ⟨_, h⟩
  | .dK _, ⟨_, h, _⟩ => ⟨_, h⟩
  | .dT _, ⟨_, h, _⟩ => ⟨_, h⟩
/-- the thing at a stays, the heap steps -/
theorem SoR.mono {K : PySem.W.Frag} {ι ι' : List Addr} {H H' : Hp} {a : Addr} (s : Stp ι H ι' H') (e : ∀ o, H a = some o → H' a = some o) : ∀ {so : SO}, SoR K ι H a so → SoR K ι' H' a so
  | .lst _, ⟨vs, h, r⟩ => ⟨vs, e _ h, r.mono s⟩
  | .fz _, ⟨o, vs, h, r⟩ => ⟨o, vs, e _ h, r.mono s⟩
  | .dK _, ⟨m, h, r⟩ => ⟨m, e _ h, r.mono s⟩
  | .dT _, ⟨m, h, r⟩ => ⟨m, e _ h, r.mono s⟩

/-- a def's frame: the written part, the store and the heap at its entry -/
structure G where
  K : PySem.W.Frag
  ι0 : List Addr
  H0 : Hp

structure Rel (g : G) (ι : List Addr) (ss : SS) (σ : L2.St) (H : Hp) : Prop where
  len : ss.env.length = σ.length
  dat : ∀ (i : Nat) (d : D), ss.env[i]? = some (some (EV.d d)) → ∃ v, σ[i]? = some (some v) ∧ RD g.K ι H d v
  own : ∀ (i : Nat) (so : SO), ss.env[i]? = some (some (EV.own so)) → ∃ a, σ[i]? = some (some (V.ref a)) ∧ SoR g.K ι H a so ∧ a ∉ ι ∧ g.H0 a = none
  ap : ∀ (i j : Nat) (a : Addr) (so so' : SO), ss.env[i]? = some (some (EV.own so)) → ss.env[j]? = some (some (EV.own so')) → σ[i]? = some (some (V.ref a)) → σ[j]? = some (some (V.ref a)) → i = j
  slen : ss.st.length = ι.length
  sto : ∀ (k : Nat) (so : SO), ss.st[k]? = some so → ∃ a, ι[k]? = some a ∧ SoR g.K ι H a so
  nd : ι.Nodup
  frm : Frm g.ι0 g.H0 ι H

/-- an address that a slot owns -/
def OwnA (ss : SS) (σ : L2.St) (a : Addr) : Prop := ∃ (i : Nat) (so : SO), ss.env[i]? = some (some (EV.own so)) ∧ σ[i]? = some (some (V.ref a))

def RRV (g : G) (ι : List Addr) (ss : SS) (σ : L2.St) (H : Hp) : RV → V → Prop
  | .d x, v => RD g.K ι H x v
  | .slot i, v => σ[i]? = some (some v)
  | .new so, v => ∃ a, v = .ref a ∧ SoR g.K ι H a so ∧ a ∉ ι ∧ g.H0 a = none ∧ ¬ OwnA ss σ a

/-- the heap only grew -/
def Ext (H H' : Hp) : Prop := ∀ a o, H a = some o → H' a = some o
theorem Ext.refl {H : Hp} : Ext H H := fun _ _ h => h
theorem Ext.trans {H H' H'' : Hp} (a : Ext H H') (b : Ext H' H'') : Ext H H'' := fun x o h => b x o (a x o h)
theorem Ext.new {H : Hp} {p : Addr} {o : HO} (hp : H p = none) : Ext H (upd H p o) := fun a u h => by rw [upd_ne (ne_of_none h hp)]; exact h
theorem Ext.stp {ι : List Addr} {H H' : Hp} (e : Ext H H') : Stp ι H ι H' := ⟨⟨[], by simp⟩, fun a _ h => e a _ h, fun a _ _ h => e a _ h⟩

section
variable {g : G} {ι ι' : List Addr} {ss : SS} {σ : L2.St} {H H' : Hp}
theorem Frm.refl : Frm ι H ι H := ⟨.refl, fun _ h => .inl h, fun _ _ h _ => h⟩
theorem Frm.stp' {ι0 : List Addr} {H0 : Hp} (f : Frm ι0 H0 ι H) (s : Stp ι H ι' H') (hf : ∀ a ∈ ι', a ∈ ι ∨ H a = none) (hk : ∀ a o, H a = some o → a ∉ ι → H0 a ≠ none → H' a = some o) : Frm ι0 H0 ι' H' := by
  refine ⟨f.stp.trans s, fun a ha => ?_, fun a o h hn => ?_⟩
  · rcases hf a ha with h | h
    · exact f.fresh a h
    · cases q : H0 a with
      | none => exact .inr rfl
      | some o =>
        by_cases hi : a ∈ ι0
        · exact .inl hi
        · rw [f.keep a o q hi] at h; cases h
  · have h1 := f.keep a o h hn
    refine hk a o h1 (fun z => ?_) (by rw [h]; simp)
    rcases f.fresh a z with q | q
    · exact hn q
    · rw [q] at h; cases h
theorem Frm.ext {ι0 : List Addr} {H0 : Hp} (f : Frm ι0 H0 ι H) (e : Ext H H') : Frm ι0 H0 ι H' := f.stp' e.stp (fun _ h => .inl h) fun a o h _ _ => e a o h
theorem Rel.ext (r : Rel g ι ss σ H) (e : Ext H H') : Rel g ι ss σ H' := by
  refine ⟨r.len, fun i d h => ?_, fun i so h => ?_, r.ap, r.slen, fun k so h => ?_, r.nd, r.frm.ext e⟩
  · obtain ⟨v, h1, h2⟩ := r.dat i d h; exact ⟨v, h1, h2.mono e.stp⟩
  · obtain ⟨a, h1, h2, h3⟩ := r.own i so h; exact ⟨a, h1, h2.mono e.stp (e a), h3⟩
  · obtain ⟨a, h1, h2⟩ := r.sto k so h; exact ⟨a, h1, h2.mono e.stp (e a)⟩
theorem RRV.ext {x : RV} {v : V} (r : RRV g ι ss σ H x v) (e : Ext H H') : RRV g ι ss σ H' x v := by
  cases x with
  | d x => exact RD.mono e.stp r
  | slot i => exact r
  | new so => obtain ⟨a, h1, h2, h3⟩ := r; exact ⟨a, h1, h2.mono e.stp (e a), h3⟩
theorem Rel.freshOwn (r : Rel g ι ss σ H) {p : Addr} (hp : H p = none) : ¬ OwnA ss σ p := fun ⟨i, so, h1, h2⟩ => by
  obtain ⟨a, q1, q2, _⟩ := r.own i so h1
  rw [h2] at q1; cases q1
  obtain ⟨o, ho⟩ := q2.there
  rw [hp] at ho; cases ho
theorem Rel.freshI (r : Rel g ι ss σ H) {p : Addr} (hp : H p = none) : p ∉ ι := fun hm => by
  obtain ⟨k, hk⟩ := List.getElem?_of_mem hm
  have hl : k < ss.st.length := by rw [r.slen]; exact (List.getElem?_eq_some_iff.mp hk).1
  obtain ⟨a, q1, q2⟩ := r.sto k _ (List.getElem?_eq_getElem hl)
  rw [hk] at q1; cases q1
  obtain ⟨o, ho⟩ := q2.there
  rw [hp] at ho; cases ho
theorem Rel.freshH (r : Rel g ι ss σ H) {p : Addr} (hp : H p = none) : g.H0 p = none := by
  cases q : g.H0 p with
  | none => rfl
  | some o =>
    by_cases hi : p ∈ g.ι0
    · obtain ⟨e, he⟩ := r.frm.stp.pre
      exact absurd (by rw [he]; exact List.mem_append_left _ hi) (r.freshI hp)
    · rw [r.frm.keep p o q hi] at hp; cases hp
/-- a new thing at a fresh place -/
theorem Rel.newV (r : Rel g ι ss σ H) {p : Addr} {o : HO} {so : SO} (hp : H p = none) (hs : SoR g.K ι (upd H p o) p so) : RRV g ι ss σ (upd H p o) (.new so) (.ref p) :=
  ⟨p, rfl, hs, r.freshI hp, r.freshH hp, r.freshOwn hp⟩

/-- what can be changed and is changed -/
theorem Stp.upd {a : Addr} {o : HO} (h : ∀ xs, H a ≠ some (.tup xs)) (h' : ∀ ob u, H a ≠ some (.frz ob u)) : Stp ι H ι (L2.upd H a o) :=
  ⟨⟨[], by simp⟩, fun b xs q => by rw [upd_ne (fun e => h xs (by rw [← e]; exact q))]; exact q, fun b ob u q => by rw [upd_ne (fun e => h' ob u (by rw [← e]; exact q))]; exact q⟩
/-- a thing that is open: no tuple, nothing that stands still -/
def Open (o : Option HO) : Prop := (∀ xs, o ≠ some (.tup xs)) ∧ ∀ ob u, o ≠ some (.frz ob u)
theorem Open.lst {xs : List V} : Open (some (.lst xs)) := ⟨fun _ q => (by cases q), fun _ _ q => (by cases q)⟩
theorem Open.dK {m : List (Key × V)} : Open (some (.dK m)) := ⟨fun _ q => (by cases q), fun _ _ q => (by cases q)⟩
theorem Open.dT {m : List (List Key × V)} : Open (some (.dT m)) := ⟨fun _ q => (by cases q), fun _ _ q => (by cases q)⟩
theorem Open.none : Open none := ⟨fun _ q => (by cases q), fun _ _ q => (by cases q)⟩
theorem Stp.op {a : Addr} {o : HO} (h : Open (H a)) : Stp ι H ι (L2.upd H a o) := Stp.upd h.1 h.2

/-- the thing of slot i is changed -/
theorem Rel.setOwn (r : Rel g ι ss σ H) {i : Nat} {a : Addr} {so : SO} {ev : EV} {o : HO} (hi : ss.env[i]? = some (some (.own so))) (hσ : σ[i]? = some (some (.ref a))) (hop : Open (H a))
    (hn : match ev with
      | .own so' => SoR g.K ι (upd H a o) a so'
      | .d x => RD g.K ι (upd H a o) x (.ref a)) : Rel g ι ⟨ss.env.set i (some ev), ss.st⟩ σ (upd H a o) := by
  have hlt : i < ss.env.length := (List.getElem?_eq_some_iff.mp hi).1
  obtain ⟨a', h1, hso, hni, hn0⟩ := r.own i so hi
  rw [hσ] at h1; cases h1
  have hs : Stp ι H ι (upd H a o) := Stp.op hop
  refine ⟨by simpa using r.len, fun j d h => ?_, fun j so' h => ?_, fun j k b s1 s2 h1 h2 h3 h4 => ?_, r.slen, fun k so' h => ?_, r.nd, ?_⟩
  · by_cases hj : i = j
    · subst hj
      rw [List.getElem?_set_self hlt] at h
      cases h
      exact ⟨_, hσ, hn⟩
    · rw [List.getElem?_set_ne hj] at h
      obtain ⟨v, q1, q2⟩ := r.dat j d h
      exact ⟨v, q1, q2.mono hs⟩
  · by_cases hj : i = j
    · subst hj
      rw [List.getElem?_set_self hlt] at h
      cases h
      exact ⟨_, hσ, hn, hni, hn0⟩
    · rw [List.getElem?_set_ne hj] at h
      obtain ⟨b, q1, q2, q3⟩ := r.own j so' h
      have hb : b ≠ a := fun e => hj (r.ap i j a so so' hi h hσ (e ▸ q1))
      exact ⟨b, q1, q2.mono hs (fun u q => by rw [upd_ne hb]; exact q), q3⟩
  · have key : ∀ {j : Nat} {s1 : SO}, (ss.env.set i (some ev))[j]? = some (some (.own s1)) → ∃ s1', ss.env[j]? = some (some (.own s1')) := fun {j s1} h => by
      by_cases hj : i = j
      · subst hj; exact ⟨_, hi⟩
      · rw [List.getElem?_set_ne hj] at h; exact ⟨_, h⟩
    obtain ⟨_, h1⟩ := key h1
    obtain ⟨_, h2⟩ := key h2
    exact r.ap j k b _ _ h1 h2 h3 h4
  · obtain ⟨b, q1, q2⟩ := r.sto k so' h
    have hb : b ≠ a := fun e => hni (by rw [← e]; exact List.mem_of_getElem? q1)
    exact ⟨b, q1, q2.mono hs (fun u q => by rw [upd_ne hb]; exact q)⟩
  · exact r.frm.stp' hs (fun _ h => .inl h) fun b u h _ hne => by
      rw [upd_ne (fun e => hne (by rw [e]; exact hn0))]; exact h
/-- the thing k of the store is changed -/
theorem Rel.setSto (r : Rel g ι ss σ H) {k : Nat} {a : Addr} {so' : SO} {o : HO} (hk : ι[k]? = some a) (hop : Open (H a)) (hn : SoR g.K ι (upd H a o) a so') : Rel g ι ⟨ss.env, ss.st.set k so'⟩ σ (upd H a o) := by
  have hkl : k < ss.st.length := by rw [r.slen]; exact (List.getElem?_eq_some_iff.mp hk).1
  have hs : Stp ι H ι (upd H a o) := Stp.op hop
  have hm : a ∈ ι := List.mem_of_getElem? hk
  refine ⟨r.len, fun j d h => ?_, fun j so h => ?_, r.ap, by simpa using r.slen, fun j so h => ?_, r.nd, ?_⟩
  · obtain ⟨v, q1, q2⟩ := r.dat j d h
    exact ⟨v, q1, q2.mono hs⟩
  · obtain ⟨b, q1, q2, q3, q4⟩ := r.own j so h
    have hb : b ≠ a := fun e => q3 (by rw [e]; exact hm)
    exact ⟨b, q1, q2.mono hs (fun u q => by rw [upd_ne hb]; exact q), q3, q4⟩
  · by_cases hj : k = j
    · subst hj
      have h : (ss.st.set k so')[k]? = some so := h
      rw [List.getElem?_set_self hkl] at h
      cases h
      exact ⟨a, hk, hn⟩
    · have h : (ss.st.set k so')[j]? = some so := h
      rw [List.getElem?_set_ne hj] at h
      obtain ⟨b, q1, q2⟩ := r.sto j so h
      have hb : b ≠ a := fun e => hj ((List.getElem?_inj (List.getElem?_eq_some_iff.mp hk).1 r.nd).mp (by rw [hk, q1, e]))
      exact ⟨b, q1, q2.mono hs (fun u q => by rw [upd_ne hb]; exact q)⟩
  · exact r.frm.stp' hs (fun _ h => .inl h) fun b u h hni _ => by
      rw [upd_ne (fun e => hni (by rw [e]; exact hm))]; exact h
/-- a new thing comes into the store -/
theorem Rel.push (r : Rel g ι ss σ H) {a : Addr} {so : SO} (hs : SoR g.K ι H a so) (hni : a ∉ ι) (hn0 : g.H0 a = none) (hno : ¬ OwnA ss σ a) : Rel g (ι ++ [a]) ⟨ss.env, ss.st ++ [so]⟩ σ H := by
  have st : Stp ι H (ι ++ [a]) H := ⟨⟨[a], rfl⟩, fun _ _ h => h, fun _ _ _ h => h⟩
  refine ⟨r.len, fun j d h => ?_, fun j so h => ?_, r.ap, by simp [r.slen], fun j so' h => ?_, ?_, ?_⟩
  · obtain ⟨v, q1, q2⟩ := r.dat j d h
    exact ⟨v, q1, q2.mono st⟩
  · obtain ⟨b, q1, q2, q3, q4⟩ := r.own j so h
    refine ⟨b, q1, q2.mono st (fun _ q => q), fun hm => ?_, q4⟩
    rcases List.mem_append.mp hm with hm | hm
    · exact q3 hm
    · have e : b = a := by simpa using hm
      subst e
      exact hno ⟨j, so, h, q1⟩
  · have h : (ss.st ++ [so])[j]? = some so' := h
    by_cases hj : j < ss.st.length
    · rw [List.getElem?_append_left hj] at h
      obtain ⟨b, q1, q2⟩ := r.sto j so' h
      exact ⟨b, st.at q1, q2.mono st (fun _ q => q)⟩
    · have hj' : j = ss.st.length := by
        have := (List.getElem?_eq_some_iff.mp h).1
        simp at this; omega
      subst hj'
      rw [List.getElem?_append_right (Nat.le_refl _)] at h
      simp at h
      subst h
      exact ⟨a, by rw [r.slen]; simp, hs.mono st (fun _ q => q)⟩
  · exact List.nodup_append.mpr ⟨r.nd, by simp, fun x hx y hy e => by
      have : y = a := by simpa using hy
      subst this; subst e; exact hni hx⟩
  · refine ⟨r.frm.stp.trans st, fun b hb => ?_, r.frm.keep⟩
    rcases List.mem_append.mp hb with hb | hb
    · exact r.frm.fresh b hb
    · have e : b = a := by simpa using hb
      subst e
      exact .inr hn0
/-- slot i is stored -/
theorem Rel.store (r : Rel g ι ss σ H) {i : Nat} {v : V} {ev : EV} (hi : i < σ.length)
    (hn : match ev with
      | .own so => ∃ a, v = .ref a ∧ SoR g.K ι H a so ∧ a ∉ ι ∧ g.H0 a = none ∧ ¬ OwnA ss σ a
      | .d x => RD g.K ι H x v) : Rel g ι ⟨ss.env.set i (some ev), ss.st⟩ (σ.set i (some v)) H := by
  have hlt : i < ss.env.length := by rw [r.len]; exact hi
  refine ⟨by simpa using r.len, fun j d h => ?_, fun j so' h => ?_, fun j k b s1 s2 h1 h2 h3 h4 => ?_, r.slen, r.sto, r.nd, r.frm⟩
  · by_cases hj : i = j
    · subst hj
      rw [List.getElem?_set_self hlt] at h
      cases h
      exact ⟨_, List.getElem?_set_self hi, hn⟩
    · rw [List.getElem?_set_ne hj] at h ⊢
      exact r.dat j d h
  · by_cases hj : i = j
    · subst hj
      rw [List.getElem?_set_self hlt] at h
      cases h
      obtain ⟨a, e, q⟩ := hn
      subst e
      exact ⟨a, List.getElem?_set_self hi, q.1, q.2.1, q.2.2.1⟩
    · rw [List.getElem?_set_ne hj] at h ⊢
      exact r.own j so' h
  · by_cases hj : i = j <;> by_cases hk : i = k
    · rw [← hj, ← hk]
    · subst hj
      rw [List.getElem?_set_self hlt] at h1
      cases h1
      obtain ⟨a, e, q⟩ := hn
      subst e
      rw [List.getElem?_set_self hi] at h3
      cases h3
      rw [List.getElem?_set_ne hk] at h2 h4
      exact absurd ⟨k, _, h2, h4⟩ q.2.2.2
    · subst hk
      rw [List.getElem?_set_self hlt] at h2
      cases h2
      obtain ⟨a, e, q⟩ := hn
      subst e
      rw [List.getElem?_set_self hi] at h4
      cases h4
      rw [List.getElem?_set_ne hj] at h1 h3
      exact absurd ⟨j, _, h1, h3⟩ q.2.2.2
    · rw [List.getElem?_set_ne hj] at h1 h3
      rw [List.getElem?_set_ne hk] at h2 h4
      exact r.ap j k b _ _ h1 h2 h3 h4
/-- slots forgotten -/
theorem Rel.forget (r : Rel g ι ss σ H) {env' : List (Option EV)} {σ' : L2.St} (hl : env'.length = σ'.length) (hs : ∀ (i : Nat) ev, env'[i]? = some (some ev) → ss.env[i]? = some (some ev) ∧ σ'[i]? = σ[i]?) : Rel g ι ⟨env', ss.st⟩ σ' H := by
  refine ⟨hl, fun i d h => ?_, fun i so h => ?_, fun i j a so so' h1 h2 h3 h4 => ?_, r.slen, r.sto, r.nd, r.frm⟩
  · obtain ⟨q1, q2⟩ := hs i _ h; rw [q2]; exact r.dat i d q1
  · obtain ⟨q1, q2⟩ := hs i _ h; rw [q2]; exact r.own i so q1
  · obtain ⟨q1, q2⟩ := hs i _ h1
    obtain ⟨q3, q4⟩ := hs j _ h2
    rw [q2] at h3; rw [q4] at h4
    exact r.ap i j a _ _ q1 q3 h3 h4
/-- a new thing stands still -/
theorem Rel.freeze {a : Addr} {vs : List V} (r : Rel g ι ss σ H) (ha : H a = some (.lst vs)) (hni : a ∉ ι) (hn0 : g.H0 a = none) (hno : ¬ OwnA ss σ a) (o : Obj) : Rel g ι ss σ (upd H a (.frz o (.lst vs))) := by
  have hs : Stp ι H ι (upd H a (.frz o (.lst vs))) := Stp.op (by rw [ha]; exact Open.lst)
  refine ⟨r.len, fun j d h => ?_, fun j so h => ?_, r.ap, r.slen, fun j so h => ?_, r.nd, ?_⟩
  · obtain ⟨v, q1, q2⟩ := r.dat j d h
    exact ⟨v, q1, q2.mono hs⟩
  · obtain ⟨b, q1, q2, q3⟩ := r.own j so h
    have hb : b ≠ a := fun e => hno ⟨j, so, h, e ▸ q1⟩
    exact ⟨b, q1, q2.mono hs (fun u q => by rw [upd_ne hb]; exact q), q3⟩
  · obtain ⟨b, q1, q2⟩ := r.sto j so h
    have hb : b ≠ a := fun e => hni (by rw [← e]; exact List.mem_of_getElem? q1)
    exact ⟨b, q1, q2.mono hs (fun u q => by rw [upd_ne hb]; exact q)⟩
  · exact r.frm.stp' hs (fun _ h => .inl h) fun b u h _ hne => by
      rw [upd_ne (fun e => hne (by rw [e]; exact hn0))]; exact h
end

/-! ### ghost steps: a list stands still from now on -/
inductive Gh (Q : Hp → Prop) : Hp → Prop
  | here {H : Hp} : Q H → Gh Q H
  | frz {H : Hp} (a : Addr) (vs : List V) : H a = some (.lst vs) → (∀ o, Gh Q (upd H a (.frz o (.lst vs)))) → Gh Q H
theorem Gh.inv {X : Cx} {pins : List (Addr × Obj)} {σ : L2.St} {s : Shared} {Q : Hp → Prop} {H : Hp} (h : Gh Q H) : Inv X pins σ H s → ∃ H', Inv X pins σ H' s ∧ Q H' := by
  induction h with
  | here q => exact fun I => ⟨_, I, q⟩
  | frz a vs ha _ ih =>
    intro I
    obtain ⟨o, I'⟩ := I.lock ha trivial
    exact ih o I'
theorem Gh.mono {Q Q' : Hp → Prop} {H : Hp} (h : Gh Q H) (f : ∀ H, Q H → Q' H) : Gh Q' H := by
  induction h with
  | here q => exact .here (f _ q)
  | frz a vs ha _ ih => exact .frz a vs ha ih
theorem Gh.bind {Q Q' : Hp → Prop} {H : Hp} (h : Gh Q H) (f : ∀ H, Q H → Gh Q' H) : Gh Q' H := by
  induction h with
  | here q => exact f _ q
  | frz a vs ha _ ih => exact .frz a vs ha ih
end Ev
end

section
set_option Elab.async false
set_option linter.all false
set_option maxRecDepth 100000
set_option maxHeartbeats 4000000
namespace Ev
open PySem PySem.Spec PyProof.Rows L2

/-! ### the evaluator's language -/
inductive Ty where
  | int | bool | str | tuple | list | dict
deriving DecidableEq, Inhabited
/-- built-in functions and types, called with plain arguments -/
inductive BI where
  | len | sum | min | max | all | any | sorted | tuple | list | int | abs | repr | str | dict | isI (t : Ty)
deriving DecidableEq, Inhabited
/-- methods that change their object; that don't -/
inductive MI where
  | append | extend | pop | setdefault
  | get | index | values
deriving DecidableEq, Inhabited

mutual
inductive E where
  | c (x : D) | v (i : Nat) | g (x : Str)
  | bin (o : Operator) (a b : E) | neg (a : E) | not (a : E) | and (a b : E) | or (a b : E)
  | cmp (o : CmpOp) (a b : E) | chn (o p : CmpOp) (a b c : E) | ite (t a b : E)
  | tup (xs : List E) | lst (xs : List E) | star (a : E)
  | idx (a b : E) | slc (a lo hi : E) | na
  | call (f : Str) (xs : List E) | bi (f : BI) (xs : List E) | mt (m : MI) (o : E) (xs : List E)
  | lc (own : List Nat) (t : T) (it : I) (ifs : List E) (elt : E)
  | heap (a : E)
  | coll (t : Bool) (it : I) | rev (a : E)
inductive I where
  | of (a : E) | range (xs : List E) | enum (a : E) | zip (xs : List E)
inductive T where
  | v (i : Nat) | tup (ts : List T) | idx (a b : E)
end
instance : Inhabited E := ⟨.na⟩
instance : Inhabited T := ⟨.v 0⟩
instance : Inhabited I := ⟨.of .na⟩

inductive S where
  | asg (t : T) (e : E) | own (i : Nat) (e : E) | par (is : List (Nat × Bool)) (es : List E)
  | aug (i : Nat) (o : Operator) (e : E)
  | ex (e : E) | ret (e : E) | retN | iff (c : E) (a b : List S) | for (t : T) (it : I) (body : List S) | whl (c : E) (body : List S)
  | pass | brk | cnt | nev
deriving Inhabited

/-! ### the monad -/
abbrev M (α : Type) := SS → Option (α × SS)
def ret {α : Type} (a : α) : M α := fun ss => some (a, ss)
def bnd {α β : Type} (m : M α) (f : α → M β) : M β := fun ss => match m ss with
  | some (a, ss') => f a ss'
  | none => none
def fail {α : Type} : M α := fun _ => none
def opt {α : Type} (o : Option α) : M α := fun ss => match o with
  | some a => some (a, ss)
  | none => none
theorem ret_eq {α : Type} (a : α) (ss : SS) : ret a ss = some (a, ss) := rfl
theorem bnd_some {α β : Type} {m : M α} {f : α → M β} {ss : SS} {b : β} {ss' : SS} (h : bnd m f ss = some (b, ss')) : ∃ a s1, m ss = some (a, s1) ∧ f a s1 = some (b, ss') := by
  unfold bnd at h
  cases e : m ss with
  | none => rw [e] at h; cases h
  | some p => rw [e] at h; exact ⟨p.1, p.2, rfl, h⟩
theorem bnd_of {α β : Type} {m : M α} {f : α → M β} {ss s1 : SS} {a : α} (h : m ss = some (a, s1)) : bnd m f ss = f a s1 := by
  unfold bnd; rw [h]
theorem opt_some {α : Type} {o : Option α} {ss ss' : SS} {a : α} (h : opt o ss = some (a, ss')) : o = some a ∧ ss' = ss := by
  unfold opt at h
  cases o with
  | none => cases h
  | some b => cases h; exact ⟨rfl, rfl⟩

/-! ### values resolved -/
inductive RA where
  | d (x : D) | own (so : SO) | rf (k : Nat) (so : SO)
deriving Inhabited
def resD (ss : SS) : D → Option RA
  | .ref k => (ss.st[k]?).map (RA.rf k)
  | x => some (.d x)
def res (ss : SS) : RV → Option RA
  | .d x => resD ss x
  | .slot i => match ss.env[i]? with
    | some (some (.own so)) => some (.own so)
    | some (some (.d x)) => resD ss x
    | _ => none
  | .new so => some (.own so)
def resAll (ss : SS) : List RV → Option (List RA)
  | [] => some []
  | x :: xs => match res ss x, resAll ss xs with
    | some a, some as => some (a :: as)
    | _, _ => none
def resDs (ss : SS) : List D → Option (List RA)
  | [] => some []
  | x :: xs => match resD ss x, resDs ss xs with
    | some a, some as => some (a :: as)
    | _, _ => none
/-- the items of a list or tuple -/
def SO.seq : SO → Option (List D)
  | .lst ds => some ds
  | .fz ds => some ds
  | _ => none
def RA.seq : RA → Option (List D)
  | .d (.tup ds) => some ds
  | .d (.lst ds) => some ds
  | .own so => so.seq
  | .rf _ so => so.seq
  | _ => none
/-- a list's items (no tuple's) -/
def RA.lseq : RA → Option (List D)
  | .d (.lst ds) => some ds
  | .own so => so.seq
  | .rf _ so => so.seq
  | _ => none
def LIM : Nat := 1000000

/-- as a value: a slot's list stands still from now on -/
def esc : RV → M D
  | .d x => ret x
  | .slot i => fun ss => match ss.env[i]? with
    | some (some (.own (.lst ds))) => some (.lst ds, ⟨ss.env.set i (some (.d (.lst ds))), ss.st⟩)
    | some (some (.d x)) => some (x, ss)
    | _ => none
  | .new (.lst ds) => ret (.lst ds)
  | .new _ => fail

/-! ### data -/
mutual
def D.py : D → PyData
  | .non => .none | .bl b => .bool b | .int i => .int i | .str x => .str x
  | .tup xs => .tuple (D.pys xs) | .lst xs => .list (D.pys xs) | .ref _ => .none
def D.pys : List D → List PyData
  | [] => []
  | x :: xs => D.py x :: D.pys xs
end
mutual
/-- no reference, and not too deep -/
def D.flat : Nat → D → Bool
  | _, .non => true | _, .bl _ => true | _, .int _ => true | _, .str _ => true
  | n + 1, .tup xs => D.flats n xs
  | n + 1, .lst xs => D.flats n xs
  | _, _ => false
def D.flats : Nat → List D → Bool
  | _, [] => true
  | n, x :: xs => D.flat n x && D.flats n xs
end
def DEEP : Nat := 40
mutual
def D.beq : D → D → Bool
  | .non, .non => true | .bl a, .bl b => a == b | .int a, .int b => decide (a = b) | .str a, .str b => decide (a = b)
  | .tup xs, .tup ys => D.beqs xs ys | .lst xs, .lst ys => D.beqs xs ys | .ref a, .ref b => a == b
  | _, _ => false
def D.beqs : List D → List D → Bool
  | [], [] => true
  | x :: xs, y :: ys => D.beq x y && D.beqs xs ys
  | _, _ => false
end
/-- the data of an argument, for ==, <, repr -/
def RA.dat : RA → Option D
  | .d x => some x
  | .own so => so.seq.map .lst
  | .rf _ so => so.seq.map .lst

def RA.isN : RA → Bool
  | .d .non => true
  | _ => false
def atD (xs : List D) (i : Int) : Option D := atI xs i
def cutD (xs : List D) (lo hi : Option Int) : List D := (xs.drop (HT.sIx xs.length 0 lo)).take (HT.sIx xs.length xs.length hi - HT.sIx xs.length 0 lo)

/-! ### operations -/
def binop (o : Operator) (x y : RA) : Option RV :=
  match o, x, y with
  | .Add, .d (.int i), .d (.int j) => some (.d (.int (i + j)))
  | .Sub, .d (.int i), .d (.int j) => some (.d (.int (i - j)))
  | .Mult, .d (.int i), .d (.int j) => if (-(2 ^ 64) < i ∧ i < 2 ^ 64) ∨ (-(2 ^ 64) < j ∧ j < 2 ^ 64) then some (.d (.int (i * j))) else none
  | .FloorDiv, .d (.int i), .d (.int j) => if 0 < j ∧ j < 1073741824 then some (.d (.int (i / j))) else none
  | .Mod, .d (.int i), .d (.int j) => if 0 < j then some (.d (.int (i % j))) else none
  | .Pow, .d (.int i), .d (.int j) => if 0 ≤ j ∧ j ≤ 100 ∧ i.natAbs < 2 ^ 1000 then some (.d (.int (i ^ j.toNat))) else none
  | .LShift, .d (.int i), .d (.int j) => if 0 ≤ j ∧ j ≤ 1000 ∧ i.natAbs < 2 ^ 64 then some (.d (.int (i * 2 ^ j.toNat))) else none
  | .BitOr, .d (.int i), .d (.int j) => some (.d (.int (Builtin.bitOr i j)))
  | .Add, .d (.str i), .d (.str j) => if i.length + j.length ≤ LIM then some (.d (.str (i ++ j))) else none
  | .Add, .d (.tup xs), .d (.tup ys) => if xs.length + ys.length ≤ LIM then some (.d (.tup (xs ++ ys))) else none
  | .Add, x, y => match x.lseq, y.lseq with
    | some xs, some ys => if xs.length + ys.length ≤ LIM then some (.new (.lst (xs ++ ys))) else none
    | _, _ => none
  | .Mult, x, .d (.int k) => match x.lseq with
    | some xs => if 0 ≤ k ∧ k ≤ LIM ∧ xs.length * k.toNat ≤ LIM then some (.new (.lst (List.replicate k.toNat xs).flatten)) else none
    | none => none
  | _, _, _ => none

def cmpInt (o : CmpOp) (i j : Int) : Option Bool :=
  match o with
  | .Lt => some (decide (i < j)) | .LtE => some (decide (i ≤ j)) | .Gt => some (decide (j < i)) | .GtE => some (decide (j ≤ i))
  | .Eq => some (decide (i = j)) | .NotEq => some (!decide (i = j))
  | _ => none
def D.isNon : D → Bool
  | .non => true | .ref _ => true | _ => false
/-- a == b, of data in which no truth value stands where the other has a number -/
def eqD (x y : D) : Option Bool := if D.flat DEEP x = true ∧ D.flat DEEP y = true then some (PyData.eqv x.py y.py) else none
def ltD (x y : D) : Option Bool := if D.flat DEEP x = true ∧ D.flat DEEP y = true ∧ PySem.W.alike x.py y.py = true ∧ x.isNon = false then some (PySem.W.dataLt x.py y.py) else none
def cmpop (o : CmpOp) (x y : RA) : Option Bool :=
  match o, x, y with
  | o, .d (.int i), .d (.int j) => cmpInt o i j
  | .Is, .d (.bl a), .d (.bl b) => some (decide (a = b))
  | .IsNot, .d (.bl a), .d (.bl b) => some (!decide (a = b))
  | .Is, x, .d .non => some x.isN
  | .IsNot, x, .d .non => some (!x.isN)
  | .Eq, x, y => match x.dat, y.dat with
    | some a, some b => eqD a b
    | _, _ => none
  | .NotEq, x, y => match x.dat, y.dat with
    | some a, some b => (eqD a b).map (!·)
    | _, _ => none
  | .Lt, x, y => match x.dat, y.dat with
    | some a, some b => ltD a b
    | _, _ => none
  | .In, x, y => match x.dat, y.seq with
    | some a, some bs => if D.flat DEEP a = true ∧ D.flats DEEP bs = true then some (bs.any fun b => PyData.eqv b.py a.py) else none
    | _, _ => none
  | .NotIn, x, y => match x.dat, y.seq with
    | some a, some bs => if D.flat DEEP a = true ∧ D.flats DEEP bs = true then some (!bs.any fun b => PyData.eqv b.py a.py) else none
    | _, _ => none
  | _, _, _ => none
def truth : RA → Option Bool
  | .d .non => some false
  | .d (.bl b) => some b
  | .d (.int i) => some (i != 0)
  | x => match x.seq with
    | some ds => some (!ds.isEmpty)
    | none => none
def idxop (x y : RA) : Option D :=
  match x.seq, y with
  | some ds, .d (.int i) => atD ds i
  | _, _ => none
def slcop (x : RA) (lo hi : Option Int) : Option RV :=
  match x with
  | .d (.tup ds) => some (.d (.tup (cutD ds lo hi)))
  | x => match x.lseq with
    | some ds => some (.new (.lst (cutD ds lo hi)))
    | none => none
/-- t[::-1] -/
def revop (x : RA) : Option RV :=
  match x with
  | .d (.tup ds) => some (.d (.tup ds.reverse))
  | _ => none
def D.ints? : List D → Option (List Int)
  | [] => some []
  | .int i :: r => (D.ints? r).map (i :: ·)
  | _ :: _ => none
def D.bls? : List D → Option (List Bool)
  | [] => some []
  | .bl b :: r => (D.bls? r).map (b :: ·)
  | _ :: _ => none
def D.tyIs : Ty → RA → Option Bool
  | t, .d .non => some false
  | t, .d (.bl _) => some (t == .bool || t == .int)
  | t, .d (.int _) => some (t == .int)
  | t, .d (.str _) => some (t == .str)
  | t, .d (.tup _) => some (t == .tuple)
  | t, .d (.lst _) => some (t == .list)
  | _, _ => none
def alikeDs (ds : List D) : Bool := ds.all fun a => !a.isNon && ds.all fun b => PySem.W.alike a.py b.py
def D.isTup1 : D → Bool
  | .tup (_ :: _) => true
  | _ => false
def D.isTup : D → Bool
  | .tup _ => true
  | _ => false
def minB (x : D) (xs : List D) : D := xs.foldl (fun a y => if PySem.W.dataLt y.py a.py then y else a) x
def maxB (x : D) (xs : List D) : D := xs.foldl (fun a y => if PySem.W.dataLt a.py y.py then y else a) x
def leB (a b : D) : Bool := !PySem.W.dataLt b.py a.py
def biop (f : BI) (xs : List RA) : Option RV :=
  match f, xs with
  | .min, [x] => match x.seq with
    | some (d :: ds) => if D.flats DEEP (d :: ds) = true ∧ alikeDs (d :: ds) = true then some (.d (minB d ds)) else none
    | _ => none
  | .max, [x] => match x.seq with
    | some (d :: ds) => if D.flats DEEP (d :: ds) = true ∧ alikeDs (d :: ds) = true then some (.d (maxB d ds)) else none
    | _ => none
  | .sorted, [x] => match x.seq with
    | some ds => if D.flats DEEP ds = true ∧ alikeDs ds = true ∧ (ds.all D.isTup1 = true ∨ ds.all (fun d => !d.isTup) = true) ∧ ds.length ≤ LIM then some (.new (.lst (ds.mergeSort leB))) else none
    | _ => none
  | .repr, [x] => match x.dat with
    | some d => if D.flat DEEP d = true ∧ d.py.showable = true ∧ d.py.shown.length ≤ LIM then some (.d (.str d.py.shown)) else none
    | none => none
  | .len, [x] => match x.seq with
    | some ds => some (.d (.int ds.length))
    | none => none
  | .sum, [x] => match x.seq with
    | some ds => match D.ints? ds with
      | some is => some (.d (.int is.sum))
      | none => none
    | none => none
  | .all, [x] => match x.lseq with
    | some ds => match D.bls? ds with
      | some bs => some (.d (.bl (bs.all id)))
      | none => none
    | none => none
  | .any, [x] => match x.lseq with
    | some ds => match D.bls? ds with
      | some bs => some (.d (.bl (bs.any id)))
      | none => none
    | none => none
  | .max, [.d (.int i), .d (.int j)] => some (.d (.int (if j > i then j else i)))
  | .min, [.d (.int i), .d (.int j)] => some (.d (.int (if j < i then j else i)))
  | .tuple, [x] => match x.seq with
    | some ds => some (.d (.tup ds))
    | none => none
  | .list, [x] => match x.seq with
    | some ds => some (.new (.lst ds))
    | none => none
  | .int, [.d (.int i)] => some (.d (.int i))
  | .int, [.d (.bl b)] => some (.d (.int (if b then 1 else 0)))
  | .abs, [.d (.int i)] => some (.d (.int (if i < 0 then -i else i)))
  | .isI t, [x] => (D.tyIs t x).map fun b => .d (.bl b)
  | _, _ => none
/-- a method that changes its list -/
def mtop (m : MI) (so : SO) (as : List D) (rs : List RA) : Option (D × SO) :=
  match m, so, as, rs with
  | .append, .lst ds, [x], _ => if ds.length < LIM then some (.non, .lst (ds ++ [x])) else none
  | .extend, .lst ds, _, [r] => match r.lseq with
    | some es => if ds.length + es.length ≤ LIM then some (.non, .lst (ds ++ es)) else none
    | none => none
  | .pop, .lst ds, [], _ => match ds[ds.length - 1]? with
    | some x => some (x, .lst ds.dropLast)
    | none => none
  | .pop, .lst ds, [.int i], _ => match (if ds.length ≤ LIM then ixN ds.length i else none) with
    | some j => match ds[j]? with
      | some x => some (x, .lst (ds.eraseIdx j))
      | none => none
    | none => none
  | _, _, _, _ => none

/-- a def's meaning: its arguments and the store; what it gives (a value or a new thing), the store -/
abbrev Den := List D → List SO → Option (RV × List SO)
structure Gam where
  fn : Str → Option Den
  con : Str → Option D

/-- the thing of a place is changed -/
def putAt (x : RV) (so : SO) : M Unit := fun ss => match x with
  | .slot i => match ss.env[i]? with
    | some (some (.own _)) => some ((), ⟨ss.env.set i (some (.own so)), ss.st⟩)
    | _ => none
  | .d (.ref k) => match ss.st[k]? with
    | some (.fz _) => none
    | some _ => some ((), ⟨ss.env, ss.st.set k so⟩)
    | none => none
  | _ => none
def soAt (x : RV) : M SO := fun ss => match x with
  | .slot i => match ss.env[i]? with
    | some (some (.own so)) => some (so, ss)
    | _ => none
  | .d (.ref k) => match ss.st[k]? with
    | some so => some (so, ss)
    | none => none
  | _ => none
def rsv (x : RV) : M RA := fun ss => match res ss x with
  | some a => some (a, ss)
  | none => none
def rsvs (xs : List RV) : M (List RA) := fun ss => match resAll ss xs with
  | some a => some (a, ss)
  | none => none
def rsvDs (xs : List D) : M (List RA) := fun ss => match resDs ss xs with
  | some a => some (a, ss)
  | none => none
/-- the object's type fits the method -/
def MI.tyOk : MI → RA → Bool
  | .append, a | .extend, a | .pop, a | .index, a => a.lseq.isSome
  | _, .own (.dK _) | _, .own (.dT _) | _, .rf _ (.dK _) | _, .rf _ (.dT _) => true
  | _, _ => false
def kindM (m : MI) (x : RV) : M Unit := fun ss => match res ss x with
  | some a => if m.tyOk a = true then some ((), ss) else none
  | none => none
def getV (i : Nat) : M RV := fun ss => match ss.env[i]? with
  | some (some (.d x)) => some (.d x, ss)
  | some (some (.own _)) => some (.slot i, ss)
  | _ => none
def setV (i : Nat) (ev : EV) : M Unit := fun ss => if i < ss.env.length then some ((), ⟨ss.env.set i (some ev), ss.st⟩) else none
def asInt (a : RA) : Option Int := match a with
  | .d (.int i) => some i
  | _ => none
def wipeE (env : List (Option EV)) : List Nat → List (Option EV)
  | [] => env
  | v :: vs => (wipeE env vs).set v none
/-- the values at vs as they were (a thing is forgotten) -/
def backV (old : List (Option EV)) (v : Nat) : Option EV := match old[v]? with
  | some (some (.d x)) => some (.d x)
  | _ => none
def backE (old : List (Option EV)) (env : List (Option EV)) : List Nat → List (Option EV)
  | [] => env
  | v :: vs => (backE old env vs).set v (backV old v)
def enumD : Nat → List D → List D
  | _, [] => []
  | i, x :: xs => .tup [.int i, x] :: enumD (i + 1) xs
def zipD : List D → List D → List D
  | x :: xs, y :: ys => .tup [x, y] :: zipD xs ys
  | _, _ => []
def zipD3 : List D → List D → List D → List D
  | x :: xs, y :: ys, z :: zs => .tup [x, y, z] :: zipD3 xs ys zs
  | _, _, _ => []
def rangeD (lo : Int) (n : Nat) : List D := (List.range n).map fun (k : Nat) => .int (lo + (k : Int))
def small62 (i : Int) : Bool := decide (-(2 ^ 62) ≤ i ∧ i < 2 ^ 62)
def rangeI : List RA → Option (List D)
  | [.d (.int j)] => if small62 j then some (rangeD 0 j.toNat) else none
  | [.d (.int i), .d (.int j)] => if small62 i && small62 j then some (rangeD i (j - i).toNat) else none
  | _ => none

/-- a slice's part -/
def partI (e : E) (m : M RV) : M (Option Int) := match e with
  | .na => ret none
  | _ => bnd m fun x => match x with
    | .d (.int i) => ret (some i)
    | _ => fail
/-- the items one by one, into a new list; own: the block's own slots, forgotten behind each turn -/
def loopLc (own : List Nat) (body : D → M (Option D)) : List D → List D → M (List D)
  | [], acc => ret acc
  | x :: xs, acc => bnd (body x) fun o => bnd (fun ss => some ((), ⟨wipeE ss.env own, ss.st⟩)) fun _ => match o with
    | some d => if acc.length < LIM then loopLc own body xs (acc ++ [d]) else fail
    | none => loopLc own body xs acc

mutual
def ev (Γ : Gam) : E → M RV
  | .c x => ret (.d x)
  | .v i => getV i
  | .g x => opt ((Γ.con x).map .d)
  | .bin o a b => bnd (ev Γ a) fun x => bnd (ev Γ b) fun y => bnd (rsv x) fun p => bnd (rsv y) fun q => opt (binop o p q)
  | .neg a => bnd (ev Γ a) fun x => match x with
    | .d (.int i) => ret (.d (.int (-i)))
    | _ => fail
  | .not a => bnd (ev Γ a) fun x => bnd (rsv x) fun p => bnd (opt (truth p)) fun b => ret (.d (.bl (!b)))
  | .and a b => bnd (ev Γ a) fun x => match x with
    | .d (.bl true) => ev Γ b
    | .d (.bl false) => ret (.d (.bl false))
    | _ => fail
  | .or a b => bnd (ev Γ a) fun x => match x with
    | .d (.bl true) => ret (.d (.bl true))
    | .d (.bl false) => ev Γ b
    | _ => fail
  | .cmp o a b => bnd (ev Γ a) fun x => bnd (ev Γ b) fun y => bnd (rsv x) fun p => bnd (rsv y) fun q => bnd (opt (cmpop o p q)) fun k => ret (.d (.bl k))
  | .chn o p a b c => bnd (ev Γ a) fun x => bnd (ev Γ b) fun y => bnd (rsv x) fun x' => bnd (rsv y) fun y' => bnd (opt (cmpop o x' y')) fun k =>
      if k = true then bnd (ev Γ c) fun z => bnd (rsv y) fun y'' => bnd (rsv z) fun z' => bnd (opt (cmpop p y'' z')) fun k => ret (.d (.bl k)) else ret (.d (.bl false))
  | .ite t a b => bnd (evT Γ t) fun k => if k = true then ev Γ a else ev Γ b
  | .tup xs => bnd (evDs Γ xs) fun ds => if ds.length ≤ LIM then ret (.d (.tup ds)) else fail
  | .lst xs => bnd (evDs Γ xs) fun ds => if ds.length ≤ LIM then ret (.new (.lst ds)) else fail
  | .star _ => fail
  | .idx a b => bnd (ev Γ a) fun x => bnd (ev Γ b) fun y => bnd (rsv x) fun p => bnd (rsv y) fun q => bnd (opt (idxop p q)) fun d => ret (.d d)
  | .slc a lo hi => bnd (ev Γ a) fun x => bnd (partI lo (ev Γ lo)) fun l => bnd (partI hi (ev Γ hi)) fun h => bnd (rsv x) fun p => opt (slcop p l h)
  | .na => fail
  | .call f xs => bnd (evDs Γ xs) fun ds => fun ss => match Γ.fn f with
    | some den => match den ds ss.st with
      | some (r, st') => some (r, ⟨ss.env, st'⟩)
      | none => none
    | none => none
  | .bi f xs => bnd (evs Γ xs) fun rs => bnd (rsvs rs) fun as => opt (biop f as)
  | .mt m o xs => bnd (ev Γ o) fun r => bnd (kindM m r) fun _ => bnd (evDs Γ xs) fun ds => bnd (rsvDs ds) fun rs => bnd (soAt r) fun so => bnd (opt (mtop m so ds rs)) fun p => bnd (putAt r p.2) fun _ => ret (.d p.1)
  | .lc own t it ifs elt => bnd (evI Γ it) fun items => fun ss =>
      match loopLc own (fun x => bnd (asgT Γ t x) fun _ => bnd (evTs Γ ifs) fun k => if k = true then bnd (ev Γ elt) fun r => bnd (esc r) fun d => ret (some d) else ret none) items [] ⟨wipeE ss.env own, ss.st⟩ with
      | some (ds, ss') => some (.new (.lst ds), ⟨backE ss.env ss'.env own, ss'.st⟩)
      | none => none
  | .heap a => bnd (ev Γ a) fun x => match x with
    | .new so => fun ss => some (.d (.ref ss.st.length), ⟨ss.env, ss.st ++ [so]⟩)
    | _ => fail
  | .coll t it => bnd (evI Γ it) fun ds => if ds.length ≤ LIM then (if t = true then ret (.new (.lst ds)) else ret (.d (.tup ds))) else fail
  | .rev a => bnd (ev Γ a) fun x => bnd (rsv x) fun p => opt (revop p)
def evT (Γ : Gam) : E → M Bool
  | .not a => bnd (evT Γ a) fun b => ret (!b)
  | .and a b => bnd (evT Γ a) fun k => if k = true then evT Γ b else ret false
  | .or a b => bnd (evT Γ a) fun k => if k = true then ret true else evT Γ b
  | .ite t a b => bnd (evT Γ t) fun k => if k = true then evT Γ a else evT Γ b
  | .c x => bnd (ret (.d x)) fun x => bnd (rsv x) fun p => opt (truth p)
  | .v i => bnd (getV i) fun x => bnd (rsv x) fun p => opt (truth p)
  | .cmp o a b => bnd (ev Γ a) fun x => bnd (ev Γ b) fun y => bnd (rsv x) fun p => bnd (rsv y) fun q => opt (cmpop o p q)
  | .chn o p a b c => bnd (ev Γ a) fun x => bnd (ev Γ b) fun y => bnd (rsv x) fun x' => bnd (rsv y) fun y' => bnd (opt (cmpop o x' y')) fun k =>
      if k = true then bnd (ev Γ c) fun z => bnd (rsv y) fun y'' => bnd (rsv z) fun z' => opt (cmpop p y'' z') else ret false
  | .call f xs => bnd (evDs Γ xs) fun ds => bnd (fun ss => match Γ.fn f with
    | some den => match den ds ss.st with
      | some (r, st') => some (r, ⟨ss.env, st'⟩)
      | none => none
    | none => none) fun x => bnd (rsv x) fun p => opt (truth p)
  | .bi f xs => bnd (evs Γ xs) fun rs => bnd (rsvs rs) fun as => bnd (opt (biop f as)) fun x => bnd (rsv x) fun p => opt (truth p)
  | _ => fail
def evs (Γ : Gam) : List E → M (List RV)
  | [] => ret []
  | x :: xs => bnd (ev Γ x) fun r => bnd (evs Γ xs) fun rs => ret (r :: rs)
/-- as values, stars opened -/
def evDs (Γ : Gam) : List E → M (List D)
  | [] => ret []
  | .star a :: xs => bnd (ev Γ a) fun r => bnd (rsv r) fun p => bnd (opt p.seq) fun ds => bnd (evDs Γ xs) fun es => ret (ds ++ es)
  | x :: xs => bnd (ev Γ x) fun r => bnd (esc r) fun d => bnd (evDs Γ xs) fun ds => ret (d :: ds)
def evI (Γ : Gam) : I → M (List D)
  | .of a => bnd (ev Γ a) fun r => bnd (esc r) fun d => match d with
    | .tup ds => ret ds
    | .lst ds => ret ds
    | .str x => ret (x.cps.toList.map fun c => .str ⟨#[c]⟩)
    | .ref k => fun ss => match ss.st[k]? with
      | some (.fz ds) => some (ds, ss)
      | some (.lst ds) => some (ds, ⟨ss.env, ss.st.set k (.fz ds)⟩)
      | _ => none
    | _ => fail
  | .range xs => bnd (evs Γ xs) fun rs => bnd (rsvs rs) fun as => opt (rangeI as)
  | .enum a => bnd (ev Γ a) fun r => bnd (esc r) fun d => match d with
    | .tup ds => if ds.length ≤ LIM then ret (enumD 0 ds) else fail
    | .lst ds => if ds.length ≤ LIM then ret (enumD 0 ds) else fail
    | _ => fail
  | .zip xs => bnd (evDs Γ xs) fun ds => match ds with
    | [x, y] => match (RA.d x).seq, (RA.d y).seq with
      | some xs, some ys => ret (zipD xs ys)
      | _, _ => fail
    | [x, y, z] => match (RA.d x).seq, (RA.d y).seq, (RA.d z).seq with
      | some xs, some ys, some zs => ret (zipD3 xs ys zs)
      | _, _, _ => fail
    | _ => fail
def evTs (Γ : Gam) : List E → M Bool
  | [] => ret true
  | c :: cs => bnd (evT Γ c) fun k => if k = true then evTs Γ cs else ret false
def asgT (Γ : Gam) : T → D → M Unit
  | .v i, x => setV i (.d x)
  | .tup ts, x => match x with
    | .tup ds => if ds.length = ts.length then asgTs Γ ts ds else fail
    | _ => fail
  | .idx a b, x => bnd (ev Γ a) fun r => bnd (ev Γ b) fun y => bnd (rsv y) fun q => bnd (soAt r) fun so => match so, q with
    | .lst ds, .d (.int k) => match ixN ds.length k with
      | some j => putAt r (.lst (ds.set j x))
      | none => fail
    | _, _ => fail
def asgTs (Γ : Gam) : List T → List D → M Unit
  | [], _ => ret ()
  | t :: ts, d :: ds => bnd (asgT Γ t d) fun _ => asgTs Γ ts ds
  | _, _ => fail
end
end Ev
end

section
set_option Elab.async false
set_option linter.all false
set_option maxRecDepth 100000
set_option maxHeartbeats 4000000
namespace Ev
open PySem PySem.Spec PyProof.Rows L2

theorem lim_line : LIM ≤ sizeLine := by rw [sizeLine_eq]; decide

/-! ### resolved values in the heap -/
def RRA (K : PySem.W.Frag) (ι : List Addr) (H : Hp) : RA → V → Prop
  | .d x, v => RD K ι H x v
  | .own so, v => ∃ a, v = .ref a ∧ SoR K ι H a so
  | .rf k so, v => ∃ a, v = .ref a ∧ ι[k]? = some a ∧ SoR K ι H a so

/-- what an operation gives -/
def Out (K : PySem.W.Frag) (ι : List Addr) (H : Hp) (x : RV) (v : V) (H' : Hp) : Prop :=
  Ext H H' ∧ match x with
    | .d d => RD K ι H' d v
    | .new so => ∃ p, v = .ref p ∧ H p = none ∧ SoR K ι H' p so
    | .slot _ => False

def rB (K : PySem.W.Frag) (F : List RA → Option RV) : List V → Hp → VK → Prop := fun vs H Q => ∃ ι as x, Paired (RRA K ι H) as vs ∧ F as = some x ∧ ∀ v H', Out K ι H x v H' → Q v H'
def rO (K : PySem.W.Frag) (F : RA → RA → Option RV) : R2 := fun x y H Q => ∃ ι a b r, RRA K ι H a x ∧ RRA K ι H b y ∧ F a b = some r ∧ ∀ v H', Out K ι H r v H' → Q v H'

section
variable {K : PySem.W.Frag} {ι : List Addr} {H H' : Hp} {v : V} {ds : List D}
theorem Out.val {d : D} (h : RD K ι H d v) : Out K ι H (.d d) v H := ⟨.refl, h⟩
theorem Out.lst {vs : List V} {p : Addr} (hp : H p = none) (r : RDs K ι H ds vs) : Out K ι H (.new (.lst ds)) (.ref p) (upd H p (.lst vs)) :=
  ⟨.new hp, p, rfl, hp, vs, upd_same, r.mono (Ext.new hp).stp⟩
theorem Out.tup {vs : List V} {p : Addr} (hp : H p = none) (r : RDs K ι H ds vs) : Out K ι H (.d (.tup ds)) (.ref p) (upd H p (.tup vs)) :=
  ⟨.new hp, .tup (.inl (.inl upd_same)) (r.mono (Ext.new hp).stp)⟩
theorem SoR.seq {a : Addr} {so : SO} (h : SoR K ι H a so) (e : so.seq = some ds) : ∃ vs, Rd H a (.lst vs) ∧ RDs K ι H ds vs := by
  cases so with
  | lst xs => cases e; obtain ⟨vs, h1, h2⟩ := h; exact ⟨vs, .inl h1, h2⟩
  | fz xs => cases e; obtain ⟨o, vs, h1, h2⟩ := h; exact ⟨vs, .inr ⟨o, h1⟩, h2⟩
  | dK m => cases e
  | dT m => cases e
theorem RD.inv_tup (h : RD K ι H (.tup ds) v) : ∃ a vs, v = .ref a ∧ SqT K H a vs ∧ RDs K ι H ds vs := by cases h with | tup h r => exact ⟨_, _, rfl, h, r⟩
theorem RD.inv_lst (h : RD K ι H (.lst ds) v) : ∃ a vs, v = .ref a ∧ Rd H a (.lst vs) ∧ RDs K ι H ds vs := by cases h with | lst h r => exact ⟨_, _, rfl, h.rd, r⟩
theorem RD.inv_int {i : Int} (h : RD K ι H (.int i) v) : v = .int i := by cases h; rfl
theorem RD.inv_bl {i : Bool} (h : RD K ι H (.bl i) v) : v = .bl i := by cases h; rfl
theorem RD.inv_str {i : Str} (h : RD K ι H (.str i) v) : v = .str i := by cases h; rfl
theorem RD.inv_non (h : RD K ι H .non v) : v = .non := by cases h; rfl
theorem RD.inv_ref {k : Nat} (h : RD K ι H (.ref k) v) : ∃ a, v = .ref a ∧ ι[k]? = some a := by cases h with | ref h => exact ⟨_, rfl, h⟩
theorem RRA.lseq {a : RA} (h : RRA K ι H a v) (e : a.lseq = some ds) : ∃ p vs, v = .ref p ∧ Rd H p (.lst vs) ∧ RDs K ι H ds vs := by
  cases a with
  | d x =>
    cases x with
    | lst xs => cases e; exact RD.inv_lst h
    | _ => cases e
  | own so => obtain ⟨p, rfl, h⟩ := h; obtain ⟨vs, h1, h2⟩ := h.seq e; exact ⟨p, vs, rfl, h1, h2⟩
  | rf k so => obtain ⟨p, rfl, _, h⟩ := h; obtain ⟨vs, h1, h2⟩ := h.seq e; exact ⟨p, vs, rfl, h1, h2⟩
theorem RRA.seq {a : RA} (h : RRA K ι H a v) (e : a.seq = some ds) : ∃ p vs, v = .ref p ∧ (Rd H p (.lst vs) ∨ SqT K H p vs) ∧ RDs K ι H ds vs := by
  cases a with
  | d x =>
    cases x with
    | lst xs => cases e; obtain ⟨a, vs, e, q, r⟩ := RD.inv_lst h; exact ⟨a, vs, e, .inl q, r⟩
    | tup xs => cases e; obtain ⟨a, vs, e, q, r⟩ := RD.inv_tup h; exact ⟨a, vs, e, .inr q, r⟩
    | _ => cases e
  | own so => obtain ⟨p, rfl, h⟩ := h; obtain ⟨vs, h1, h2⟩ := h.seq e; exact ⟨p, vs, rfl, .inl h1, h2⟩
  | rf k so => obtain ⟨p, rfl, _, h⟩ := h; obtain ⟨vs, h1, h2⟩ := h.seq e; exact ⟨p, vs, rfl, .inl h1, h2⟩
theorem RRA.sq {p : Addr} {vs : List V} (h : Rd H p (.lst vs) ∨ SqT K H p vs) : SqL K H p vs ∨ SqT K H p vs := h.imp .inl id

/-! ### data -/
mutual
theorem RD.dp : ∀ {n : Nat} {d : D} {v : V}, RD K ι H d v → D.flat n d = true → Dp K H v d.py
  | _, _, _, .non, _ => .non
  | _, _, _, .bl b, _ => .bl b
  | _, _, _, .int i, _ => .int i
  | _, _, _, .str x, _ => .str x
  | 0, _, _, .tup h r, f => by simp [D.flat] at f
  | n + 1, .tup xs, _, .tup h r, f => by
    rw [D.py]
    exact .tup h (RDs.dp r (by simpa [D.flat] using f))
  | 0, _, _, .lst h r, f => by simp [D.flat] at f
  | n + 1, .lst xs, _, .lst h r, f => by
    rw [D.py]
    exact .lst h.sq (RDs.dp r (by simpa [D.flat] using f))
  | 0, _, _, .ref h, f => by simp [D.flat] at f
  | n + 1, _, _, .ref h, f => by simp [D.flat] at f
theorem RDs.dp : ∀ {n : Nat} {ds : List D} {vs : List V}, RDs K ι H ds vs → D.flats n ds = true → DpAll K H vs (D.pys ds)
  | _, _, _, .nil, _ => by rw [D.pys]; exact .nil
  | n, d :: ds, _, .cons h r, f => by
    rw [D.pys]
    have f' : D.flat n d = true ∧ D.flats n ds = true := by simpa [D.flats] using f
    exact .cons (RD.dp h f'.1) (RDs.dp r f'.2)
end
mutual
theorem D.flat_plain : ∀ (n : Nat) (d : D), D.flat n d = true → d.py.plain = true ∧ d.py.depth ≤ n
  | _, .non, _ => ⟨rfl, Nat.zero_le _⟩
  | _, .bl _, _ => ⟨rfl, Nat.zero_le _⟩
  | _, .int _, _ => ⟨rfl, Nat.zero_le _⟩
  | _, .str _, _ => ⟨rfl, Nat.zero_le _⟩
  | 0, .tup _, f => by simp [D.flat] at f
  | n + 1, .tup xs, f => by
    obtain ⟨h1, h2⟩ := D.flats_plain n xs (by simpa [D.flat] using f)
    exact ⟨by rw [D.py]; exact h1, by rw [D.py, PyData.depth]; exact Nat.succ_le_succ h2⟩
  | 0, .lst _, f => by simp [D.flat] at f
  | n + 1, .lst xs, f => by
    obtain ⟨h1, h2⟩ := D.flats_plain n xs (by simpa [D.flat] using f)
    exact ⟨by rw [D.py]; exact h1, by rw [D.py, PyData.depth]; exact Nat.succ_le_succ h2⟩
  | 0, .ref _, f => by simp [D.flat] at f
  | n + 1, .ref _, f => by simp [D.flat] at f
theorem D.flats_plain : ∀ (n : Nat) (ds : List D), D.flats n ds = true → PyData.plainAll (D.pys ds) = true ∧ PyData.depthAll (D.pys ds) ≤ n
  | _, [], _ => ⟨rfl, Nat.zero_le _⟩
  | n, d :: ds, f => by
    have f' : D.flat n d = true ∧ D.flats n ds = true := by simpa [D.flats] using f
    obtain ⟨h1, h2⟩ := D.flat_plain n d f'.1
    obtain ⟨h3, h4⟩ := D.flats_plain n ds f'.2
    exact ⟨by rw [D.pys, PyData.plainAll, h1, h3]; rfl, by rw [D.pys, PyData.depthAll]; exact Nat.max_le.mpr ⟨h2, h4⟩⟩
end
theorem D.pys_map : ∀ ds : List D, D.pys ds = ds.map D.py
  | [] => by rw [D.pys]; rfl
  | d :: ds => by rw [D.pys, D.pys_map ds]; rfl
/-- an argument as data -/
theorem RRA.dp {a : RA} {d : D} {n : Nat} (h : RRA K ι H a v) (e : a.dat = some d) (f : D.flat n d = true) : Dp K H v d.py := by
  have key : ∀ {p : Addr} {so : SO}, SoR K ι H p so → so.seq.map D.lst = some d → Dp K H (.ref p) d.py := fun {p so} h e => by
    cases q : so.seq with
    | none => rw [q] at e; cases e
    | some xs =>
      rw [q] at e
      cases e
      obtain ⟨vs, h1, h2⟩ := h.seq q
      rw [D.py]
      cases n with
      | zero => simp [D.flat] at f
      | succ n => exact .lst (.inl h1) (h2.dp (by simpa [D.flat] using f))
  cases a with
  | d x => cases e; exact RD.dp h f
  | own so => obtain ⟨p, rfl, h⟩ := h; exact key h e
  | rf k so => obtain ⟨p, rfl, _, h⟩ := h; exact key h e
end

section
variable {X : Cx} {pins : List (Addr × Obj)} {σ : L2.St} {H : Hp} {s : Shared} {l : Addr} {xs : List V}
theorem Inv.lstR (I : Inv X pins σ H s) (h : Rd H l (.lst xs)) : xs.length ≤ sizeLine ∧ ∃ (its : List Value) (n : Nat), Vals xs its ∧ xs.length = its.length ∧ s.heap.get? l = some { cls := .type "list", data := .seq its.toArray n } := by
  obtain ⟨z, its, n, r, e⟩ := h.ok I.hok
  exact ⟨z, its, n, r, r.length, e⟩
theorem Inv.isT (I : Inv X pins σ H s) {vs : List V} (h : SqT X.K H l vs) : ∃ its : List Value, Vals vs its ∧ s.heap.IsTuple l its.toArray ∧ vs.length ≤ sizeLine := I.tuple h
end

/-! ### the operators -/
section
variable {X : Cx}
theorem cat_any {pins : List (Addr × Obj)} {s : Shared} {σ : L2.St} {H : Hp} {l b : Addr} {xs zs : List V} {Q : VK} (I : Inv X pins σ H s) (h1 : Rd H l (.lst xs)) (h2 : Rd H b (.lst zs)) (hz : xs.length + zs.length ≤ sizeLine)
    (q : ∀ p, H p = none → Q (.ref p) (upd H p (.lst (xs ++ zs)))) : wpAny (model X.prog X.w) X.A (binaryOp .Add (.ref l) (.ref b)) (EP X pins σ Q) X.xe s := by
  obtain ⟨z, its, n, r, hl, e⟩ := Inv.lstR I h1
  obtain ⟨z2, its2, n2, r2, hl2, e2⟩ := Inv.lstR I h2
  refine PySem.P.add_list e e2 ?_ (by rw [List.size_toArray, List.size_toArray]; omega)
  have ea : its.toArray ++ its2.toArray = (its ++ its2).toArray := by simp
  rw [ea]
  exact ⟨.ref _, _, I.lnew (t' := s.toks) (r.append r2) (by rw [List.length_append]; omega), rfl, q _ I.fresh⟩
theorem rep_any {pins : List (Addr × Obj)} {s : Shared} {σ : L2.St} {H : Hp} {l : Addr} {xs : List V} {k : Int} {t : Tok} {Q : VK} (I : Inv X pins σ H s) (hH : Rd H l (.lst xs)) (h1 : -(2 ^ 63) ≤ k) (h2 : k < 2 ^ 63) (hz : xs.length * k.toNat ≤ sizeLine)
    (q : ∀ p, H p = none → Q (.ref p) (upd H p (.lst (List.replicate k.toNat xs).flatten))) : wpAny (model X.prog X.w) X.A (binaryOp .Mult (.ref l) (.int k t)) (EP X pins σ Q) X.xe s := by
  obtain ⟨z, its, n, r, hl, e⟩ := Inv.lstR I hH
  have hlen : its.toArray.size * k.toNat ≤ sizeLine := by rw [List.size_toArray, ← hl]; exact hz
  have hcap : ¬ its.toArray.size * k.toNat > (2 ^ 63 - 1) / 8 := by
    have : (sizeLine : Nat) ≤ (2 ^ 63 - 1) / 8 := by decide
    omega
  have hfit : ¬ (!Builtin.List.listFitsIndex k) = true := by
    rw [fitsIndex_both h1 h2]
    exact Bool.false_ne_true
  have hlong : ¬ Builtin.List.listTooLong (its.toArray.size * k.toNat) = true := by
    rw [notLongL hlen]
    exact Bool.false_ne_true
  have hnew : List.foldl (fun x1 x2 => x1 ++ x2) #[] (List.replicate (if its.toArray.isEmpty = true then 0 else k.toNat) its.toArray) = (List.replicate k.toNat its).flatten.toArray := by
    have f0 : ∀ m : Nat, List.foldl (fun x1 x2 => x1 ++ x2) #[] (List.replicate m its.toArray) = (List.replicate m its).flatten.toArray := fun m => by
      have := foldl_rep its m []
      rw [List.nil_append] at this
      exact this
    rw [f0]
    cases its with
    | nil => simp
    | cons a r' => rw [if_neg (by simp)]
  refine wpAny_binaryOp_repeat_ref (T := "list") (U := "int") (by decide) ⟨_, e, rfl⟩ (fun s' => typeIs_int s' k t) noFill_list_mul F.fills_int_mul F.slot_int_rmul repeat_list F.slot_int_index.lookup
    (call_meets F.slot_int_rmul (typeIs_int s k t) F.entry_int_rmul (F.args_int_rmul_2 _ _) (int___rmul___int_list k t l its.toArray n)
      ⟨e, rfl, ⟨_, e, rfl⟩, call_meets F.slot_list_mul ⟨_, e, rfl⟩ F.entry_list_mul (F.args_list_mul_2 _ _) (AutoListH.list___mul___list_int_3 l its.toArray n k t hfit hcap hlong) ⟨e, ?_⟩⟩)
  rw [hnew]
  exact ⟨.ref _, _, I.lnew (t' := s.toks) (r.rep k.toNat) (by rw [PyProof.Rows.lm_len_rep_flat, Nat.mul_comm]; exact hz), rfl, q _ I.fresh⟩

theorem op_pow_any {pins : List (Addr × Obj)} {s : Shared} {σ : L2.St} {H : Hp} {i j : Int} {t u : Tok} {Q : VK} (I : Inv X pins σ H s) (h0 : 0 ≤ j) (h1 : j ≤ 100) (h2 : i.natAbs < 2 ^ 1000)
    (q : Q (.int (i ^ j.toNat)) H) : wpAny (model X.prog X.w) X.A (binaryOp .Pow (.int i t) (.int j u)) (EP X pins σ Q) X.xe s := by
  refine PyProof.Rows.pow_int h0 ?_ ⟨.int (i ^ j.toNat), H, I.tok _, ⟨_, rfl⟩, q⟩
  have hb : Builtin.Int.intBits i ≤ 1000 := by
    unfold Builtin.Int.intBits
    split
    · omega
    · have := PySem.Flt.log2_lt_of (by decide : 0 < 1000) h2
      omega
  have : (Builtin.Int.intBits i : Int) * j ≤ 1000 * 100 := Int.mul_le_mul (by omega) h1 h0 (by decide)
  omega

theorem op_bin (o : Operator) : OpR X (binaryOp o) (rO X.K (binop o)) := by
  intro pins s σ H x y v u Q I rx ry h
  obtain ⟨ι, a, b, r, ha, hb, hF, q⟩ := h
  unfold binop at hF
  split at hF
  · rename_i i j
    cases hF
    cases RD.inv_int ha; cases RD.inv_int hb
    exact op_add pins s σ H _ _ v u Q I rx ry ⟨i, j, rfl, rfl, q _ _ (.val (.int _))⟩
  · rename_i i j
    cases hF
    cases RD.inv_int ha; cases RD.inv_int hb
    exact op_sub pins s σ H _ _ v u Q I rx ry ⟨i, j, rfl, rfl, q _ _ (.val (.int _))⟩
  · rename_i i j
    split at hF
    · rename_i hc
      cases hF
      cases RD.inv_int ha; cases RD.inv_int hb
      exact op_mul pins s σ H _ _ v u Q I rx ry ⟨i, j, rfl, rfl, hc, q _ _ (.val (.int _))⟩
    · cases hF
  · rename_i i j
    split at hF
    · rename_i hc
      cases hF
      cases RD.inv_int ha; cases RD.inv_int hb
      exact op_fdiv pins s σ H _ _ v u Q I rx ry ⟨i, j, rfl, rfl, hc, q _ _ (.val (.int _))⟩
    · cases hF
  · rename_i i j
    split at hF
    · rename_i hc
      cases hF
      cases RD.inv_int ha; cases RD.inv_int hb
      exact op_mod pins s σ H _ _ v u Q I rx ry ⟨i, j, rfl, rfl, hc, q _ _ (.val (.int _))⟩
    · cases hF
  · rename_i i j
    split at hF
    · rename_i hc
      cases hF
      cases RD.inv_int ha; cases RD.inv_int hb
      obtain ⟨t, rfl⟩ := rx
      obtain ⟨t', rfl⟩ := ry
      exact op_pow_any I hc.1 hc.2.1 hc.2.2 (q _ _ (.val (.int _)))
    · cases hF
  · rename_i i j
    split at hF
    · rename_i hc
      cases hF
      cases RD.inv_int ha; cases RD.inv_int hb
      exact op_shl pins s σ H _ _ v u Q I rx ry ⟨i, j, rfl, rfl, ⟨hc.1, by omega, hc.2.2⟩, q _ _ (.val (.int _))⟩
    · cases hF
  · rename_i i j
    cases hF
    cases RD.inv_int ha; cases RD.inv_int hb
    exact op_or pins s σ H _ _ v u Q I rx ry ⟨i, j, rfl, rfl, q _ _ (.val (.int _))⟩
  · rename_i i j
    split at hF
    · rename_i hc
      cases hF
      cases RD.inv_str ha; cases RD.inv_str hb
      exact op_add_str pins s σ H _ _ v u Q I rx ry ⟨i, j, rfl, rfl, Nat.le_trans hc lim_line, q _ _ (.val (.str _))⟩
    · cases hF
  · rename_i xs ys
    split at hF
    · rename_i hc
      cases hF
      obtain ⟨p, vs, rfl, hp, r1⟩ := RD.inv_tup ha
      obtain ⟨p2, ws, rfl, hp2, r2⟩ := RD.inv_tup hb
      refine op_catA pins s σ H _ _ v u Q I rx ry ⟨p, p2, vs, ws, rfl, rfl, hp, hp2, by rw [← r1.length, ← r2.length]; exact Nat.le_trans hc lim_line, fun e => ?_, fun _ e => ?_, fun _ _ p hp => ?_⟩
      · have e1 := r1.nil_iff.mpr e
        subst e1
        exact q _ _ (.val (by rw [List.nil_append]; exact .tup hp2 r2))
      · have e1 := r2.nil_iff.mpr e
        subst e1
        exact q _ _ (.val (by rw [List.append_nil]; exact .tup hp r1))
      · exact q _ _ (.tup hp (r1.append r2))
    · cases hF
  · split at hF
    · rename_i xs ys hx hy
      split at hF
      · rename_i hc
        cases hF
        obtain ⟨p, vs, rfl, hp, r1⟩ := RRA.lseq ha hx
        obtain ⟨p2, ws, rfl, hp2, r2⟩ := RRA.lseq hb hy
        cases rx
        cases ry
        exact cat_any I hp hp2 (by rw [← r1.length, ← r2.length]; exact Nat.le_trans hc lim_line) fun p hp => q _ _ (.lst hp (r1.append r2))
      · cases hF
    · cases hF
  · rename_i k
    split at hF
    · rename_i xs hx
      split at hF
      · rename_i hc
        cases hF
        obtain ⟨p, vs, rfl, hp, r1⟩ := RRA.lseq ha hx
        cases RD.inv_int hb
        cases rx
        obtain ⟨t, rfl⟩ := ry
        have hl : (LIM : Int) = 1000000 := rfl
        exact rep_any I hp (by omega) (by omega) (by rw [← r1.length]; exact Nat.le_trans hc.2.2 lim_line) fun p hp => q _ _ (.lst hp (r1.replicate _))
      · cases hF
    · cases hF
  · cases hF
end
end Ev
end

section
set_option Elab.async false
set_option linter.all false
set_option maxRecDepth 100000
set_option maxHeartbeats 4000000
namespace Ev
open PySem PySem.Spec PyProof.Rows L2

/-- a comparison's answer -/
def rC (K : PySem.W.Frag) (F : RA → RA → Option Bool) : R2 := fun x y H Q => ∃ ι a b k, RRA K ι H a x ∧ RRA K ι H b y ∧ F a b = some k ∧ Q (.bl k) H
section
variable {X : Cx}
theorem non_iff {K : PySem.W.Frag} {ι : List Addr} {H : Hp} {a : RA} {v : V} (h : RRA K ι H a v) : a.isN = decide (v = .non) := by
  cases a with
  | d x =>
    cases x with
    | non => cases RD.inv_non h; rfl
    | bl b => cases RD.inv_bl h; rfl
    | int b => cases RD.inv_int h; rfl
    | str b => cases RD.inv_str h; rfl
    | tup b => obtain ⟨_, _, rfl, _⟩ := RD.inv_tup h; rfl
    | lst b => obtain ⟨_, _, rfl, _⟩ := RD.inv_lst h; rfl
    | ref b => obtain ⟨_, rfl, _⟩ := RD.inv_ref h; rfl
  | own so => obtain ⟨_, rfl, _⟩ := h; rfl
  | rf k so => obtain ⟨_, rfl, _⟩ := h; rfl
theorem pys_any (a : D) : ∀ bs : List D, (D.pys bs).any (fun b => PyData.eqv b a.py) = bs.any fun b => PyData.eqv b.py a.py
  | [] => by rw [D.pys]; rfl
  | b :: bs => by rw [D.pys, List.any_cons, List.any_cons, pys_any a bs]
theorem op_cmp (hu : X.A.units + 64 < cLine) (o : CmpOp) : OpR X (compareOp o) (rC X.K (cmpop o)) := by
  intro pins s σ H x y v u Q I rx ry h
  obtain ⟨ι, a, b, k, ha, hb, hF, q⟩ := h
  unfold cmpop at hF
  have seqIn : ∀ {d : D} {bs : List D}, b.seq = some bs → D.flats DEEP bs = true → ∃ as, (Reads s.heap u (.list (D.pys bs)) as ∨ Reads s.heap u (.tuple (D.pys bs)) as) := fun {d bs} e f => by
    obtain ⟨p, vs, rfl, hp, r⟩ := RRA.seq hb e
    have da := r.dp f
    rcases hp with hp | hp
    · obtain ⟨as, z⟩ := Dp.reads I (.list (D.pys bs)) _ _ (.lst (.inl hp) da) ry
      exact ⟨as, .inl z⟩
    · obtain ⟨as, z⟩ := Dp.reads I (.tuple (D.pys bs)) _ _ (.tup hp da) ry
      exact ⟨as, .inr z⟩
  have room : ∀ {d e : PyData}, d.depth ≤ DEEP → X.A.units + 1 + min e.depth d.depth < cLine := fun {d e} h => by
    have := Nat.min_le_right e.depth d.depth
    have : (DEEP : Nat) = 40 := rfl
    omega
  split at hF
  · rename_i o i j
    cases RD.inv_int ha; cases RD.inv_int hb
    unfold cmpInt at hF
    split at hF
    · cases hF; exact op_lt pins s σ H _ _ v u Q I rx ry ⟨i, j, rfl, rfl, q⟩
    · cases hF; exact op_le pins s σ H _ _ v u Q I rx ry ⟨i, j, rfl, rfl, q⟩
    · cases hF; exact op_gt pins s σ H _ _ v u Q I rx ry ⟨i, j, rfl, rfl, q⟩
    · cases hF; exact op_ge pins s σ H _ _ v u Q I rx ry ⟨i, j, rfl, rfl, q⟩
    · cases hF; exact op_eq pins s σ H _ _ v u Q I rx ry ⟨rfl, by rw [dec_int, Bool.beq_eq_decide_eq]; exact q⟩
    · cases hF; exact op_ne pins s σ H _ _ v u Q I rx ry ⟨rfl, by rw [dec_int, Bool.beq_eq_decide_eq]; exact q⟩
    · cases hF
  · rename_i i j
    cases hF
    cases RD.inv_bl ha; cases RD.inv_bl hb
    exact op_is_bl pins s σ H _ _ v u Q I rx ry ⟨i, j, rfl, rfl, q⟩
  · rename_i i j
    cases hF
    cases RD.inv_bl ha; cases RD.inv_bl hb
    exact op_isnot_bl pins s σ H _ _ v u Q I rx ry ⟨i, j, rfl, rfl, q⟩
  · cases RD.inv_non hb
    have e := non_iff ha
    refine op_isN pins s σ H _ _ v u Q I rx ry ⟨rfl, ?_⟩
    rw [← e, Option.some.inj hF]
    exact q
  · cases RD.inv_non hb
    have e := non_iff ha
    refine op_notN pins s σ H _ _ v u Q I rx ry ⟨rfl, ?_⟩
    rw [← e]
    rw [Option.some.inj hF]
    exact q
  · split at hF
    · rename_i d e hd he
      unfold eqD at hF
      split at hF
      · rename_i hc
        cases hF
        obtain ⟨as, r1⟩ := Dp.reads I _ _ _ (RRA.dp ha hd hc.1) rx
        obtain ⟨bs, r2⟩ := Dp.reads I _ _ _ (RRA.dp hb he hc.2) ry
        have p1 := D.flat_plain _ _ hc.1
        have p2 := D.flat_plain _ _ hc.2
        exact SeqAt.eq_plain r1 r2 p1.1 p2.1 (by have := room (e := d.py) p2.2; omega) ⟨.bl _, H, I, rfl, q⟩
      · cases hF
    · cases hF
  · split at hF
    · rename_i d e hd he
      unfold eqD at hF
      split at hF
      · rename_i hc
        cases hF
        obtain ⟨as, r1⟩ := Dp.reads I _ _ _ (RRA.dp ha hd hc.1) rx
        obtain ⟨bs, r2⟩ := Dp.reads I _ _ _ (RRA.dp hb he hc.2) ry
        have p1 := D.flat_plain _ _ hc.1
        have p2 := D.flat_plain _ _ hc.2
        exact SeqAt.ne_plain r1 r2 p1.1 p2.1 (by have := room (e := d.py) p2.2; omega) ⟨.bl _, H, I, rfl, q⟩
      · cases hF
    · cases hF
  · split at hF
    · rename_i d e hd he
      unfold ltD at hF
      split at hF
      · rename_i hc
        cases hF
        obtain ⟨as, r1⟩ := Dp.reads I _ _ _ (RRA.dp ha hd hc.1) rx
        obtain ⟨bs, r2⟩ := Dp.reads I _ _ _ (RRA.dp hb he hc.2.1) ry
        have p2 := D.flat_plain _ _ hc.2.1
        have hn : d.py ≠ PyData.none := by
          have := hc.2.2.2
          cases d with
          | non => cases this
          | ref => cases this
          | _ => intro z; simp [D.py] at z
        exact PySem.W.lt_data r1 r2 hc.2.2.1 hn (by have := room (e := d.py) p2.2; omega) ⟨.bl _, H, I, rfl, q⟩
      · cases hF
    · cases hF
  · split at hF
    · rename_i d bs hd hs
      split at hF
      · rename_i hc
        cases hF
        obtain ⟨as, r1⟩ := Dp.reads I _ _ _ (RRA.dp ha hd hc.1) rx
        have p1 := D.flat_plain _ _ hc.1
        have p2 := D.flats_plain _ _ hc.2
        rw [← pys_any] at q
        obtain ⟨cs, z | z⟩ := seqIn (d := d) hs hc.2
        · exact SeqAt.in_list_data z r1 p2.1 p1.1 (by have := Nat.min_le_right (PyData.depthAll (D.pys bs)) d.py.depth; have : (DEEP : Nat) = 40 := rfl; have := p1.2; omega) ⟨.bl _, H, I, rfl, q⟩
        · exact SeqAt.in_tuple_data z r1 p2.1 p1.1 (by have := Nat.min_le_right (PyData.depthAll (D.pys bs)) d.py.depth; have : (DEEP : Nat) = 40 := rfl; have := p1.2; omega) ⟨.bl _, H, I, rfl, q⟩
      · cases hF
    · cases hF
  · split at hF
    · rename_i d bs hd hs
      split at hF
      · rename_i hc
        cases hF
        obtain ⟨as, r1⟩ := Dp.reads I _ _ _ (RRA.dp ha hd hc.1) rx
        have p1 := D.flat_plain _ _ hc.1
        have p2 := D.flats_plain _ _ hc.2
        rw [← pys_any] at q
        obtain ⟨cs, z | z⟩ := seqIn (d := d) hs hc.2
        · exact SeqAt.notIn_list_data z r1 p2.1 p1.1 (by have := Nat.min_le_right (PyData.depthAll (D.pys bs)) d.py.depth; have : (DEEP : Nat) = 40 := rfl; have := p1.2; omega) ⟨.bl _, H, I, rfl, q⟩
        · exact SeqAt.notIn_tuple_data z r1 p2.1 p1.1 (by have := Nat.min_le_right (PyData.depthAll (D.pys bs)) d.py.depth; have : (DEEP : Nat) = 40 := rfl; have := p1.2; omega) ⟨.bl _, H, I, rfl, q⟩
      · cases hF
    · cases hF
  · cases hF

/-! ### truth -/
def rTru (K : PySem.W.Frag) : V → Hp → (Bool → Hp → Prop) → Prop := fun x H Q => ∃ ι a k, RRA K ι H a x ∧ truth a = some k ∧ Q k H
theorem truV_of {K : PySem.W.Frag} {ι : List Addr} {H : Hp} {a : RA} {v : V} {k : Bool} (h : RRA K ι H a v) (e : truth a = some k) : TruV K v H k := by
  have key : ∀ {ds : List D}, a.seq = some ds → k = !ds.isEmpty → TruV K v H k := fun {ds} e1 e2 => by
    obtain ⟨p, vs, rfl, hp, r⟩ := RRA.seq h e1
    have e3 : ds.isEmpty = vs.isEmpty := by cases r <;> rfl
    rcases hp with hp | hp
    · exact .inl ⟨vs, .inl hp, by rw [e2, e3]⟩
    · exact .inr (.inl ⟨vs, hp, by rw [e2, e3]⟩)
  unfold truth at e
  split at e
  · cases e; cases RD.inv_non h; rfl
  · cases e; cases RD.inv_bl h; rfl
  · cases e; cases RD.inv_int h; rfl
  · split at e
    · rename_i ds hs
      cases e
      exact key hs rfl
    · cases e
theorem tru_r : TruR X (rTru X.K) := fun pins s σ H x v Q I rx h => by
  obtain ⟨ι, a, k, ha, e, q⟩ := h
  exact tru_ok pins s σ H x v Q I rx ⟨k, truV_of ha e, q⟩

/-! ### items, slices -/
theorem atI_RDs {K : PySem.W.Frag} {ι : List Addr} {H : Hp} {ds : List D} {vs : List V} (r : RDs K ι H ds vs) {i : Int} {d : D} (e : atD ds i = some d) : ∃ v, atI vs i = some v ∧ RD K ι H d v := by
  unfold atD atI at e
  unfold atI
  rw [← r.length]
  cases q : ixN ds.length i with
  | none => rw [q] at e; cases e
  | some j => rw [q] at e; exact r.get e
def rIdx (K : PySem.W.Frag) : R2 := fun x y H Q => ∃ ι a b d, RRA K ι H a x ∧ RRA K ι H b y ∧ idxop a b = some d ∧ ∀ v, RD K ι H d v → Q v H
theorem ix_r : IxR X (rIdx X.K) := by
  intro value slice pins s σ H x y v u Q I rx ry h hsub
  obtain ⟨ι, a, b, d, ha, hb, hF, q⟩ := h
  unfold idxop at hF
  split at hF
  · rename_i ds i hs
    cases RD.inv_int hb
    obtain ⟨p, vs, rfl, hp, r⟩ := RRA.seq ha hs
    obtain ⟨w, hw, rw'⟩ := atI_RDs r hF
    refine ix_seq value slice pins s σ H _ _ v u Q I rx ry ?_ hsub
    rcases hp with hp | hp
    · exact .inl ⟨p, vs, i, w, rfl, rfl, .inl hp, hw, q w rw'⟩
    · exact .inr (.inl ⟨p, vs, i, w, rfl, rfl, hp, hw, q w rw'⟩)
  · cases hF
def rSlc (K : PySem.W.Frag) : V → Option Int → Option Int → Hp → VK → Prop := fun x lo hi H Q => ∃ ι a r, RRA K ι H a x ∧ slcop a lo hi = some r ∧ ∀ v H', Out K ι H r v H' → Q v H'
theorem cut_RDs {K : PySem.W.Frag} {ι : List Addr} {H : Hp} {ds : List D} {vs : List V} (r : RDs K ι H ds vs) (lo hi : Option Int) : RDs K ι H (cutD ds lo hi) (cutV vs lo hi) := by
  unfold cutD cutV
  rw [← r.length]
  exact (r.drop _).take _
theorem sl_r : SlR X (rSlc X.K) := by
  intro pins s σ H x v vl vu lo hi sl Q I rx hs pl pu h
  obtain ⟨ι, a, r, ha, hF, q⟩ := h
  unfold slcop at hF
  split at hF
  · rename_i ds
    cases hF
    obtain ⟨p, vs, rfl, hp, rr⟩ := RD.inv_tup ha
    refine sl_tupA pins s σ H _ v vl vu lo hi sl Q I rx hs pl pu ⟨p, vs, rfl, hp, fun hw => ?_, fun _ p hp => q _ _ (.tup hp (cut_RDs rr lo hi))⟩
    have e : cutV vs lo hi = vs := by
      unfold cutV
      rw [hw.1, hw.2]
      simp
    have := cut_RDs rr lo hi
    rw [e] at this
    exact q _ _ (.val (.tup hp this))
  · split at hF
    · rename_i ds hs'
      cases hF
      obtain ⟨p, vs, rfl, hp, rr⟩ := RRA.lseq ha hs'
      exact sl_list pins s σ H _ v vl vu lo hi sl Q I rx hs pl pu ⟨p, vs, rfl, .inl hp, fun p hp => q _ _ (.lst hp (cut_RDs rr lo hi))⟩
    · cases hF
end
end Ev
end

section
set_option Elab.async false
set_option linter.all false
set_option maxRecDepth 100000
set_option maxHeartbeats 4000000
namespace Ev
open PySem PySem.Spec PyProof.Rows L2

section
variable {K : PySem.W.Frag} {ι : List Addr} {H : Hp}
mutual
theorem D.py_inj : ∀ {n m : Nat} {a b : D}, D.flat n a = true → D.flat m b = true → a.py = b.py → a = b
  | _, _, .non, b, _, h, e => by cases b <;> first | rfl | (simp [D.py] at e; done) | (cases ‹Nat› <;> simp [D.flat] at h)
  | _, _, .bl x, b, _, h, e => by cases b <;> simp [D.py] at e; rw [e]
  | _, _, .int x, b, _, h, e => by cases b <;> simp [D.py] at e; rw [e]
  | _, _, .str x, b, _, h, e => by cases b <;> simp [D.py] at e; rw [e]
  | n, m, .tup xs, b, f, h, e => by
    cases b <;> simp [D.py] at e
    cases n with
    | zero => simp [D.flat] at f
    | succ n =>
      cases m with
      | zero => simp [D.flat] at h
      | succ m => rw [D.pys_inj (by simpa [D.flat] using f) (by simpa [D.flat] using h) e]
  | n, m, .lst xs, b, f, h, e => by
    cases b <;> simp [D.py] at e
    cases n with
    | zero => simp [D.flat] at f
    | succ n =>
      cases m with
      | zero => simp [D.flat] at h
      | succ m => rw [D.pys_inj (by simpa [D.flat] using f) (by simpa [D.flat] using h) e]
  | n, _, .ref x, b, f, h, e => by cases n <;> simp [D.flat] at f
theorem D.pys_inj : ∀ {n m : Nat} {a b : List D}, D.flats n a = true → D.flats m b = true → D.pys a = D.pys b → a = b
  | _, _, [], [], _, _, _ => rfl
  | _, _, [], _ :: _, _, _, e => by simp [D.pys] at e
  | _, _, _ :: _, [], _, _, e => by simp [D.pys] at e
  | n, m, x :: xs, y :: ys, f, h, e => by
    have f' : D.flat n x = true ∧ D.flats n xs = true := by simpa [D.flats] using f
    have h' : D.flat m y = true ∧ D.flats m ys = true := by simpa [D.flats] using h
    simp only [D.pys, List.cons.injEq] at e
    rw [D.py_inj f'.1 h'.1 e.1, D.pys_inj f'.2 h'.2 e.2]
end
theorem D.flats_mem {n : Nat} : ∀ {ds : List D} {d : D}, D.flats n ds = true → d ∈ ds → D.flat n d = true
  | x :: xs, d, f, h => by
    have f' : D.flat n x = true ∧ D.flats n xs = true := by simpa [D.flats] using f
    rcases List.mem_cons.mp h with rfl | h
    · exact f'.1
    · exact D.flats_mem f'.2 h
theorem minB_py (x : D) : ∀ xs : List D, (minB x xs).py = PySem.W.minD x.py (D.pys xs) := fun xs => by
  unfold minB PySem.W.minD
  induction xs generalizing x with
  | nil => rw [D.pys]; rfl
  | cons y ys ih =>
    rw [D.pys, List.foldl_cons, List.foldl_cons, ih]
    split <;> rfl
theorem maxB_py (x : D) : ∀ xs : List D, (maxB x xs).py = PySem.W.maxD x.py (D.pys xs) := fun xs => by
  unfold maxB PySem.W.maxD
  induction xs generalizing x with
  | nil => rw [D.pys]; rfl
  | cons y ys ih =>
    rw [D.pys, List.foldl_cons, List.foldl_cons, ih]
    split <;> rfl
theorem best_mem (f : D → D → Bool) (x : D) : ∀ xs : List D, xs.foldl (fun a y => if f a y then y else a) x ∈ x :: xs := fun xs => by
  induction xs generalizing x with
  | nil => exact List.mem_cons_self
  | cons y ys ih =>
    rw [List.foldl_cons]
    have := ih (if f x y = true then y else x)
    cases hf : f x y with
    | true =>
      simp only [hf, if_true] at this ⊢
      exact List.mem_cons_of_mem _ this
    | false =>
      simp only [hf, Bool.false_eq_true, if_false] at this ⊢
      rcases List.mem_cons.mp this with e | h
      · rw [e]; exact List.mem_cons_self
      · exact List.mem_cons_of_mem _ (List.mem_cons_of_mem _ h)
theorem minB_mem (x : D) (xs : List D) : minB x xs ∈ x :: xs := best_mem (fun a y => PySem.W.dataLt y.py a.py) x xs
theorem maxB_mem (x : D) (xs : List D) : maxB x xs ∈ x :: xs := best_mem (fun a y => PySem.W.dataLt a.py y.py) x xs
theorem alike_of {ds : List D} (h : alikeDs ds = true) : PySem.W.AlikeAll (D.pys ds) := by
  rw [D.pys_map]
  unfold alikeDs at h
  rw [List.all_eq_true] at h
  refine ⟨fun a ha b hb => ?_, fun a ha => ?_⟩
  · obtain ⟨x, hx, rfl⟩ := List.mem_map.mp ha
    obtain ⟨y, hy, rfl⟩ := List.mem_map.mp hb
    have := h x hx
    simp only [Bool.and_eq_true, List.all_eq_true] at this
    exact this.2 y hy
  · obtain ⟨x, hx, rfl⟩ := List.mem_map.mp ha
    have := h x hx
    simp only [Bool.and_eq_true, List.all_eq_true] at this
    have h1 := this.1
    cases x with
    | non => cases h1
    | ref => cases h1
    | _ => intro z; simp [D.py] at z
theorem RDs.ints {ds : List D} {vs : List V} : ∀ {is : List Int}, RDs K ι H ds vs → D.ints? ds = some is → vs = is.map V.int := by
  intro is r e
  induction ds generalizing vs is with
  | nil => cases r; unfold D.ints? at e; cases e; rfl
  | cons d ds ih =>
    obtain ⟨v, ws, rfl, h, t⟩ := r.inv_cons
    cases d with
    | int i =>
      unfold D.ints? at e
      cases q : D.ints? ds with
      | none => rw [q] at e; cases e
      | some js =>
        rw [q] at e; cases e
        cases RD.inv_int h
        rw [ih t q]; rfl
    | _ => cases e
theorem RDs.bls {ds : List D} {vs : List V} : ∀ {is : List Bool}, RDs K ι H ds vs → D.bls? ds = some is → vs = is.map V.bl := by
  intro is r e
  induction ds generalizing vs is with
  | nil => cases r; unfold D.bls? at e; cases e; rfl
  | cons d ds ih =>
    obtain ⟨v, ws, rfl, h, t⟩ := r.inv_cons
    cases d with
    | bl i =>
      unfold D.bls? at e
      cases q : D.bls? ds with
      | none => rw [q] at e; cases e
      | some js =>
        rw [q] at e; cases e
        cases RD.inv_bl h
        rw [ih t q]; rfl
    | _ => cases e
end

/-! ### raw rules: sum of a tuple, sorted of a list or tuple -/
section
variable {prog : Program} {w : World} {A : Around} {E : Value → Shared → Prop} {s : Shared} {l : Addr} {its : List Value} {ns : List Int} {Q : Value → Shared → Prop}
theorem sum_tup (hh : A.handled = none) (hl : s.heap.IsTuple l its.toArray) (hi : IntsAre its ns)
    (h : ∀ h' tk t', (∀ b o, s.heap.get? b = some o → h'.get? b = some o) → Q (.int ns.sum t') { s with heap := h', toks := tk }) : wpAny (model prog w) A (call (.builtin "sum") [.ref l]) Q E s := by
  obtain ⟨xs, e⟩ := hi.allInts.items
  have hn : numsOf (intItems xs).toList = ns := by rw [← e]; exact hi.numsOf
  rw [nums_intItems] at hn
  rw [e] at hl
  have hlt : l < s.heap.objs.size := by obtain ⟨_, e, _⟩ := hl; exact Heap.lt_size e
  refine call_sum_walkG (wpAny_pyIter_tuple hl ?_)
  have hne : l ≠ s.heap.objs.size := Nat.ne_of_lt hlt
  refine ⟨_, _, _, _, _, _, numAt xs, rfl, Walks.tuple (A := A.in1) hh _ l hne (intItems xs), ⟨⟨_, Heap.get?_push_size _ rfl, rfl, rfl⟩, hl.push _⟩, fun b hb => ?_, (fun _ _ => intItems_at), fun h' tk t' hk => ?_⟩
  · show b < (s.heap.push _).objs.size
    rw [Heap.size_push]
    rcases List.mem_cons.mp hb with rfl | hb
    · exact Nat.lt_succ_self _
    · rcases List.mem_cons.mp hb with rfl | hb
      · exact Nat.lt_succ_of_lt hlt
      · cases hb
  · have := h h' tk t' fun b o q => hk b o (fun z => by
      have z' : b = s.heap.objs.size := by simpa using z
      exact absurd (Heap.lt_size q) (by rw [z']; exact Nat.lt_irrefl _)) (Heap.get?_push_of_some _ q)
    have e2 : preSum (numAt xs) (intItems xs).size = ns.sum := by
      have e3 : (intItems xs).size = xs.size := by simp [intItems]
      rw [e3, preSum_eq, List.take_of_length_le (by simp), hn]
    rw [e2]
    exact this

theorem sort_seq {T : String} {o : Obj} {n : Nat} {vs : List Value} {β : Type} {R : Value → β → Prop} {enc : β → PyData} {bs : List β} (hT : T = "list" ∨ T = "tuple") (ho : s.heap.get? l = some o) (hc : o.cls = .type T) (hd : o.data = .seq vs.toArray n)
    (e : PySem.W.EachIs R vs bs) (er : PySem.W.EachIs (fun v b => ∃ as, Reads s.heap v (enc b) as) vs bs) (hal : PySem.W.AllAlike (bs.map enc)) (hk : PySem.W.Sortable (bs.map enc)) (hL : bs.length ≤ sizeLine) (hu : ∀ b, b ∈ bs → A.units + 2 + (enc b).depth < cLine)
    (h : ∀ (h1 h' : Heap) (out : List Value) (ep : Nat), (∀ b o, s.heap.get? b = some o → h1.get? b = some o) → (∀ b o, h1.get? b = some o → h'.get? b = some o) → PySem.W.EachIs R out (bs.mergeSort (PySem.W.dataLe false enc)) → out.length = bs.length →
      h'.get? h1.objs.size = some { cls := .type "list", data := .seq out.toArray ep } → Q (.ref h1.objs.size) { s with heap := h' }) :
    wpAny (model prog w) A (call (.builtin "sorted") [.ref l]) Q E s := by
  have hvl : vs.length ≤ sizeLine := by rw [e.length]; exact hL
  refine call_function_entry_kw PyProof.Rows.kind_sorted PyProof.Rows.plain_sorted PyProof.Rows.entry_sorted (PyProof.Rows.args_sorted1 _) ?_
  unfold Builtin.«sorted»
  refine wpAny_bind (m := checkCount "sorted" 1 1 _) (wpAny_pure ?_)
  refine wpAny_bind (wpAny_collect_seq l hT ho hc hd (fun h1 k1 => ?_) (by rw [List.size_toArray]; exact hvl))
  have ev : vs.toArray.toList = vs := by simp
  rw [ev]
  refine wpAny_bind (wpAny_newList ?_ hvl)
  have k2 : ∀ b ob, s.heap.get? b = some ob → (h1.push (PyProof.Rows.seqObj "list" vs.toArray 0)).get? b = some ob := fun b ob q => Heap.get?_push_of_some _ (k1 b ob q)
  have hat : (h1.push (PyProof.Rows.seqObj "list" vs.toArray 0)).get? h1.objs.size = some (PyProof.Rows.seqObj "list" vs.toArray 0) := Heap.get?_push_size _ rfl
  show wpAny (model prog w) A.in1 _ _ E { s with heap := h1.push (PyProof.Rows.seqObj "list" vs.toArray 0) }
  have er' : PySem.W.EachIs (fun v b => ∃ as, Reads (PySem.W.sortingHeap (h1.push (PyProof.Rows.seqObj "list" vs.toArray 0)) h1.objs.size vs) v (enc b) as) vs bs := er.mono fun _ _ ⟨as, r⟩ =>
    ⟨as, PyProof.Rows.Reads.keeps (fun b ob q => PySem.W.sortingHeap_old (Nat.ne_of_lt (Heap.lt_size (k1 b ob q))) (k2 b ob q)) r⟩
  refine wpAny_bind (wpAny_holding (wpAny_call_entry_kw PyProof.Rows.slot_list_sort ⟨_, hat, rfl⟩ PyProof.Rows.entry_list_sort ?body (PyProof.Rows.args_list_sort _)))
  case body =>
    show wpAny (model prog w) A.in1.in1 (Builtin.«list.sort» ⟨[.ref h1.objs.size], []⟩) _ _ _
    refine PySem.W.list_sort_vals (s := { s with heap := h1.push (PyProof.Rows.seqObj "list" vs.toArray 0) }) hat
      (PySem.W.SortsAt.data (s := { s with heap := PySem.W.sortingHeap (h1.push (PyProof.Rows.seqObj "list" vs.toArray 0)) h1.objs.size vs }) (PySem.W.each_map (R := fun v d => ∃ as, Reads (PySem.W.sortingHeap (h1.push (PyProof.Rows.seqObj "list" vs.toArray 0)) h1.objs.size vs) v d as) enc er') hal hk (PySem.W.bound_map hu)) hvl ?_
    refine ⟨_, rfl, wpAny_pure ⟨_, rfl, ?_⟩⟩
    have res := PySem.W.sortVals_data false e er' hal
    obtain ⟨ep, hep⟩ := PyProof.Rows.sortedHeap_at (vs := vs) (out := (PySem.W.sortVals (PySem.W.dataKind (PySem.W.sortingHeap (h1.push (PyProof.Rows.seqObj "list" vs.toArray 0)) h1.objs.size vs) (bs.map enc)) false vs vs).toArray) hat
    refine h h1 _ _ ep k1 (fun b ob q => ?_) res (by rw [PySem.W.sortVals_length false rfl]; exact e.length) hep
    have hb := Heap.lt_size q
    show (PyProof.Rows.sortedHeap _ _ _ _).get? b = _
    rw [PyProof.Rows.sortedHeap_old (Nat.ne_of_lt hb) (by rw [Heap.size_push]; exact Nat.lt_succ_of_lt hb)]
    exact Heap.get?_push_of_some _ q
end
end Ev
end

section
set_option Elab.async false
set_option linter.all false
set_option maxRecDepth 100000
set_option maxHeartbeats 4000000
namespace Ev
open PySem PySem.Spec PyProof.Rows L2

/-- the built-in thing itself -/
def BI.val : BI → Value
  | .len => .builtin "len" | .sum => .builtin "sum" | .min => .builtin "min" | .max => .builtin "max" | .all => .builtin "all" | .any => .builtin "any"
  | .sorted => .builtin "sorted" | .tuple => .type "tuple" | .list => .type "list" | .int => .type "int" | .abs => .builtin "abs" | .repr => .builtin "repr"
  | .str => .type "str" | .dict => .type "dict" | .isI _ => .builtin "isinstance"
def Ty.name : Ty → String
  | .int => "int" | .bool => "bool" | .str => "str" | .tuple => "tuple" | .list => "list" | .dict => "dict"

section
variable {X : Cx}
theorem pair1 {α β : Type} {R : α → β → Prop} {a : α} {vs : List β} (h : Paired R [a] vs) : ∃ v, vs = [v] ∧ R a v := by
  cases h with
  | cons r t => cases t; exact ⟨_, rfl, r⟩
theorem pair2 {α β : Type} {R : α → β → Prop} {a b : α} {vs : List β} (h : Paired R [a, b] vs) : ∃ v w, vs = [v, w] ∧ R a v ∧ R b w := by
  cases h with
  | cons r t =>
    obtain ⟨w, rfl, q⟩ := pair1 t
    exact ⟨_, _, rfl, r, q⟩
theorem Out.int {K : PySem.W.Frag} {ι : List Addr} {H : Hp} (i : Int) : Out K ι H (.d (.int i)) (.int i) H := .val (.int i)
theorem Out.bl {K : PySem.W.Frag} {ι : List Addr} {H : Hp} (i : Bool) : Out K ι H (.d (.bl i)) (.bl i) H := .val (.bl i)

theorem RDs.each {K : PySem.W.Frag} {ι : List Addr} {H : Hp} : ∀ {ds : List D} {vs : List V} {its : List Value}, RDs K ι H ds vs → Vals vs its → PySem.W.EachIs (fun (v : Value) (d : D) => ∃ w, RelV w v ∧ RD K ι H d w) its ds
  | _, _, _, .nil, .nil => .nil
  | _, _, _, .cons h t, .cons a b => .cons ⟨_, a, h⟩ (RDs.each t b)
/-- the least or greatest item -/
theorem best_r {pins : List (Addr × Obj)} {s : Shared} {σ : L2.St} {H : Hp} {ι : List Addr} {Q : VK} {vs : List V} {its : List Value} {ds : List D} {r : D} {d : PyData} {i : Nat} {v : Value} {h' : Heap} {tk : Nat} {bs : List Addr} (I : Inv X pins σ H s)
    (rd : RDs X.K ι H ds vs) (rv : Vals vs its) (fl : D.flats DEEP ds = true) (hm : r ∈ ds) (hpy : r.py = d) (hv : its.toArray[i]? = some v) (hr : Reads h' v d bs) (hk : ∀ b o, s.heap.get? b = some o → h'.get? b = some o)
    (q : ∀ w, RD X.K ι H r w → Q w H) : EP X pins σ Q v { s with heap := h', toks := tk } := by
  have hv' : its[i]? = some v := by simpa using hv
  have hi : i < its.length := (List.getElem?_eq_some_iff.mp hv').1
  have hi2 : i < vs.length := by rw [rv.length]; exact hi
  obtain ⟨u, hu, ru⟩ := rv.get (List.getElem?_eq_getElem hi2)
  rw [hv'] at hu; cases hu
  obtain ⟨e, he, re⟩ := rd.getV (List.getElem?_eq_getElem hi2)
  have fe : D.flat DEEP e = true := D.flats_mem fl (List.mem_of_getElem? he)
  have fr : D.flat DEEP r = true := D.flats_mem fl hm
  have I' : Inv X pins σ H { s with heap := h', toks := tk } := I.kept hk
  obtain ⟨as, r2⟩ := Dp.reads I' _ _ _ (re.dp fe) ru
  have e2 := SeqAt.plain_unique _ _ _ _ _ (D.flat_plain _ _ fe).1 r2 hr
  have e3 : e = r := D.py_inj fe fr (by rw [e2, hpy])
  subst e3
  exact ⟨_, H, I', ru, q _ re⟩

theorem bi_r (hc : X.calm = true) (hg : X.A.guards = some []) (hu : X.A.units + 100 < cLine) (f : BI) (hf : ∀ t, f ≠ .isI t) : CallR X f.val (rB X.K (biop f)) := by
  intro pins s σ H vs us Q I rv h
  obtain ⟨ι, as, x, ha, hF, q⟩ := h
  have hh := I.ok.hd hc
  unfold biop at hF
  split at hF
  · -- min of a list
    rename_i a
    obtain ⟨v, rfl, hv⟩ := pair1 ha
    split at hF
    · rename_i d ds hs
      split at hF
      · rename_i hcond
        cases hF
        obtain ⟨p, ws, rfl, hp, r⟩ := RRA.seq hv hs
        obtain ⟨u, rfl, ru⟩ := Vals.one rv
        cases ru
        have hd := (D.flats_plain _ _ hcond.1).2
        have fin : ∀ {its : List Value}, Vals ws its → (∀ (i : Nat) v h' tk bs, its.toArray[i]? = some v → Reads h' v (PySem.W.minD d.py (D.pys ds)) bs → (∀ b o, s.heap.get? b = some o → h'.get? b = some o) → EP X pins σ Q v { s with heap := h', toks := tk }) := fun {its} rv i v h' tk bs hv hr hk =>
          best_r I r rv hcond.1 (minB_mem d ds) (minB_py d ds) hv hr hk fun w rw => q w H (.val rw)
        have e1 : D.pys (d :: ds) = d.py :: D.pys ds := by rw [D.pys]
        have room : X.A.units + 1 + PyData.depthAll (d.py :: D.pys ds) < cLine := by rw [← e1]; have : (DEEP : Nat) = 40 := rfl; omega
        have al := alike_of hcond.2
        rw [e1] at al
        rcases hp with hp | hp
        · obtain ⟨its, rvs, pl, _⟩ := I.list (.inl hp)
          obtain ⟨bs, rr⟩ := Dp.readsAll I _ _ its (r.dp hcond.1) rvs
          rw [e1] at rr
          exact PySem.W.min_list_data hh pl.isList (by simpa using rr) al room (fin rvs)
        · obtain ⟨its, rvs, pl, _⟩ := Inv.isT I hp
          obtain ⟨bs, rr⟩ := Dp.readsAll I _ _ its (r.dp hcond.1) rvs
          rw [e1] at rr
          exact PySem.W.min_tuple_data hh pl (by simpa using rr) al room (fin rvs)
      · cases hF
    · cases hF
  · -- max of a list
    rename_i a
    obtain ⟨v, rfl, hv⟩ := pair1 ha
    split at hF
    · rename_i d ds hs
      split at hF
      · rename_i hcond
        cases hF
        obtain ⟨p, ws, rfl, hp, r⟩ := RRA.seq hv hs
        obtain ⟨u, rfl, ru⟩ := Vals.one rv
        cases ru
        have hd := (D.flats_plain _ _ hcond.1).2
        have fin : ∀ {its : List Value}, Vals ws its → (∀ (i : Nat) v h' tk bs, its.toArray[i]? = some v → Reads h' v (PySem.W.maxD d.py (D.pys ds)) bs → (∀ b o, s.heap.get? b = some o → h'.get? b = some o) → EP X pins σ Q v { s with heap := h', toks := tk }) := fun {its} rv i v h' tk bs hv hr hk =>
          best_r I r rv hcond.1 (maxB_mem d ds) (maxB_py d ds) hv hr hk fun w rw => q w H (.val rw)
        have e1 : D.pys (d :: ds) = d.py :: D.pys ds := by rw [D.pys]
        have room : X.A.units + 1 + PyData.depthAll (d.py :: D.pys ds) < cLine := by rw [← e1]; have : (DEEP : Nat) = 40 := rfl; omega
        have al := alike_of hcond.2
        rw [e1] at al
        rcases hp with hp | hp
        · obtain ⟨its, rvs, pl, _⟩ := I.list (.inl hp)
          obtain ⟨bs, rr⟩ := Dp.readsAll I _ _ its (r.dp hcond.1) rvs
          rw [e1] at rr
          exact PySem.W.max_list_data hh pl.isList (by simpa using rr) al room (fin rvs)
        · obtain ⟨its, rvs, pl, _⟩ := Inv.isT I hp
          obtain ⟨bs, rr⟩ := Dp.readsAll I _ _ its (r.dp hcond.1) rvs
          rw [e1] at rr
          exact PySem.W.max_tuple_data hh pl (by simpa using rr) al room (fin rvs)
      · cases hF
    · cases hF
  · -- sorted
    rename_i a
    obtain ⟨v, rfl, hv⟩ := pair1 ha
    split at hF
    · rename_i ds hs
      split at hF
      · rename_i hcond
        cases hF
        obtain ⟨p, ws, rfl, hp, r⟩ := RRA.seq hv hs
        obtain ⟨u, rfl, ru⟩ := Vals.one rv
        cases ru
        obtain ⟨hfl, hal, hsrt, hlen⟩ := hcond
        have hd := (D.flats_plain _ _ hfl).2
        have al := alike_of hal
        have key : ∀ {T : String} {o : Obj} {n : Nat} {its : List Value}, (T = "list" ∨ T = "tuple") → s.heap.get? p = some o → o.cls = .type T → o.data = .seq its.toArray n → Vals ws its → wpAny (model X.prog X.w) X.A (call (.builtin "sorted") [.ref p]) (EP X pins σ Q) X.xe s := by
          intro T o n its hT ho hcl hdt rvs
          obtain ⟨bs, rr⟩ := Dp.readsAll I _ _ its (r.dp hfl) rvs
          rw [D.pys_map] at rr
          have e1 : PySem.W.EachIs (fun (v : Value) (d : D) => ∃ w, RelV w v ∧ RD X.K ι H d w) its ds := by
            exact RDs.each r rvs
          refine sort_seq (enc := D.py) (bs := ds) hT ho hcl hdt e1 (PySem.W.readsAll_each D.py rr) ?_ ?_ (Nat.le_trans hlen lim_line) (fun b hb => ?_) fun h1 h' out ep k1 k2 eo lo hat => ?_
          · intro x hx y hy
            rw [D.pys_map] at al
            exact al.1 x hx y hy
          · rcases hsrt with z | z
            · left
              intro x hx
              obtain ⟨d, hd', rfl⟩ := List.mem_map.mp hx
              have := List.all_eq_true.mp z d hd'
              cases d with
              | tup xs => cases xs with
                | nil => cases this
                | cons y ys => exact ⟨_, _, by rw [D.py, D.pys]⟩
              | _ => cases this
            · right
              intro x hx
              obtain ⟨d, hd', rfl⟩ := List.mem_map.mp hx
              have h1 := List.all_eq_true.mp z d hd'
              have h2 := al.2 d.py (by rw [D.pys_map]; exact hx)
              refine ⟨h2, fun xs e => ?_⟩
              cases d with
              | tup ys => cases h1
              | _ => simp [D.py] at e
          · have := (D.flat_plain _ _ (D.flats_mem hfl hb)).2
            have : (DEEP : Nat) = 40 := rfl
            omega
          · have I1 : Inv X pins σ H { s with heap := h1 } := I.kept (t' := s.toks) k1
            have e2 : PySem.W.dataLe false D.py = leB := by
              funext a b
              rw [PySem.W.dataLe_eq]
              rfl
            rw [e2] at eo
            have fin : ∀ {out : List Value} {es : List D}, PySem.W.EachIs (fun (v : Value) (d : D) => ∃ w, RelV w v ∧ RD X.K ι H d w) out es → ∃ vs', Vals vs' out ∧ RDs X.K ι H es vs' := by
              intro out es e
              induction e with
              | nil => exact ⟨[], .nil, .nil⟩
              | cons h _ ih =>
                obtain ⟨w, a, b⟩ := h
                obtain ⟨vs', c, d⟩ := ih
                exact ⟨w :: vs', .cons a c, .cons b d⟩
            obtain ⟨vs', c, d⟩ := fin eo
            have hfr : H h1.objs.size = none := I1.hok.fresh (Nat.le_refl _)
            refine ⟨.ref h1.objs.size, upd H h1.objs.size (.lst vs'), I1.laid (t' := s.toks) k2 (Nat.le_refl _) ⟨?_, out, ep, c, hat⟩, rfl, q _ _ (.lst hfr d)⟩
            rw [c.length, lo]
            exact Nat.le_trans hlen lim_line
        rcases hp with hp | hp
        · obtain ⟨its, rvs, pl, _⟩ := I.list (.inl hp)
          obtain ⟨o, ho, hcl, n, hdt⟩ := pl.isList
          exact key (.inl rfl) ho hcl hdt rvs
        · obtain ⟨its, rvs, pl, _⟩ := Inv.isT I hp
          obtain ⟨o, ho, hcl, n, hdt⟩ := pl
          exact key (.inr rfl) ho hcl hdt rvs
      · cases hF
    · cases hF
  · -- repr
    rename_i a
    obtain ⟨v, rfl, hv⟩ := pair1 ha
    split at hF
    · rename_i d hs
      split at hF
      · rename_i hcond
        cases hF
        obtain ⟨u, rfl, ru⟩ := Vals.one rv
        have dp := RRA.dp hv hs hcond.1
        obtain ⟨bs, rr⟩ := Dp.reads I _ _ _ dp ru
        have hpl := D.flat_plain _ _ hcond.1
        have hnd : ∀ e : PyData, e.plain = true → e.hasDict = false := by
          have : ∀ n : Nat, (∀ e : PyData, e.depth ≤ n → e.plain = true → e.hasDict = false) ∧ (∀ es : List PyData, PyData.depthAll es ≤ n → PyData.plainAll es = true → PyData.hasDictAll es = false) := by
            intro n
            induction n with
            | zero =>
              have h0 : ∀ e : PyData, e.depth ≤ 0 → e.plain = true → e.hasDict = false := fun e h1 h2 => by
                cases e with
                | list xs => simp [PyData.depth] at h1
                | tuple xs => simp [PyData.depth] at h1
                | dict m => simp [PyData.plain] at h2
                | _ => simp [PyData.hasDict]
              refine ⟨h0, fun es => ?_⟩
              induction es with
              | nil => intro _ _; simp [PyData.hasDictAll]
              | cons x xs ih =>
                intro h1 h2
                rw [PyData.depthAll] at h1
                rw [PyData.plainAll, Bool.and_eq_true] at h2
                rw [PyData.hasDictAll, h0 x (Nat.le_trans (Nat.le_max_left _ _) h1) h2.1, ih (Nat.le_trans (Nat.le_max_right _ _) h1) h2.2]
                rfl
            | succ n ih =>
              have h0 : ∀ e : PyData, e.depth ≤ n + 1 → e.plain = true → e.hasDict = false := fun e h1 h2 => by
                cases e with
                | list xs => rw [PyData.hasDict]; exact ih.2 xs (by simp [PyData.depth] at h1; exact h1) (by simpa [PyData.plain] using h2)
                | tuple xs => rw [PyData.hasDict]; exact ih.2 xs (by simp [PyData.depth] at h1; exact h1) (by simpa [PyData.plain] using h2)
                | dict m => simp [PyData.plain] at h2
                | _ => simp [PyData.hasDict]
              refine ⟨h0, fun es => ?_⟩
              induction es with
              | nil => intro _ _; simp [PyData.hasDictAll]
              | cons x xs ih2 =>
                intro h1 h2
                rw [PyData.depthAll] at h1
                rw [PyData.plainAll, Bool.and_eq_true] at h2
                rw [PyData.hasDictAll, h0 x (Nat.le_trans (Nat.le_max_left _ _) h1) h2.1, ih2 (Nat.le_trans (Nat.le_max_right _ _) h1) h2.2]
                rfl
          exact fun e h => (this e.depth).1 e (Nat.le_refl _) h
        have hz := Nat.le_trans hcond.2.2 lim_line
        have hD : (DEEP : Nat) = 40 := rfl
        have fin := q _ H (.val (.str d.py.shown))
        have big : ∀ {a : Addr}, u = .ref a → wpAny (model X.prog X.w) X.A (call (.builtin "repr") [u]) (EP X pins σ Q) X.xe s := fun {a} e => by
          subst e
          exact repr_of_reads' rr hcond.2.1 (PyData.noDict_hsm (hnd _ hpl.1)) hg (by have := hpl.2; omega) (fun _ _ e => e) (fun h' u tk hk => ⟨.str _, H, I.kept hk, ⟨_, rfl⟩, fin⟩) hz
        cases v with
        | ref p => exact big ru
        | non =>
          cases ru
          have e : d.py = .none := by generalize d.py = z at dp; cases dp; rfl
          rw [e] at fin
          simp only [PyData.shown] at fin
          exact PySem.P.repr_of_none ⟨.str _, H, I.tok _, ⟨_, rfl⟩, fin⟩
        | bl b =>
          cases ru
          have e : d.py = .bool b := by generalize d.py = z at dp; cases dp; rfl
          rw [e] at fin
          simp only [PyData.shown] at fin
          exact PySem.P.repr_of_bool ⟨.str _, H, I.tok _, ⟨_, rfl⟩, fin⟩
        | int i =>
          obtain ⟨t, rfl⟩ := ru
          have e : d.py = .int i := by generalize d.py = z at dp; cases dp; rfl
          have hsh := hcond.2.1
          rw [e] at fin hsh
          simp only [PyData.shown] at fin
          exact PySem.P.repr_of_int (by simpa [PyData.showable] using hsh) ⟨.str _, H, I.tok _, ⟨_, rfl⟩, fin⟩
        | str z =>
          obtain ⟨t, rfl⟩ := ru
          have e : d.py = .str z := by generalize d.py = z at dp; cases dp; rfl
          rw [e] at fin hz
          simp only [PyData.shown] at fin hz
          exact PySem.P.repr_of_str ⟨.str _, H, I.tok _, ⟨_, rfl⟩, fin⟩ hz
        | _ => cases dp
      · cases hF
    · cases hF
  · -- len
    rename_i a
    obtain ⟨v, rfl, hv⟩ := pair1 ha
    split at hF
    · rename_i ds hs
      cases hF
      obtain ⟨p, ws, rfl, hp, r⟩ := RRA.seq hv hs
      refine call_len_seq pins s σ H _ us Q I rv ⟨p, ws, rfl, RRA.sq hp, ?_⟩
      rw [← r.length]
      exact q _ _ (.int _)
    · cases hF
  · -- sum
    rename_i a
    obtain ⟨v, rfl, hv⟩ := pair1 ha
    split at hF
    · rename_i ds hs
      split at hF
      · rename_i is hi
        cases hF
        obtain ⟨p, ws, rfl, hp, r⟩ := RRA.seq hv hs
        have e := r.ints hi
        subst e
        rcases hp with hp | hp
        · exact cr_sum hc pins s σ H _ us Q I rv ⟨p, is, rfl, .inl hp, q _ _ (.int _)⟩
        · obtain ⟨u, rfl, ru⟩ := Vals.one rv
          cases ru
          obtain ⟨its, rvs, pl, _⟩ := Inv.isT I hp
          exact sum_tup hh pl rvs.ints fun h' tk t' hk => ⟨.int _, H, I.kept hk, ⟨_, rfl⟩, q _ _ (.int _)⟩
      · cases hF
    · cases hF
  · -- all
    rename_i a
    obtain ⟨v, rfl, hv⟩ := pair1 ha
    split at hF
    · rename_i ds hs
      split at hF
      · rename_i is hi
        cases hF
        obtain ⟨p, ws, rfl, hp, r⟩ := RRA.lseq hv hs
        have e := r.bls hi
        subst e
        exact cr_all hc pins s σ H _ us Q I rv ⟨p, is, rfl, .inl hp, q _ _ (.bl _)⟩
      · cases hF
    · cases hF
  · -- any
    rename_i a
    obtain ⟨v, rfl, hv⟩ := pair1 ha
    split at hF
    · rename_i ds hs
      split at hF
      · rename_i is hi
        cases hF
        obtain ⟨p, ws, rfl, hp, r⟩ := RRA.lseq hv hs
        have e := r.bls hi
        subst e
        exact cr_any hc pins s σ H _ us Q I rv ⟨p, is, rfl, .inl hp, q _ _ (.bl _)⟩
      · cases hF
    · cases hF
  · rename_i i j
    cases hF
    obtain ⟨v, w, rfl, h1, h2⟩ := pair2 ha
    cases RD.inv_int h1; cases RD.inv_int h2
    exact call_max2 hc pins s σ H _ us Q I rv ⟨i, j, rfl, q _ _ (.int _)⟩
  · rename_i i j
    cases hF
    obtain ⟨v, w, rfl, h1, h2⟩ := pair2 ha
    cases RD.inv_int h1; cases RD.inv_int h2
    exact call_min2 hc pins s σ H _ us Q I rv ⟨i, j, rfl, q _ _ (.int _)⟩
  · -- tuple
    rename_i a
    obtain ⟨v, rfl, hv⟩ := pair1 ha
    split at hF
    · rename_i ds hs
      cases hF
      obtain ⟨p, ws, rfl, hp, r⟩ := RRA.seq hv hs
      refine call_tuple_of pins s σ H _ us Q I rv ⟨p, ws, rfl, ?_⟩
      rcases hp with hp | hp
      · exact .inl ⟨.inl hp, fun l hl => q _ _ (.tup hl r)⟩
      · exact .inr ⟨hp, q _ _ (.val (.tup hp r))⟩
    · cases hF
  · -- list
    rename_i a
    obtain ⟨v, rfl, hv⟩ := pair1 ha
    split at hF
    · rename_i ds hs
      cases hF
      obtain ⟨p, ws, rfl, hp, r⟩ := RRA.seq hv hs
      exact call_list_of pins s σ H _ us Q I rv ⟨p, ws, rfl, RRA.sq hp, fun l hl => q _ _ (.lst hl r)⟩
    · cases hF
  · rename_i i
    cases hF
    obtain ⟨v, rfl, h1⟩ := pair1 ha
    cases RD.inv_int h1
    exact call_int1 pins s σ H _ us Q I rv (.inl ⟨i, rfl, q _ _ (.int _)⟩)
  · rename_i b
    cases hF
    obtain ⟨v, rfl, h1⟩ := pair1 ha
    cases RD.inv_bl h1
    exact call_int1 pins s σ H _ us Q I rv (.inr ⟨b, rfl, q _ _ (.int _)⟩)
  · rename_i i
    cases hF
    obtain ⟨v, rfl, h1⟩ := pair1 ha
    cases RD.inv_int h1
    exact call_abs pins s σ H _ us Q I rv ⟨i, rfl, q _ _ (.int _)⟩
  · exact absurd rfl (hf _)
  · cases hF
/-- isinstance(x, T) -/
theorem isI_r (t : Ty) {pins : List (Addr × Obj)} {s : Shared} {σ : L2.St} {H : Hp} {ι : List Addr} {a : RA} {x : V} {b : Bool} {us : List Value} {Q : VK} (I : Inv X pins σ H s) (h : RRA X.K ι H a x) (e : D.tyIs t a = some b) (rv : Vals [x, .ty t.name] us) (q : Q (.bl b) H) :
    wpAny (model X.prog X.w) X.A (call (.builtin "isinstance") us) (EP X pins σ Q) X.xe s := by
  have go : ∀ {n : String}, TyX X.K H x (.type n) → kitB n t.name = some b → wpAny (model X.prog X.w) X.A (call (.builtin "isinstance") us) (EP X pins σ Q) X.xe s := fun {n} ty k =>
    call_isi pins s σ H _ us Q I rv ⟨x, .ty t.name, .type n, .type t.name, b, rfl, .ty _, ty, kit_ty k, q⟩
  cases a with
  | d d =>
    cases d with
    | non => cases RD.inv_non h; cases e; exact go (.base .non) (by cases t <;> decide +kernel)
    | bl y => cases RD.inv_bl h; cases e; exact go (.base (.bl _)) (by cases t <;> decide +kernel)
    | int y => cases RD.inv_int h; cases e; exact go (.base (.int _)) (by cases t <;> decide +kernel)
    | str y => cases RD.inv_str h; cases e; exact go (.base (.str _)) (by cases t <;> decide +kernel)
    | tup y =>
      obtain ⟨p, vs, rfl, hp, _⟩ := RD.inv_tup h
      cases e
      have k : kitB "tuple" t.name = some (t == .tuple) := by cases t <;> decide +kernel
      rcases hp with (hp | ⟨o, hp⟩) | ⟨o, its, n, h1, h2, _⟩
      · exact go (.base (.tup hp)) k
      · exact go (.fTuple hp) k
      · exact go (.kTuple h1 h2) k
    | lst y =>
      cases h with
      | lst hz r =>
        cases e
        obtain ⟨o, hz⟩ := hz
        exact go (.base (.frz hz)) (by cases t <;> decide +kernel)
    | ref y => cases e
  | own so => cases e
  | rf k so => cases e
end
end Ev
end

section
set_option Elab.async false
set_option linter.all false
set_option maxRecDepth 100000
set_option maxHeartbeats 4000000
namespace Ev
open PySem PySem.Spec PyProof.Rows L2

section
variable {X : Cx}
theorem mt_extendR {pins : List (Addr × Obj)} {s : Shared} {σ : L2.St} {H : Hp} {l b : Addr} {xs zs : List V} {Q : VK} (I : Inv X pins σ H s) (hH : H l = some (.lst xs)) (hB : Rd H b (.lst zs)) (hz : xs.length + zs.length ≤ sizeLine)
    (q : Q .non (upd H l (.lst (xs ++ zs)))) : wpAny (model X.prog X.w) X.A (call (.builtin "list.extend") [.ref l, .ref b]) (EP X pins σ Q) X.xe s := by
  obtain ⟨z, its, n, r, hl, e⟩ := I.lstM hH
  obtain ⟨z2, its2, n2, r2, hl2, e2⟩ := Inv.lstR I hB
  have hsz : its.toArray.size + its2.toArray.size ≤ sizeLine := by rw [List.size_toArray, List.size_toArray]; omega
  have hlong : ¬ (!its.toArray.isEmpty && Builtin.List.listTooLong (its.toArray.size + its2.toArray.size)) = true := by
    rw [notLongL hsz, Bool.and_false]
    exact Bool.false_ne_true
  refine call_meets F.slot_list_extend ⟨_, e, rfl⟩ F.entry_list_extend (F.args_list_extend_2 _ _)
    (AutoSeq1.list_extend_list_list_0 l its.toArray n b its2.toArray n2 hlong (by rw [List.size_toArray]; omega) (by omega)) ⟨e, e2, ?_⟩
  refine ⟨.non, _, I.lset (its' := its ++ its2) hH e (by simp) (r.append r2) ?_, rfl, q⟩
  rw [List.length_append]
  omega

def MI.id : MI → String
  | .append => "list.append" | .extend => "list.extend" | .pop => "list.pop" | .setdefault => "dict.setdefault" | .get => "dict.get" | .index => "list.index" | .values => "dict.values"
def MI.name : MI → Str
  | .append => "append" | .extend => "extend" | .pop => "pop" | .setdefault => "setdefault" | .get => "get" | .index => "index" | .values => "values"
def MI.ty : MI → String
  | .append | .extend | .pop | .index => "list"
  | _ => "dict"

def rMt (K : PySem.W.Frag) (m : MI) : V → List V → Hp → VK → Prop := fun x xs H Q => ∃ ι a so ds rs r, x = .ref a ∧ SoR K ι H a so ∧ RDs K ι H ds xs ∧ Paired (RRA K ι H) rs xs ∧ mtop m so ds rs = some r ∧
  ∀ v ho, Open (H a) → SoR K ι (upd H a ho) a r.2 → RD K ι (upd H a ho) r.1 v → Q v (upd H a ho)
theorem mt_r (m : MI) : MtR X m.id (rMt X.K m) := by
  intro pins s σ H x xs v us Q I rx rv h
  obtain ⟨ι, a, so, ds, rs, r, rfl, hso, hds, hrs, hF, q⟩ := h
  unfold mtop at hF
  split at hF
  · rename_i ys d rs'
    split at hF
    · rename_i hl
      cases hF
      obtain ⟨vs, hH, hr⟩ := hso
      obtain ⟨w, ws, rfl, hd, ht⟩ := hds.inv_cons
      cases ht
      have hop : Open (H a) := by rw [hH]; exact Open.lst
      refine mt_append pins s σ H _ _ v us Q I rx rv ⟨a, vs, w, rfl, rfl, hH, by rw [← hr.length]; exact Nat.lt_of_lt_of_le hl lim_line, q _ _ hop ⟨_, upd_same, ?_⟩ .non⟩
      exact (hr.mono (Stp.op hop)).append (.cons (hd.mono (Stp.op hop)) .nil)
    · cases hF
  · rename_i ys ds' c
    split at hF
    · rename_i es hs
      split at hF
      · rename_i hl
        cases hF
        obtain ⟨vs, hH, hr⟩ := hso
        obtain ⟨w, rfl, hc⟩ := pair1 hrs
        obtain ⟨b, zs, rfl, hb, hz⟩ := RRA.lseq hc hs
        have hop : Open (H a) := by rw [hH]; exact Open.lst
        cases rx
        obtain ⟨u, rfl, ru⟩ := rv.one
        cases ru
        exact mt_extendR I hH hb (by rw [← hr.length, ← hz.length]; exact Nat.le_trans hl lim_line) (q _ _ hop ⟨_, upd_same, (hr.mono (Stp.op hop)).append (hz.mono (Stp.op hop))⟩ .non)
      · cases hF
    · cases hF
  · rename_i ys rs'
    split at hF
    · rename_i d hd
      cases hF
      obtain ⟨vs, hH, hr⟩ := hso
      cases hds.inv_nil
      have hop : Open (H a) := by rw [hH]; exact Open.lst
      obtain ⟨w, hw, hdw⟩ := hr.get hd
      exact mt_pop pins s σ H _ _ v us Q I rx rv ⟨a, vs, w, rfl, rfl, hH, by rw [← hr.length]; exact hw, q _ _ hop ⟨_, upd_same, (hr.mono (Stp.op hop)).dropLast⟩ (hdw.mono (Stp.op hop))⟩
    · cases hF
  · rename_i ys i rs'
    split at hF
    · rename_i j hj
      split at hF
      · rename_i d hd
        cases hF
        obtain ⟨vs, hH, hr⟩ := hso
        obtain ⟨w, ws, rfl, hi, ht⟩ := hds.inv_cons
        cases ht
        cases RD.inv_int hi
        have hop : Open (H a) := by rw [hH]; exact Open.lst
        obtain ⟨w, hw, hdw⟩ := hr.get hd
        split at hj
        · rename_i hlim
          obtain ⟨e1, e2, e3, e4⟩ := HT_ix hj
          have hlen : (LIM : Nat) = 1000000 := rfl
          exact mt_popAt pins s σ H _ _ v us Q I rx rv ⟨a, vs, _, j, w, rfl, rfl, hH, by omega, by omega, by rw [← hr.length]; exact e1, hw, q _ _ hop ⟨_, upd_same, (hr.mono (Stp.op hop)).eraseIdx j⟩ (hdw.mono (Stp.op hop))⟩
        · cases hj
      · cases hF
    · cases hF
  · cases hF
where
  HT_ix {n : Nat} {i : Int} {j : Nat} (h : ixN n i = some j) : seqIndex? i n = some j ∧ j < n ∧ -(n : Int) ≤ i ∧ i < n := ixN_seq h
/-- xs[i] = v -/
def rSet (K : PySem.W.Frag) : TSet := fun o i v H Q => ∃ ι a ds k j x, o = .ref a ∧ i = .int k ∧ SoR K ι H a (.lst ds) ∧ ixN ds.length k = some j ∧ RD K ι H x v ∧
  ∀ ho, Open (H a) → SoR K ι (upd H a ho) a (.lst (ds.set j x)) → Q (upd H a ho)
theorem set_r : PSet X (rSet X.K) := by
  intro pins s σ H o i v ov iv u Q I ro ri rv h
  obtain ⟨ι, a, ds, k, j, x, rfl, rfl, ⟨vs, hH, hr⟩, hj, hx, q⟩ := h
  have hop : Open (H a) := by rw [hH]; exact Open.lst
  refine set_list pins s σ H _ _ v ov iv u Q I ro ri rv ⟨a, vs, k, j, rfl, rfl, hH, by rw [← hr.length]; exact hj, q _ hop ⟨_, upd_same, ?_⟩⟩
  exact RDs.set (hx.mono (Stp.op hop)) j (hr.mono (Stp.op hop))
end
end Ev
end

section
set_option Elab.async false
set_option linter.all false
set_option maxRecDepth 100000
set_option maxHeartbeats 4000000
namespace PySem
open Sem (wp)
open Builtin
/-- enumerate(v) of anything that begins -/
theorem meets_enumerate_newB1 {v : Value} {o : Obj} {H : Heap → Prop} (B : Begins v o H) :
    Meets (Builtin.«enumerate.__new__» ⟨[.type "enumerate", v], []⟩) (fun _ R s => H s.heap ∧
      R (.ok (.ret (.ref (s.heap.push o).objs.size))) { s with heap := (s.heap.push o).push { cls := .type "enumerate", data := .fields #[.none, .bool false, .ref s.heap.objs.size, rawInt 0, .none, .none] } }) :=
  .of_wp fun prog w A R s h => by
    obtain ⟨hp, g, d, tk, os⟩ := s; obtain ⟨h1, h⟩ := h
    have hsub := sub_enumerate
    have q1 : ∀ {A' : Around} {E : Value → Shared → Prop} {Q : Value → Shared → Prop}, Q (.ref hp.objs.size) ⟨hp.push o, g, d, tk, os⟩ → wpAny (model prog w) A' (pyIter v) Q E ⟨hp, g, d, tk, os⟩ :=
      fun q => B.iter prog w _ _ ⟨hp, g, d, tk, os⟩ _ h1 q
    wp_walk using q1
    first
      | exact ⟨_, rfl, h⟩
      | (refine wpAny_stack_any fun st => wpAny_pure ?_
         split
         · rename_i c _ _ _ _ _
           cases (c == Value.type "enumerate")
           · wp_walk using q1
             exact ⟨_, rfl, h⟩
           · wp_walk using q1
             exact ⟨_, rfl, h⟩
         · wp_walk using q1
           exact ⟨_, rfl, h⟩)
theorem enum_begins1 {prog : Program} {w : World} {A : Around} {E : Value → Shared → Prop} {s : Shared} {v : Value} {o : Obj} {H : Heap → Prop} {Q : Value → Shared → Prop} (B : Begins v o H) (h1 : H s.heap)
    (h : ∀ h', IsEnum h' (s.heap.objs.size + 1) s.heap.objs.size 0 .none → h'.get? s.heap.objs.size = some o → h'.objs.size = s.heap.objs.size + 2 →
      (∀ b o, s.heap.get? b = some o → h'.get? b = some o) → Q (.ref (s.heap.objs.size + 1)) { s with heap := h' }) :
    wpAny (model prog w) A (call (.type "enumerate") [v]) Q E s := by
  refine callType_new F.called_enumerate (by decide) (F.typeCall_enumerate_1 _) (F.newCall_enumerate_1 _) (fun obj => F.args_object_init_2 obj _) F.entry_enumerate_new
    (meets_enumerate_newB1 B) ⟨h1, ?_⟩
  have hz : (s.heap.push o).objs.size = s.heap.objs.size + 1 := Heap.size_push ..
  show _ ∧ _
  rw [hz]
  have he : IsEnum ((s.heap.push o).push { cls := .type "enumerate", data := .fields #[.none, .bool false, .ref s.heap.objs.size, rawInt 0, .none, .none] }) (s.heap.objs.size + 1) s.heap.objs.size 0 .none := by
    have := Heap.get?_push_size (s.heap.push o) (o := { cls := .type "enumerate", data := .fields #[.none, .bool false, .ref s.heap.objs.size, rawInt 0, .none, .none] }) rfl
    rw [hz] at this; exact this
  refine ⟨⟨_, he, rfl⟩, h _ he (Heap.get?_push_of_some _ (Heap.get?_push_size _ B.free)) (by rw [Heap.size_push, hz]) fun b o x => Heap.get?_push_of_some _ (Heap.get?_push_of_some _ x)⟩
end PySem

namespace Ev
open PySem PySem.Spec PyProof.Rows L2

/-! ### what is walked -/
structure WalkOk (K : PySem.W.Frag) (J : It) (ds : List D) (ι : List Addr) (H : Hp) : Prop where
  go : ∀ i ι' H', Stp ι H ι' H' → i < ds.length → J.go i H'
  yld : ∀ i ι' H' x H'', Stp ι H ι' H' → i < ds.length → J.yld i H' x H'' → ∃ d, ds[i]? = some d ∧ Ext H' H'' ∧ RD K ι' H'' d x
  stop : ∀ ι' H', Stp ι H ι' H' → J.stop ds.length H'

section
variable {K : PySem.W.Frag} {ι : List Addr} {H : Hp}
theorem walk_lst {a : Addr} {vs : List V} {ds : List D} (h : FzL H a vs) (r : RDs K ι H ds vs) : WalkOk K (Itl K a) ds ι H where
  go := fun i ι' H' s hi => ⟨vs, vs[i]'(by rw [← r.length]; exact hi), (s.fzL h).sq, by simp⟩
  yld := fun i ι' H' x H'' s _ y => by
    obtain ⟨e, y⟩ := y
    subst e
    obtain ⟨d, h1, h2⟩ := (r.mono s).getV (y vs (s.fzL h).sq)
    exact ⟨d, h1, .refl, h2⟩
  stop := fun ι' H' s => ⟨vs, (s.fzL h).sq, Nat.le_of_eq r.length.symm⟩
theorem walk_tup {a : Addr} {vs : List V} {ds : List D} (h : SqT K H a vs) (r : RDs K ι H ds vs) : WalkOk K (Itt K a) ds ι H where
  go := fun i ι' H' s hi => ⟨vs, vs[i]'(by rw [← r.length]; exact hi), s.sqT h, by simp⟩
  yld := fun i ι' H' x H'' s _ y => by
    obtain ⟨e, y⟩ := y
    subst e
    obtain ⟨d, h1, h2⟩ := (r.mono s).getV (y vs (s.sqT h))
    exact ⟨d, h1, .refl, h2⟩
  stop := fun ι' H' s => ⟨vs, s.sqT h, Nat.le_of_eq r.length.symm⟩
theorem rangeD_length (lo : Int) (n : Nat) : (rangeD lo n).length = n := by simp [rangeD]
theorem rangeD_get (lo : Int) {i n : Nat} (h : i < n) : (rangeD lo n)[i]? = some (.int (lo + (i : Int))) := by simp [rangeD, h]
theorem walk_range (lo : Int) (n : Nat) : WalkOk K (Itr lo n) (rangeD lo n) ι H where
  go := fun i ι' H' s hi => by rw [rangeD_length] at hi; exact hi
  yld := fun i ι' H' x H'' s hi y => by
    obtain ⟨e, y⟩ := y
    subst e y
    rw [rangeD_length] at hi
    exact ⟨_, rangeD_get lo hi, .refl, .int _⟩
  stop := fun ι' H' s => by rw [rangeD_length]; exact Nat.le_refl n
def strD (x : Str) : List D := x.cps.toList.map fun c => .str ⟨#[c]⟩
theorem strD_length (x : Str) : (strD x).length = x.cps.size := by simp [strD]
theorem walk_str (x : Str) : WalkOk K (Its x) (strD x) ι H where
  go := fun i ι' H' s hi => by rw [strD_length] at hi; exact hi
  yld := fun i ι' H' v H'' s hi y => by
    obtain ⟨e, c, hc, y⟩ := y
    subst e y
    exact ⟨.str ⟨#[c]⟩, by simp [strD, hc], .refl, .str _⟩
  stop := fun ι' H' s => by rw [strD_length]; exact Nat.le_refl _
end

/-! ### a list or a tuple, its iterator -/
def SrcR (K : PySem.W.Frag) (H : Hp) : Bool → Addr → List V → Prop
  | true, a, vs => FzL H a vs
  | false, a, vs => SqT K H a vs
def ItSt (h : Heap) (it a : Addr) (i : Nat) : Bool → Prop
  | true => h.IsListIter it a i
  | false => h.IsTupleIter it a i
def SeqH (h : Heap) (a : Addr) (its : Array Value) : Bool → Prop
  | true => h.IsList a its
  | false => h.IsTuple a its
def itObj (a : Addr) : Bool → Obj
  | true => { cls := .type "list_iterator", data := .fields #[.ref a, .int 0 0] }
  | false => { cls := .type "tuple_iterator", data := .fields #[.ref a, .int 0 0] }
theorem SrcR.stp {K : PySem.W.Frag} {ι ι' : List Addr} {H H' : Hp} (s : Stp ι H ι' H') {a : Addr} {vs : List V} : ∀ {l : Bool}, SrcR K H l a vs → SrcR K H' l a vs
  | true, h => s.fzL h
  | false, h => s.sqT h
theorem ItSt.at {h h' : Heap} {it a : Addr} {i : Nat} : ∀ {l : Bool}, ItSt h it a i l → (∀ o, h.get? it = some o → h'.get? it = some o) → ItSt h' it a i l
  | true, x, k => Heap.IsListIter.at x k
  | false, x, k => Heap.IsTupleIter.at x k
theorem ItSt.obj {h : Heap} {it a : Addr} {i : Nat} : ∀ {l : Bool}, ItSt h it a i l → ∃ o, h.get? it = some o ∧ ∀ v, o.data ≠ .cell v
  | true, ⟨o, e, _, d⟩ => ⟨o, e, fun v z => by rw [d] at z; cases z⟩
  | false, ⟨o, e, _, d⟩ => ⟨o, e, fun v z => by rw [d] at z; cases z⟩
theorem itObj_st {h : Heap} {it a : Addr} : ∀ {l : Bool}, h.get? it = some (itObj a l) → ItSt h it a 0 l
  | true, e => ⟨_, e, rfl, rfl⟩
  | false, e => ⟨_, e, rfl, rfl⟩
theorem begins_src (a : Addr) (its : Array Value) : ∀ l : Bool, Begins (.ref a) (itObj a l) fun h => SeqH h a its l
  | true => begins_list a its
  | false => begins_tuple a its
theorem draws_src {prog : Program} {w : World} {A : Around} (hh : A.handled = none) (it a : Addr) (hne : a ≠ it) (its : Array Value) : ∀ l : Bool,
    Draws prog w A it [it, a] its.size (fun i v => its[i]? = some v) (fun i h => ItSt h it a i l ∧ SeqH h a its l)
  | true => Draws.list hh it a hne its
  | false => Draws.tuple hh it a hne its
theorem seqH_lt {h : Heap} {a : Addr} {its : Array Value} : ∀ {l : Bool}, SeqH h a its l → a < h.objs.size
  | true, ⟨_, e, _⟩ => Heap.lt_size e
  | false, ⟨_, e, _⟩ => Heap.lt_size e
section
variable {X : Cx} {pins : List (Addr × Obj)} {σ : L2.St} {H : Hp} {s : Shared}
theorem inv_src (I : Inv X pins σ H s) {a : Addr} {vs : List V} : ∀ {l : Bool}, SrcR X.K H l a vs → ∃ its : List Value, Vals vs its ∧ SeqH s.heap a its.toArray l ∧ vs.length ≤ sizeLine
  | true, h => by
    obtain ⟨its, r, p, z⟩ := I.list h.sq
    exact ⟨its, r, p.isList, z⟩
  | false, h => I.tuple h
end

/-! ### what gives new tuples -/
def Itn (src : Hp → Prop) (n : Nat) (row : Nat → List V) : It :=
  ⟨fun i H => src H ∧ i < n, fun i H x H' => ∃ T, x = .ref T ∧ H T = none ∧ H' = upd H T (.tup (row i)), fun i H => src H ∧ i = n⟩
theorem turn_new {P : Program} {w : World} {K : PySem.W.Frag} {tg : Expr} {src : Hp → Prop} {n : Nat} {row : Nat → List V} {fp : List Addr} {it : Addr} {tn : Nat → Heap → Prop} (mem : it ∈ fp)
    (obj : ∀ i h, tn i h → ∀ b ∈ fp, ∃ o, h.get? b = some o ∧ ∀ v, o.data ≠ .cell v) (keep : ∀ i h h', tn i h → (∀ b ∈ fp, ∀ o, h.get? b = some o → h'.get? b = some o) → tn i h')
    (self : ∀ (A : Around) (i : Nat) (s : Shared) (Q : Value → Shared → Prop) (E : Value → Shared → Prop), tn i s.heap → Q (.ref it) s → wpAny (model P w) A (pyIter (.ref it)) Q E s)
    (go : ∀ (X : Cx), X.prog = P → X.w = w → X.K = K → X.calm = true → ∀ (i : Nat) (pins : List (Addr × Obj)) (s : Shared) (σ : L2.St) (H : Hp), Inv X pins σ H s → src H → i ≤ n → tn i s.heap →
      ∃ fpG wr Y St, GoesN P w X.A tg it fpG wr n Y St ∧ St i s.heap ∧ (∀ b ∈ wr, b ∈ fp) ∧ (∀ h', St (i + 1) h' → tn (i + 1) h') ∧
        ∀ v h', i < n → Y i s.heap v h' → ∃ T its, v = .ref T ∧ s.heap.objs.size ≤ T ∧ h'.IsTuple T (List.toArray its) ∧ Vals (row i) its ∧ (row i).length ≤ sizeLine) : Turn P w K tg (Itn src n row) fp it tn where
  mem := mem
  obj := obj
  keep := keep
  self := self
  item := by
    intro X hP hw hK hc i pins s σ H E I hf st hg
    obtain ⟨hs, hi⟩ := hg
    obtain ⟨fpG, wr, Y, St, W, st', hwr, back, out⟩ := go X hP hw hK hc i pins s σ H I hs (Nat.le_of_lt hi) st
    refine W.goes i s _ E hi st' fun v h' tk y st1 hk _ => ?_
    obtain ⟨T, its, ev, hT, tup, rv, z⟩ := out v h' hi y
    subst ev
    have I1 : Inv X pins σ (upd H T (.tup (row i))) { s with heap := h', toks := tk } := I.turnedNew (ch := wr) hk (fun b hb => hf b (hwr b hb)) hT ⟨z, its, rv, tup⟩
    refine ⟨.ref T, _, I1, rfl, ⟨T, rfl, I.hok.fresh hT, rfl⟩, back _ st1, fun b hb => ?_⟩
    obtain ⟨o, e, _⟩ := obj _ _ st b hb
    rw [upd_ne (Nat.ne_of_lt (Nat.lt_of_lt_of_le (Heap.lt_size e) hT))]
    exact (hf b hb).1
  done := by
    intro X hP hw hK hc i pins s σ H E I hf st hg
    obtain ⟨hs, hi⟩ := hg
    subst hi
    obtain ⟨fpG, wr, Y, St, W, st', hwr, back, out⟩ := go X hP hw hK hc i pins s σ H I hs (Nat.le_refl _) st
    exact W.stops s _ E st' fun h' tk hk _ => I.turnedL (ch := wr) hk fun b hb => hf b (hwr b hb)

/-! ### enumerate -/
def rowE (vs : List V) (i : Nat) : List V := match vs[i]? with
  | some v => [.int (i : Int), v]
  | none => []
theorem turn_enumN {P : Program} {w : World} {K : PySem.W.Frag} {elts : List Expr} {kk : Nat} {tpos : Pos} (l : Bool) (a e it : Addr) (vs : List V) :
    Turn P w K (.Tuple elts kk tpos) (Itn (fun H => SrcR K H l a vs) vs.length (rowE vs)) [e, it] e (fun i h => (∃ old, IsEnum h e it (0 + ((i : Nat) : Int)) old) ∧ ItSt h it a i l ∧ e ≠ it ∧ a ≠ it ∧ e ≠ a) := by
  refine turn_new (by simp) (fun i h st b hb => ?_) (fun i h h' st k => ?_) (fun A i s Q E st h => ?_) fun X hP hw hK hc i pins s σ H I hs hi st => ?_
  · obtain ⟨⟨old, he⟩, hit, _⟩ := st
    have e' : b = e ∨ b = it := by simpa using hb
    rcases e' with z | z
    · rw [z]; exact ⟨_, he, fun v q => nomatch q⟩
    · rw [z]; exact hit.obj
  · obtain ⟨⟨old, he⟩, hit, n⟩ := st
    exact ⟨⟨old, k e (by simp) _ he⟩, hit.at fun o q => k it (by simp) o q, n⟩
  · obtain ⟨⟨old, he⟩, _⟩ := st
    exact wpAny_pyIter_enum he h
  · subst hP hw hK
    obtain ⟨he, hit, n1, n2, n3⟩ := st
    obtain ⟨its, rv, sq, _⟩ := inv_src I hs
    have hh : X.A.in1.handled = none := I.ok.hd hc
    have W := GoesN.enumFrom (elts := elts) (x1 := kk) (pos := tpos) 0 (draws_src (prog := X.prog) (w := X.w) hh it a n2 its.toArray l) e n1 (by simp; exact ⟨n1, n3⟩) (by simp)
    have hl : its.toArray.size = vs.length := by simp [rv.length]
    rw [hl] at W
    refine ⟨_, _, _, _, W, ⟨he, hit, sq⟩, fun b hb => hb, fun h' st' => ⟨st'.1, st'.2.1, n1, n2, n3⟩, fun v h' hi y => ?_⟩
    obtain ⟨T, t, x, ev, hT, hx, tup⟩ := y
    have hx' : its[i]? = some x := by simpa using hx
    obtain ⟨y, hy⟩ : ∃ y, vs[i]? = some y := ⟨_, List.getElem?_eq_getElem hi⟩
    obtain ⟨u, hu, ru⟩ := rv.get hy
    rw [hx'] at hu
    cases hu
    refine ⟨T, [.int (0 + (i : Int)) t, x], ev, hT, tup, ?_, ?_⟩
    · unfold rowE; rw [hy]
      exact .cons ⟨t, by rw [Int.zero_add]⟩ (.cons ru .nil)
    · unfold rowE; rw [hy]; show 2 ≤ sizeLine; decide
theorem enumD_get : ∀ {ds : List D} {i k : Nat} {d : D}, ds[i]? = some d → (enumD k ds)[i]? = some (.tup [.int ((k + i : Nat) : Int), d])
  | [], _, _, _, h => by simp at h
  | x :: xs, 0, k, d, h => by simp at h; subst h; simp [enumD]
  | x :: xs, i + 1, k, d, h => by
    have := enumD_get (k := k + 1) (i := i) (by simpa using h)
    simp only [enumD, List.getElem?_cons_succ, this]
    have e : k + 1 + i = k + (i + 1) := by omega
    rw [e]
theorem enumD_length : ∀ {ds : List D} {k : Nat}, (enumD k ds).length = ds.length
  | [], _ => rfl
  | x :: xs, k => by simp [enumD, enumD_length]
theorem walk_new {K : PySem.W.Frag} {ι : List Addr} {H : Hp} {src : Hp → Prop} {n : Nat} {row : Nat → List V} {ds : List D} (hn : ds.length = n) (hs : ∀ ι' H', Stp ι H ι' H' → src H') (hr : ∀ i ι' H', Stp ι H ι' H' → i < n → ∃ es, ds[i]? = some (.tup es) ∧ RDs K ι' H' es (row i)) :
    WalkOk K (Itn src n row) ds ι H where
  go := fun i ι' H' s hi => ⟨hs _ _ s, hn ▸ hi⟩
  yld := fun i ι' H' x H'' s hi y => by
    obtain ⟨T, e1, e2, e3⟩ := y
    subst e1 e3
    obtain ⟨es, h1, h2⟩ := hr i ι' H' s (hn ▸ hi)
    exact ⟨_, h1, .new e2, .tup (.of (upd_same ..)) (h2.mono (Ext.new e2).stp)⟩
  stop := fun ι' H' s => ⟨hs _ _ s, hn⟩
theorem walk_enum {K : PySem.W.Frag} {ι : List Addr} {H : Hp} {l : Bool} {a : Addr} {vs : List V} {ds : List D} (h : SrcR K H l a vs) (r : RDs K ι H ds vs) : WalkOk K (Itn (fun H => SrcR K H l a vs) vs.length (rowE vs)) (enumD 0 ds) ι H :=
  walk_new (by rw [enumD_length, r.length]) (fun _ _ s => h.stp s) fun i ι' H' s hi => by
    obtain ⟨d, h1, h2⟩ := (r.mono s).getV (List.getElem?_eq_getElem hi)
    refine ⟨_, enumD_get h1, ?_⟩
    unfold rowE
    rw [List.getElem?_eq_getElem hi, Nat.zero_add]
    exact .cons (.int _) (.cons h2 .nil)
def iEnumN (K : PySem.W.Frag) (ta : TA) : TI := fun σ H R => ta σ H fun vs H1 => ∃ l a xs, vs = [.ref a] ∧ SrcR K H1 l a xs ∧ R (Itn (fun H => SrcR K H l a xs) xs.length (rowE xs)) H1
theorem pi_enumN {X : Cx} {e : Expr} {ta : TA} {p pos tpos : Pos} {elts : List Expr} {kk : Nat} (hg : Gl X "enumerate") (hm : X.mg "enumerate" = none) (ha : PA X [e] ta) (hs : starEach [e] X.env = [(false, eval e X.env)]) :
    PI X (.Tuple elts kk tpos) (.Call (.Name "enumerate" p) [e] [] pos) (iEnumN X.K ta) := by
  refine ⟨fun pins s σ H R I h => ?_⟩
  refine Call_ (ld_blt I hg hm boot_enumerate (PyProof.Rows.callWith_type1 (thn (ha.run pos pins s σ H _ I h) fun us s1 ⟨vs, H1, I1, r1, q1⟩ => ?_) hs rfl))
  obtain ⟨l, a, xs, ex, hq, q⟩ := q1
  subst ex
  cases r1 with
  | cons r rr =>
    cases rr
    cases r
    obtain ⟨its, rv, sq, hz⟩ := inv_src I1 hq
    have hlt := seqH_lt sq
    refine enum_begins1 (begins_src a its.toArray l) sq fun h' he hit hsz hk => wpAny_pyIter_enum he ?_
    have I2 : Inv X pins σ H1 { s1 with heap := h' } := I1.kept (t' := s1.toks) hk
    refine ⟨s1.heap.objs.size + 1, [s1.heap.objs.size + 1, s1.heap.objs.size], _, _, H1, rfl, I2, turn_enumN l a (s1.heap.objs.size + 1) s1.heap.objs.size xs, ⟨⟨.none, by simpa using he⟩, itObj_st hit, Nat.succ_ne_self _, Nat.ne_of_lt hlt, Nat.ne_of_gt (Nat.lt_succ_of_lt hlt)⟩, fun b hb => ?_, q⟩
    have e' : b = s1.heap.objs.size + 1 ∨ b = s1.heap.objs.size := by simpa using hb
    have hle : s1.heap.objs.size ≤ b := by
      rcases e' with z | z
      · rw [z]; exact Nat.le_add_right _ _
      · rw [z]; exact Nat.le_refl _
    exact I1.fpOk hle (I1.hok.fresh hle)

/-! ### zip -/
def row2 (xs ys : List V) (i : Nat) : List V := match xs[i]?, ys[i]? with
  | some x, some y => [x, y]
  | _, _ => []
def row3 (xs ys zs : List V) (i : Nat) : List V := match xs[i]?, ys[i]?, zs[i]? with
  | some x, some y, some z => [x, y, z]
  | _, _, _ => []
theorem turn_zip2N {P : Program} {w : World} {K : PySem.W.Frag} {elts : List Expr} {kk : Nat} {tpos : Pos} (l1 l2 : Bool) (z TI TO i1 i2 a b : Addr) (xs ys : List V) (S : ZipSep2 z TI TO i1 i2 [i1, a] [i2, b]) (ha : a ≠ i1) (hb : b ≠ i2) :
    Turn P w K (.Tuple elts kk tpos) (Itn (fun H => SrcR K H l1 a xs ∧ SrcR K H l2 b ys) (min xs.length ys.length) (row2 xs ys)) [z, TI, TO, i1, i2] z
      (fun i h => IsZip h z TI TO .none ∧ IsTupOf2 h TI (.ref i1) (.ref i2) ∧ (∃ a1 a2, IsTupOf2 h TO a1 a2) ∧ ItSt h i1 a i l1 ∧ ItSt h i2 b i l2) := by
  refine turn_new (by simp) (fun i h st c hc => ?_) (fun i h h' st k => ?_) (fun A i s Q E st h => wpAny_pyIter_zip st.1 h) fun X hP hw hK hc i pins s σ H I hs hi st => ?_
  · obtain ⟨hz, hTI, ⟨x, y, hTO⟩, t1, t2⟩ := st
    have e' : c = z ∨ c = TI ∨ c = TO ∨ c = i1 ∨ c = i2 := by simpa using hc
    rcases e' with q | q | q | q | q
    · rw [q]; exact ⟨_, hz, fun v q => nomatch q⟩
    · rw [q]; exact ⟨_, hTI, fun v q => nomatch q⟩
    · rw [q]; exact ⟨_, hTO, fun v q => nomatch q⟩
    · rw [q]; exact t1.obj
    · rw [q]; exact t2.obj
  · obtain ⟨hz, hTI, ⟨x, y, hTO⟩, t1, t2⟩ := st
    exact ⟨k z (by simp) _ hz, k TI (by simp) _ hTI, ⟨x, y, k TO (by simp) _ hTO⟩, t1.at fun o q => k i1 (by simp) o q, t2.at fun o q => k i2 (by simp) o q⟩
  · subst hP hw hK
    obtain ⟨hz, hTI, hTO, t1, t2⟩ := st
    obtain ⟨its, rv, sq, _⟩ := inv_src I hs.1
    obtain ⟨its2, rv2, sq2, _⟩ := inv_src I hs.2
    have hh : X.A.in1.handled = none := I.ok.hd hc
    have W := GoesN.zip2 (elts := elts) (x1 := kk) (pos := tpos) S (draws_src (prog := X.prog) (w := X.w) hh i1 a ha its.toArray l1) (draws_src (prog := X.prog) (w := X.w) hh i2 b hb its2.toArray l2)
    have hl : min its.toArray.size its2.toArray.size = min xs.length ys.length := by simp [rv.length, rv2.length]
    rw [hl] at W
    refine ⟨_, _, _, _, W, ⟨hz, hTI, hTO, ⟨t1, sq⟩, ⟨t2, sq2⟩⟩, fun b hb => ?_, fun h' st' => ⟨st'.1, st'.2.1, st'.2.2.1, st'.2.2.2.1.1, st'.2.2.2.2.1⟩, fun v h' hi y => ?_⟩
    · simp at hb ⊢
      rcases hb with q | q | q | q <;> simp [q]
    obtain ⟨T, x, y, ev, hT, hx, hy, tup⟩ := y
    have hx' : its[i]? = some x := by simpa using hx
    have hy' : its2[i]? = some y := by simpa using hy
    have q1 : xs[i]? = some (xs[i]'(by omega)) := List.getElem?_eq_getElem _
    have q2 : ys[i]? = some (ys[i]'(by omega)) := List.getElem?_eq_getElem _
    obtain ⟨u, hu, ru⟩ := rv.get q1
    obtain ⟨u2, hu2, ru2⟩ := rv2.get q2
    rw [hx'] at hu; cases hu
    rw [hy'] at hu2; cases hu2
    refine ⟨T, [x, y], ev, hT, tup, ?_, ?_⟩
    · unfold row2; rw [q1, q2]
      exact .cons ru (.cons ru2 .nil)
    · unfold row2; rw [q1, q2]; show 2 ≤ sizeLine; decide
theorem turn_zip3N {P : Program} {w : World} {K : PySem.W.Frag} {elts : List Expr} {kk : Nat} {tpos : Pos} (l1 l2 l3 : Bool) (z TI TO i1 i2 i3 a b c : Addr) (xs ys zs : List V) (S : ZipSep3 z TI TO i1 i2 i3 [i1, a] [i2, b] [i3, c]) (ha : a ≠ i1) (hb : b ≠ i2) (hcn : c ≠ i3) :
    Turn P w K (.Tuple elts kk tpos) (Itn (fun H => SrcR K H l1 a xs ∧ SrcR K H l2 b ys ∧ SrcR K H l3 c zs) (min (min xs.length ys.length) zs.length) (row3 xs ys zs)) [z, TI, TO, i1, i2, i3] z
      (fun i h => IsZip h z TI TO .none ∧ IsTupOf3 h TI (.ref i1) (.ref i2) (.ref i3) ∧ (∃ a1 a2 a3, IsTupOf3 h TO a1 a2 a3) ∧ ItSt h i1 a i l1 ∧ ItSt h i2 b i l2 ∧ ItSt h i3 c i l3) := by
  refine turn_new (by simp) (fun i h st c hc => ?_) (fun i h h' st k => ?_) (fun A i s Q E st h => wpAny_pyIter_zip st.1 h) fun X hP hw hK hc i pins s σ H I hs hi st => ?_
  · obtain ⟨hz, hTI, ⟨x, y, u, hTO⟩, t1, t2, t3⟩ := st
    have e' : c = z ∨ c = TI ∨ c = TO ∨ c = i1 ∨ c = i2 ∨ c = i3 := by simpa using hc
    rcases e' with q | q | q | q | q | q
    · rw [q]; exact ⟨_, hz, fun v q => nomatch q⟩
    · rw [q]; exact ⟨_, hTI, fun v q => nomatch q⟩
    · rw [q]; exact ⟨_, hTO, fun v q => nomatch q⟩
    · rw [q]; exact t1.obj
    · rw [q]; exact t2.obj
    · rw [q]; exact t3.obj
  · obtain ⟨hz, hTI, ⟨x, y, u, hTO⟩, t1, t2, t3⟩ := st
    exact ⟨k z (by simp) _ hz, k TI (by simp) _ hTI, ⟨x, y, u, k TO (by simp) _ hTO⟩, t1.at fun o q => k i1 (by simp) o q, t2.at fun o q => k i2 (by simp) o q, t3.at fun o q => k i3 (by simp) o q⟩
  · subst hP hw hK
    obtain ⟨hz, hTI, hTO, t1, t2, t3⟩ := st
    obtain ⟨its, rv, sq, _⟩ := inv_src I hs.1
    obtain ⟨its2, rv2, sq2, _⟩ := inv_src I hs.2.1
    obtain ⟨its3, rv3, sq3, _⟩ := inv_src I hs.2.2
    have hh : X.A.in1.handled = none := I.ok.hd hc
    have W := GoesN.zip3 (elts := elts) (x1 := kk) (pos := tpos) S (draws_src (prog := X.prog) (w := X.w) hh i1 a ha its.toArray l1) (draws_src (prog := X.prog) (w := X.w) hh i2 b hb its2.toArray l2) (draws_src (prog := X.prog) (w := X.w) hh i3 c hcn its3.toArray l3)
    have hl : min (min its.toArray.size its2.toArray.size) its3.toArray.size = min (min xs.length ys.length) zs.length := by simp [rv.length, rv2.length, rv3.length]
    rw [hl] at W
    refine ⟨_, _, _, _, W, ⟨hz, hTI, hTO, ⟨t1, sq⟩, ⟨t2, sq2⟩, ⟨t3, sq3⟩⟩, fun b hb => ?_, fun h' st' => ⟨st'.1, st'.2.1, st'.2.2.1, st'.2.2.2.1.1, st'.2.2.2.2.1.1, st'.2.2.2.2.2.1⟩, fun v h' hi y => ?_⟩
    · simp at hb ⊢
      rcases hb with q | q | q | q | q <;> simp [q]
    obtain ⟨T, x, y, u, ev, hT, hx, hy, hu', tup⟩ := y
    have hx' : its[i]? = some x := by simpa using hx
    have hy' : its2[i]? = some y := by simpa using hy
    have hz' : its3[i]? = some u := by simpa using hu'
    have q1 : xs[i]? = some (xs[i]'(by omega)) := List.getElem?_eq_getElem _
    have q2 : ys[i]? = some (ys[i]'(by omega)) := List.getElem?_eq_getElem _
    have q3 : zs[i]? = some (zs[i]'(by omega)) := List.getElem?_eq_getElem _
    obtain ⟨u1, hu, ru⟩ := rv.get q1
    obtain ⟨u2, hu2, ru2⟩ := rv2.get q2
    obtain ⟨u3, hu3, ru3⟩ := rv3.get q3
    rw [hx'] at hu; cases hu
    rw [hy'] at hu2; cases hu2
    rw [hz'] at hu3; cases hu3
    refine ⟨T, [x, y, u], ev, hT, tup, ?_, ?_⟩
    · unfold row3; rw [q1, q2, q3]
      exact .cons ru (.cons ru2 (.cons ru3 .nil))
    · unfold row3; rw [q1, q2, q3]; show 3 ≤ sizeLine; decide
theorem zipD_length : ∀ {xs ys : List D}, (zipD xs ys).length = min xs.length ys.length
  | [], _ => by simp [zipD]
  | _ :: _, [] => by simp [zipD]
  | x :: xs, y :: ys => by simp [zipD, zipD_length]
theorem zipD_get : ∀ {xs ys : List D} {i : Nat} {x y : D}, xs[i]? = some x → ys[i]? = some y → (zipD xs ys)[i]? = some (.tup [x, y])
  | [], _, _, _, _, h, _ => by simp at h
  | _ :: _, [], _, _, _, _, h => by simp at h
  | x :: xs, y :: ys, 0, _, _, h, h' => by simp at h h'; subst h; subst h'; rfl
  | x :: xs, y :: ys, i + 1, _, _, h, h' => by simpa [zipD] using zipD_get (by simpa using h) (by simpa using h')
theorem zipD3_length : ∀ {xs ys zs : List D}, (zipD3 xs ys zs).length = min (min xs.length ys.length) zs.length
  | [], _, _ => by simp [zipD3]
  | _ :: _, [], _ => by simp [zipD3]
  | _ :: _, _ :: _, [] => by simp [zipD3]
  | x :: xs, y :: ys, z :: zs => by simp [zipD3, zipD3_length]
theorem zipD3_get : ∀ {xs ys zs : List D} {i : Nat} {x y z : D}, xs[i]? = some x → ys[i]? = some y → zs[i]? = some z → (zipD3 xs ys zs)[i]? = some (.tup [x, y, z])
  | [], _, _, _, _, _, _, h, _, _ => by simp at h
  | _ :: _, [], _, _, _, _, _, _, h, _ => by simp at h
  | _ :: _, _ :: _, [], _, _, _, _, _, _, h => by simp at h
  | x :: xs, y :: ys, z :: zs, 0, _, _, _, h, h', h'' => by simp at h h' h''; subst h; subst h'; subst h''; rfl
  | x :: xs, y :: ys, z :: zs, i + 1, _, _, _, h, h', h'' => by simpa [zipD3] using zipD3_get (by simpa using h) (by simpa using h') (by simpa using h'')
theorem walk_zip2 {K : PySem.W.Frag} {ι : List Addr} {H : Hp} {l1 l2 : Bool} {a b : Addr} {xs ys : List V} {ds es : List D} (h1 : SrcR K H l1 a xs) (h2 : SrcR K H l2 b ys) (r1 : RDs K ι H ds xs) (r2 : RDs K ι H es ys) :
    WalkOk K (Itn (fun H => SrcR K H l1 a xs ∧ SrcR K H l2 b ys) (min xs.length ys.length) (row2 xs ys)) (zipD ds es) ι H :=
  walk_new (by rw [zipD_length, r1.length, r2.length]) (fun _ _ s => ⟨h1.stp s, h2.stp s⟩) fun i ι' H' s hi => by
    have q1 : xs[i]? = some (xs[i]'(by omega)) := List.getElem?_eq_getElem _
    have q2 : ys[i]? = some (ys[i]'(by omega)) := List.getElem?_eq_getElem _
    obtain ⟨d, h1, h2⟩ := (r1.mono s).getV q1
    obtain ⟨e, h3, h4⟩ := (r2.mono s).getV q2
    refine ⟨_, zipD_get h1 h3, ?_⟩
    unfold row2
    rw [q1, q2]
    exact .cons h2 (.cons h4 .nil)
theorem walk_zip3 {K : PySem.W.Frag} {ι : List Addr} {H : Hp} {l1 l2 l3 : Bool} {a b c : Addr} {xs ys zs : List V} {ds es fs : List D} (h1 : SrcR K H l1 a xs) (h2 : SrcR K H l2 b ys) (h3 : SrcR K H l3 c zs) (r1 : RDs K ι H ds xs) (r2 : RDs K ι H es ys) (r3 : RDs K ι H fs zs) :
    WalkOk K (Itn (fun H => SrcR K H l1 a xs ∧ SrcR K H l2 b ys ∧ SrcR K H l3 c zs) (min (min xs.length ys.length) zs.length) (row3 xs ys zs)) (zipD3 ds es fs) ι H :=
  walk_new (by rw [zipD3_length, r1.length, r2.length, r3.length]) (fun _ _ s => ⟨h1.stp s, h2.stp s, h3.stp s⟩) fun i ι' H' s hi => by
    have q1 : xs[i]? = some (xs[i]'(by omega)) := List.getElem?_eq_getElem _
    have q2 : ys[i]? = some (ys[i]'(by omega)) := List.getElem?_eq_getElem _
    have q3 : zs[i]? = some (zs[i]'(by omega)) := List.getElem?_eq_getElem _
    obtain ⟨d, h1, h2⟩ := (r1.mono s).getV q1
    obtain ⟨e, h3, h4⟩ := (r2.mono s).getV q2
    obtain ⟨f, h5, h6⟩ := (r3.mono s).getV q3
    refine ⟨_, zipD3_get h1 h3 h5, ?_⟩
    unfold row3
    rw [q1, q2, q3]
    exact .cons h2 (.cons h4 (.cons h6 .nil))
def iZip2 (K : PySem.W.Frag) (ta : TA) : TI := fun σ H R => ta σ H fun vs H1 => ∃ l1 l2 a b xs ys, vs = [.ref a, .ref b] ∧ SrcR K H1 l1 a xs ∧ SrcR K H1 l2 b ys ∧ R (Itn (fun H => SrcR K H l1 a xs ∧ SrcR K H l2 b ys) (min xs.length ys.length) (row2 xs ys)) H1
def iZip3 (K : PySem.W.Frag) (ta : TA) : TI := fun σ H R => ta σ H fun vs H1 => ∃ l1 l2 l3 a b c xs ys zs, vs = [.ref a, .ref b, .ref c] ∧ SrcR K H1 l1 a xs ∧ SrcR K H1 l2 b ys ∧ SrcR K H1 l3 c zs ∧
  R (Itn (fun H => SrcR K H l1 a xs ∧ SrcR K H l2 b ys ∧ SrcR K H l3 c zs) (min (min xs.length ys.length) zs.length) (row3 xs ys zs)) H1
theorem pi_zip2 {X : Cx} {e e2 : Expr} {ta : TA} {p pos tpos : Pos} {elts : List Expr} {kk : Nat} (hg : Gl X "zip") (hm : X.mg "zip" = none) (ha : PA X [e, e2] ta)
    (hs : starEach [e, e2] X.env = (false, eval e X.env) :: starEach [e2] X.env) (hpl : (backTo pos (starEach [e2] X.env)).any (·.1) = false) :
    PI X (.Tuple elts kk tpos) (.Call (.Name "zip" p) [e, e2] [] pos) (iZip2 X.K ta) := by
  refine ⟨fun pins s σ H R I h => ?_⟩
  refine Call_ (ld_blt I hg hm PyProof.Rows.boot_zip (PyProof.Rows.callWith_type1 (thn (ha.run pos pins s σ H _ I h) fun us s1 ⟨vs, H1, I1, r1, q1⟩ => ?_) hs hpl))
  obtain ⟨l1, l2, a, b, xs, ys, ex, hqx, hqy, q⟩ := q1
  subst ex
  cases r1 with
  | cons r rr =>
    cases rr with
    | cons r' rr =>
      cases rr
      cases r
      cases r'
      obtain ⟨its, rv, sq1, _⟩ := inv_src I1 hqx
      obtain ⟨its2, rv2, sq2, _⟩ := inv_src I1 hqy
      have la := seqH_lt sq1
      have lb := seqH_lt sq2
      refine zip_begins2 (begins_src a its.toArray l1) (begins_src b its2.toArray l2) sq1 sq2 fun h' hz hTI hTO h1 h2 hsz hk => wpAny_pyIter_zip hz ?_
      have I2 : Inv X pins σ H1 { s1 with heap := h' } := I1.kept (t' := s1.toks) hk
      refine ⟨s1.heap.objs.size + 4, [s1.heap.objs.size + 4, s1.heap.objs.size + 2, s1.heap.objs.size + 3, s1.heap.objs.size, s1.heap.objs.size + 1], _, _, H1, rfl, I2,
        turn_zip2N l1 l2 _ _ _ _ _ a b xs ys (zip_sep2 (N := s1.heap.objs.size) (fp1 := [a]) (fp2 := [b]) (by simpa using la) (by simpa using lb)) (Nat.ne_of_lt la) (Nat.ne_of_lt (Nat.lt_succ_of_lt lb)), ⟨hz, hTI, ⟨_, _, hTO⟩, itObj_st h1, itObj_st h2⟩, fun c hcm => ?_, q⟩
      have e' : c = s1.heap.objs.size + 4 ∨ c = s1.heap.objs.size + 2 ∨ c = s1.heap.objs.size + 3 ∨ c = s1.heap.objs.size ∨ c = s1.heap.objs.size + 1 := by simpa using hcm
      have hle : s1.heap.objs.size ≤ c := by
        rcases e' with z | z | z | z | z <;> rw [z] <;> first | exact Nat.le_add_right _ _ | exact Nat.le_refl _
      exact I1.fpOk hle (I1.hok.fresh hle)
theorem pi_zip3 {X : Cx} {e e2 e3 : Expr} {ta : TA} {p pos tpos : Pos} {elts : List Expr} {kk : Nat} (hg : Gl X "zip") (hm : X.mg "zip" = none) (ha : PA X [e, e2, e3] ta)
    (hs : starEach [e, e2, e3] X.env = (false, eval e X.env) :: starEach [e2, e3] X.env) (hpl : (backTo pos (starEach [e2, e3] X.env)).any (·.1) = false) :
    PI X (.Tuple elts kk tpos) (.Call (.Name "zip" p) [e, e2, e3] [] pos) (iZip3 X.K ta) := by
  refine ⟨fun pins s σ H R I h => ?_⟩
  refine Call_ (ld_blt I hg hm PyProof.Rows.boot_zip (PyProof.Rows.callWith_type1 (thn (ha.run pos pins s σ H _ I h) fun us s1 ⟨vs, H1, I1, r1, q1⟩ => ?_) hs hpl))
  obtain ⟨l1, l2, l3, a, b, c, xs, ys, zs, ex, hqx, hqy, hqz, q⟩ := q1
  subst ex
  cases r1 with
  | cons r rr =>
    cases rr with
    | cons r' rr =>
      cases rr with
      | cons r'' rr =>
        cases rr
        cases r
        cases r'
        cases r''
        obtain ⟨its, rv, sq1, _⟩ := inv_src I1 hqx
        obtain ⟨its2, rv2, sq2, _⟩ := inv_src I1 hqy
        obtain ⟨its3, rv3, sq3, _⟩ := inv_src I1 hqz
        have la := seqH_lt sq1
        have lb := seqH_lt sq2
        have lc := seqH_lt sq3
        refine zip_begins3 (begins_src a its.toArray l1) (begins_src b its2.toArray l2) (begins_src c its3.toArray l3) sq1 sq2 sq3 fun h' hz hTI hTO h1 h2 h3 hsz hk => wpAny_pyIter_zip hz ?_
        have I2 : Inv X pins σ H1 { s1 with heap := h' } := I1.kept (t' := s1.toks) hk
        refine ⟨s1.heap.objs.size + 5, [s1.heap.objs.size + 5, s1.heap.objs.size + 3, s1.heap.objs.size + 4, s1.heap.objs.size, s1.heap.objs.size + 1, s1.heap.objs.size + 2], _, _, H1, rfl, I2,
          turn_zip3N l1 l2 l3 _ _ _ _ _ _ a b c xs ys zs (zip_sep3 (N := s1.heap.objs.size) (fp1 := [a]) (fp2 := [b]) (fp3 := [c]) (by simpa using la) (by simpa using lb) (by simpa using lc)) (Nat.ne_of_lt la) (Nat.ne_of_lt (Nat.lt_succ_of_lt lb)) (Nat.ne_of_lt (Nat.lt_succ_of_lt (Nat.lt_succ_of_lt lc))),
          ⟨hz, hTI, ⟨_, _, _, hTO⟩, itObj_st h1, itObj_st h2, itObj_st h3⟩, fun d hcm => ?_, q⟩
        have e' : d = s1.heap.objs.size + 5 ∨ d = s1.heap.objs.size + 3 ∨ d = s1.heap.objs.size + 4 ∨ d = s1.heap.objs.size ∨ d = s1.heap.objs.size + 1 ∨ d = s1.heap.objs.size + 2 := by simpa using hcm
        have hle : s1.heap.objs.size ≤ d := by
          rcases e' with z | z | z | z | z | z <;> rw [z] <;> first | exact Nat.le_add_right _ _ | exact Nat.le_refl _
        exact I1.fpOk hle (I1.hok.fresh hle)
end Ev
end

section
set_option Elab.async false
set_option linter.all false
set_option maxRecDepth 100000
set_option maxHeartbeats 4000000
namespace Ev
open PySem PySem.Spec PyProof.Rows L2

/-! ### an expression's step -/
structure Es (ι : List Addr) (H : Hp) (O : Addr → Prop) (ι' : List Addr) (H' : Hp) (O' : Addr → Prop) : Prop where
  stp : Stp ι H ι' H'
  fr : ∀ a ∈ ι', a ∈ ι ∨ H a = none
  kp : ∀ a o, H a = some o → a ∉ ι → ¬ O a → H' a = some o
  ow : ∀ a, O' a → O a
  dom : ∀ a, H' a = none → H a = none
section
variable {ι ι' ι'' : List Addr} {H H' H'' : Hp} {O O' O'' : Addr → Prop}
theorem Es.refl : Es ι H O ι H O := ⟨.refl, fun _ h => .inl h, fun _ _ h _ _ => h, fun _ h => h, fun _ h => h⟩
theorem Es.ext (e : Ext H H') : Es ι H O ι H' O := ⟨e.stp, fun _ h => .inl h, fun a o h _ _ => e a o h, fun _ h => h, fun a h => by
  cases q : H a with
  | none => rfl
  | some o => rw [e a o q] at h; cases h⟩
theorem Es.trans (a : Es ι H O ι' H' O') (b : Es ι' H' O' ι'' H'' O'') : Es ι H O ι'' H'' O'' := by
  refine ⟨a.stp.trans b.stp, fun x hx => ?_, fun x o h hi ho => ?_, fun x h => a.ow x (b.ow x h), fun x h => a.dom x (b.dom x h)⟩
  · rcases b.fr x hx with h | h
    · exact a.fr x h
    · exact .inr (a.dom x h)
  · refine b.kp x o (a.kp x o h hi ho) (fun hx => ?_) fun q => ho (a.ow x q)
    rcases a.fr x hx with z | z
    · exact hi z
    · rw [z] at h; cases h
theorem Es.out (a : Es ι H O ι' H' O') (e : Ext H' H'') : Es ι H O ι' H'' O' := a.trans (.ext e)
end
/-- a new thing was not there at the start -/
def NewAt (H : Hp) (x : RV) (v : V) : Prop := ∀ so a, x = .new so → v = .ref a → H a = none
theorem NewAt.d {H : Hp} {d : D} {v : V} : NewAt H (.d d) v := fun _ _ h => nomatch h
theorem NewAt.slot {H : Hp} {d : Nat} {v : V} : NewAt H (.slot d) v := fun _ _ h => nomatch h
theorem NewAt.es {ι ι' : List Addr} {H H' : Hp} {O O' : Addr → Prop} {x : RV} {v : V} (e : Es ι H O ι' H' O') (h : NewAt H' x v) : NewAt H x v := fun so a h1 h2 => e.dom a (h so a h1 h2)

section
variable {g : G} {ι ι' : List Addr} {ss ss' : SS} {σ : L2.St} {H H' : Hp}
theorem RRV.es {x : RV} {v : V} (r : RRV g ι ss σ H x v) (e : Es ι H (OwnA ss σ) ι' H' (OwnA ss' σ)) : RRV g ι' ss' σ H' x v := by
  cases x with
  | d x => exact RD.mono e.stp r
  | slot i => exact r
  | new so =>
    obtain ⟨a, h1, h2, h3, h4, h5⟩ := r
    obtain ⟨o, ho⟩ := h2.there
    refine ⟨a, h1, h2.mono e.stp (fun u q => e.kp a u q h3 h5), fun hm => ?_, h4, fun q => h5 (e.ow a q)⟩
    rcases e.fr a hm with z | z
    · exact h3 z
    · rw [z] at ho; cases ho
theorem resD_rra (r : Rel g ι ss σ H) {d : D} {v : V} {a : RA} (h : RD g.K ι H d v) (e : resD ss d = some a) : RRA g.K ι H a v := by
  cases d with
  | ref k =>
    obtain ⟨p, rfl, hp⟩ := RD.inv_ref h
    have e : (ss.st[k]?).map (RA.rf k) = some a := e
    cases q : ss.st[k]? with
    | none => rw [q] at e; cases e
    | some so =>
      rw [q] at e; cases e
      obtain ⟨b, h1, h2⟩ := r.sto k so q
      rw [hp] at h1; cases h1
      exact ⟨p, rfl, hp, h2⟩
  | _ => cases e; exact h
theorem res_rra (r : Rel g ι ss σ H) {x : RV} {v : V} {a : RA} (h : RRV g ι ss σ H x v) (e : res ss x = some a) : RRA g.K ι H a v := by
  cases x with
  | d d => exact resD_rra r h e
  | slot i =>
    have e : (match ss.env[i]? with
      | some (some (.own so)) => some (RA.own so)
      | some (some (.d x)) => resD ss x
      | _ => none) = some a := e
    have h : σ[i]? = some (some v) := h
    cases q : ss.env[i]? with
    | none => rw [q] at e; cases e
    | some o =>
      rw [q] at e
      cases o with
      | none => cases e
      | some ev =>
        cases ev with
        | own so =>
          cases e
          obtain ⟨b, h1, h2, _⟩ := r.own i so q
          rw [h] at h1; cases h1
          exact ⟨b, rfl, h2⟩
        | d x =>
          obtain ⟨w, h1, h2⟩ := r.dat i x q
          rw [h] at h1; cases h1
          exact resD_rra r h2 e
  | new so => cases e; obtain ⟨b, h1, h2, _⟩ := h; exact ⟨b, h1, h2⟩
theorem resAll_rra (r : Rel g ι ss σ H) : ∀ {xs : List RV} {vs : List V} {as : List RA}, Paired (RRV g ι ss σ H) xs vs → resAll ss xs = some as → Paired (RRA g.K ι H) as vs
  | [], _, _, h, e => by cases h; cases e; exact .nil
  | x :: xs, _, as, .cons h t, e => by
    unfold resAll at e
    cases q : res ss x with
    | none => rw [q] at e; cases e
    | some a =>
      cases q2 : resAll ss xs with
      | none => rw [q, q2] at e; cases e
      | some as' => rw [q, q2] at e; cases e; exact .cons (res_rra r h q) (resAll_rra r t q2)
theorem resDs_rra (r : Rel g ι ss σ H) : ∀ {xs : List D} {vs : List V} {as : List RA}, RDs g.K ι H xs vs → resDs ss xs = some as → Paired (RRA g.K ι H) as vs
  | [], _, _, h, e => by cases h; cases e; exact .nil
  | x :: xs, _, as, .cons h t, e => by
    unfold resDs at e
    cases q : resD ss x with
    | none => rw [q] at e; cases e
    | some a =>
      cases q2 : resDs ss xs with
      | none => rw [q, q2] at e; cases e
      | some as' => rw [q, q2] at e; cases e; exact .cons (resD_rra r h q) (resDs_rra r t q2)
theorem Rel.out (r : Rel g ι ss σ H) {x : RV} {v : V} (o : Out g.K ι H x v H') : RRV g ι ss σ H' x v ∧ NewAt H x v := by
  cases x with
  | d d => exact ⟨o.2, .d⟩
  | slot i => exact o.2.elim
  | new so =>
    obtain ⟨p, h1, h2, h3⟩ := o.2
    exact ⟨⟨p, h1, h3, r.freshI h2, r.freshH h2, r.freshOwn h2⟩, fun so a _ e => by rw [h1] at e; cases e; exact h2⟩
end

/-! ### readings -/
section
variable (g : G)
def tE (m : M RV) : TE := fun σ H Q => ∃ ι ss x ss', Rel g ι ss σ H ∧ m ss = some (x, ss') ∧ ∀ v ι' H', Rel g ι' ss' σ H' → RRV g ι' ss' σ H' x v → NewAt H x v → Es ι H (OwnA ss σ) ι' H' (OwnA ss' σ) → Gh (Q v) H'
def tD (m : M D) : TE := fun σ H Q => ∃ ι ss x ss', Rel g ι ss σ H ∧ m ss = some (x, ss') ∧ ∀ v ι' H', Rel g ι' ss' σ H' → RD g.K ι' H' x v → Es ι H (OwnA ss σ) ι' H' (OwnA ss' σ) → Gh (Q v) H'
def tT (m : M Bool) : TT := fun σ H Q => ∃ ι ss x ss', Rel g ι ss σ H ∧ m ss = some (x, ss') ∧ ∀ ι' H', Rel g ι' ss' σ H' → Es ι H (OwnA ss σ) ι' H' (OwnA ss' σ) → Gh (Q x) H'
def tDs (m : M (List D)) : TA := fun σ H Q => ∃ ι ss x ss', Rel g ι ss σ H ∧ m ss = some (x, ss') ∧ ∀ v ι' H', Rel g ι' ss' σ H' → RDs g.K ι' H' x v → Es ι H (OwnA ss σ) ι' H' (OwnA ss' σ) → Gh (Q v) H'
def tRs (m : M (List RV)) : TA := fun σ H Q => ∃ ι ss x ss', Rel g ι ss σ H ∧ m ss = some (x, ss') ∧ ∀ v ι' H', Rel g ι' ss' σ H' → Paired (RRV g ι' ss' σ H') x v → Es ι H (OwnA ss σ) ι' H' (OwnA ss' σ) → Gh (Q v) H'
def tI (m : M (List D)) : TI := fun σ H R => ∃ ι ss x ss', Rel g ι ss σ H ∧ m ss = some (x, ss') ∧ ∀ J ι' H', Rel g ι' ss' σ H' → WalkOk g.K J x ι' H' → Es ι H (OwnA ss σ) ι' H' (OwnA ss' σ) → Gh (R J) H'
/-- a target; sl: the slots that it may change -/
def tG (sl : List Nat) (m : D → M Unit) : TG := fun v σ H Q => ∃ ι ss d ss', Rel g ι ss σ H ∧ RD g.K ι H d v ∧ m d ss = some ((), ss') ∧
  ∀ σ' ι' H', Rel g ι' ss' σ' H' → σ'.length = σ.length → (∀ j, j ∉ sl → σ'[j]? = σ[j]?) → Es ι H (OwnA ss σ) ι' H' (OwnA ss' σ') → Gh (Q σ') H'
/-- n targets -/
def tGs (sl : List Nat) (n : Nat) (m : List D → M Unit) : TGs := fun v σ H Q => ∃ ι ss d ss', Rel g ι ss σ H ∧ RDs g.K ι H d v ∧ d.length = n ∧ m d ss = some ((), ss') ∧
  ∀ σ' ι' H', Rel g ι' ss' σ' H' → σ'.length = σ.length → (∀ j, j ∉ sl → σ'[j]? = σ[j]?) → Es ι H (OwnA ss σ) ι' H' (OwnA ss' σ') → Gh (Q σ') H'
end

/-! ### ghost steps ahead of and behind a rule -/
theorem Gh.inv2 {X : Cx} {pins : List (Addr × Obj)} {σ : L2.St} {s : Shared} {Q : Hp → Prop} {H : Hp} (h : Gh Q H) : Inv X pins σ H s → ∃ H', Inv X pins σ H' s ∧ Q H' ∧ ∀ b, H b = none → H' b = none := by
  induction h with
  | here q => exact fun I => ⟨_, I, q, fun _ h => h⟩
  | @frz H a vs ha _ ih =>
    intro I
    obtain ⟨o, I'⟩ := I.lock ha trivial
    obtain ⟨H', I2, q, n⟩ := ih o I'
    exact ⟨H', I2, q, fun b hb => n b (by rw [upd_ne (fun e => by rw [e, ha] at hb; cases hb)]; exact hb)⟩
section
variable {X : Cx} {e tg : Expr} {es : List Expr} {st : Stmt} {sts : List Stmt}
theorem _root_.L2.PE.to {t t' : TE} (h : PE X e t) (w : ∀ σ H Q, t' σ H Q → Gh (fun H => t σ H fun v H' => Gh (Q v) H') H) : PE X e t' := ⟨fun pins s σ H Q I q => by
  obtain ⟨H1, I1, q1⟩ := (w σ H Q q).inv I
  exact thn (h.run pins s σ H1 _ I1 q1) fun u s2 ⟨v, H2, I2, r2, q2⟩ => let ⟨H3, I3, q3⟩ := q2.inv I2; ⟨v, H3, I3, r2, q3⟩⟩
theorem _root_.L2.PT.to {t t' : TT} (h : PT X e t) (w : ∀ σ H Q, t' σ H Q → Gh (fun H => t σ H fun v H' => Gh (Q v) H') H) : PT X e t' := ⟨fun pins s σ H Q I q => by
  obtain ⟨H1, I1, q1⟩ := (w σ H Q q).inv I
  exact thn (h.run pins s σ H1 _ I1 q1) fun u s2 ⟨H2, I2, q2⟩ => let ⟨H3, I3, q3⟩ := q2.inv I2; ⟨H3, I3, q3⟩⟩
theorem _root_.L2.PW.to {t t' : TT} (h : PW X e t) (w : ∀ σ H Q, t' σ H Q → Gh (fun H => t σ H fun v H' => Gh (Q v) H') H) : PW X e t' := ⟨fun wh pins s σ H Q I q => by
  obtain ⟨H1, I1, q1⟩ := (w σ H Q q).inv I
  exact thn (h.run wh pins s σ H1 _ I1 q1) fun u s2 ⟨H2, I2, q2⟩ => let ⟨H3, I3, q3⟩ := q2.inv I2; ⟨H3, I3, q3⟩⟩
theorem _root_.L2.PTs.to {t t' : TT} (h : PTs X es t) (w : ∀ σ H Q, t' σ H Q → Gh (fun H => t σ H fun v H' => Gh (Q v) H') H) : PTs X es t' := ⟨fun pins s σ H Q I q => by
  obtain ⟨H1, I1, q1⟩ := (w σ H Q q).inv I
  exact thn (h.run pins s σ H1 _ I1 q1) fun u s2 ⟨H2, I2, q2⟩ => let ⟨H3, I3, q3⟩ := q2.inv I2; ⟨H3, I3, q3⟩⟩
theorem _root_.L2.PA.to {t t' : TA} (h : PA X es t) (w : ∀ σ H Q, t' σ H Q → Gh (fun H => t σ H fun v H' => Gh (Q v) H') H) : PA X es t' := ⟨fun pos pins s σ H Q I q => by
  obtain ⟨H1, I1, q1⟩ := (w σ H Q q).inv I
  exact thn (h.run pos pins s σ H1 _ I1 q1) fun u s2 ⟨v, H2, I2, r2, q2⟩ => let ⟨H3, I3, q3⟩ := q2.inv I2; ⟨v, H3, I3, r2, q3⟩⟩
theorem _root_.L2.PI.to {t t' : TI} (h : PI X tg e t) (w : ∀ σ H R, t' σ H R → Gh (fun H => t σ H fun v H' => Gh (R v) H') H) : PI X tg e t' := ⟨fun pins s σ H R I q => by
  obtain ⟨H1, I1, q1⟩ := (w σ H R q).inv I
  refine thn (h.run pins s σ H1 _ I1 q1) fun u s2 h2 => thn h2 fun itv s3 ⟨it, fp, tn, J, H2, e1, I2, T, st2, f2, q2⟩ => ?_
  obtain ⟨H3, I3, q3, n3⟩ := q2.inv2 I2
  exact ⟨it, fp, tn, J, H3, e1, I3, T, st2, fun b hb => ⟨n3 b (f2 b hb).1, (f2 b hb).2⟩, q3⟩⟩
theorem _root_.L2.PG.to {t t' : TG} (h : PG X tg t) (w : ∀ v σ H Q, t' v σ H Q → Gh (fun H => t v σ H fun σ' H' => Gh (Q σ') H') H) : PG X tg t' := ⟨fun pins s σ H v u Q I r q => by
  obtain ⟨H1, I1, q1⟩ := (w v σ H Q q).inv I
  exact thn (h.run pins s σ H1 v u _ I1 r q1) fun _ s2 ⟨σ2, H2, I2, q2⟩ => let ⟨H3, I3, q3⟩ := q2.inv I2; ⟨σ2, H3, I3, q3⟩⟩
theorem _root_.L2.PGs.to {t t' : TGs} (h : PGs X es t) (w : ∀ v σ H Q, t' v σ H Q → Gh (fun H => t v σ H fun σ' H' => Gh (Q σ') H') H) : PGs X es t' := ⟨fun pins s σ H v u Q I r q => by
  obtain ⟨H1, I1, q1⟩ := (w v σ H Q q).inv I
  exact thn (h.run pins s σ H1 v u _ I1 r q1) fun _ s2 ⟨σ2, H2, I2, q2⟩ => let ⟨H3, I3, q3⟩ := q2.inv I2; ⟨σ2, H3, I3, q3⟩⟩
/-- ends behind ghost steps -/
def ghD (D : Ends) : Ends := ⟨fun σ H => Gh (D.nx σ) H, fun v H => Gh (D.rt v) H, fun σ H => Gh (D.bk σ) H, fun σ H => Gh (D.ct σ) H⟩
theorem sp_gh {pins : List (Addr × Obj)} {D : Ends} {f : Flow} {s' : Shared} (h : SP X pins (ghD D) f s') : SP X pins D f s' := by
  cases f with
  | next => obtain ⟨σ', H', I, q⟩ := h; obtain ⟨H2, I2, q2⟩ := q.inv I; exact ⟨σ', H2, I2, q2⟩
  | brk => obtain ⟨σ', H', I, q⟩ := h; obtain ⟨H2, I2, q2⟩ := q.inv I; exact ⟨σ', H2, I2, q2⟩
  | cont => obtain ⟨σ', H', I, q⟩ := h; obtain ⟨H2, I2, q2⟩ := q.inv I; exact ⟨σ', H2, I2, q2⟩
  | ret u => obtain ⟨v, σ', H', I, r, q⟩ := h; obtain ⟨H2, I2, q2⟩ := q.inv I; exact ⟨v, σ', H2, I2, r, q2⟩
theorem _root_.L2.PS.to {t t' : TS} (h : PS X st t) (w : ∀ D σ H, t' D σ H → Gh (fun H => t (ghD D) σ H) H) : PS X st t' := ⟨fun pins s σ H D I q => by
  obtain ⟨H1, I1, q1⟩ := (w D σ H q).inv I
  exact thn (h.run pins s σ H1 _ I1 q1) fun u s2 q2 => sp_gh q2⟩
theorem _root_.L2.PSs.to {t t' : TS} (h : PSs X sts t) (w : ∀ D σ H, t' D σ H → Gh (fun H => t (ghD D) σ H) H) : PSs X sts t' := ⟨fun pins s σ H D I q => by
  obtain ⟨H1, I1, q1⟩ := (w D σ H q).inv I
  exact thn (h.run pins s σ H1 _ I1 q1) fun u s2 q2 => sp_gh q2⟩
end

/-! ### the monad, taken apart -/
theorem rsv_some {x : RV} {ss ss' : SS} {a : RA} (h : rsv x ss = some (a, ss')) : res ss x = some a ∧ ss' = ss := by
  unfold rsv at h
  cases e : res ss x with
  | none => rw [e] at h; cases h
  | some b => rw [e] at h; cases h; exact ⟨rfl, rfl⟩
theorem rsvs_some {x : List RV} {ss ss' : SS} {a : List RA} (h : rsvs x ss = some (a, ss')) : resAll ss x = some a ∧ ss' = ss := by
  unfold rsvs at h
  cases e : resAll ss x with
  | none => rw [e] at h; cases h
  | some b => rw [e] at h; cases h; exact ⟨rfl, rfl⟩
theorem rsvDs_some {x : List D} {ss ss' : SS} {a : List RA} (h : rsvDs x ss = some (a, ss')) : resDs ss x = some a ∧ ss' = ss := by
  unfold rsvDs at h
  cases e : resDs ss x with
  | none => rw [e] at h; cases h
  | some b => rw [e] at h; cases h; exact ⟨rfl, rfl⟩
theorem ret_some {α : Type} {a b : α} {ss ss' : SS} (h : ret a ss = some (b, ss')) : b = a ∧ ss' = ss := by cases h; exact ⟨rfl, rfl⟩

section
variable {X : Cx} {g : G} {a b c : Expr} {pos : Pos} {m n l : M RV}
/-! ### constants, names -/
theorem pe_cE {d : D} {v : V} (h : PE X a (tC v)) (hd : ∀ ι H, RD g.K ι H d v) : PE X a (tE g (ret (.d d))) := h.to fun σ H Q ⟨ι, ss, x, ss', rel, e, k⟩ => by
  obtain ⟨rfl, rfl⟩ := ret_some e
  exact .here (k v ι H rel (hd ι H) .d .refl)
theorem pe_vE {i : Nat} (h : PE X a (tVar i)) : PE X a (tE g (getV i)) := h.to fun σ H Q ⟨ι, ss, x, ss', rel, e, k⟩ => by
  unfold getV at e
  split at e
  · rename_i d hd
    cases e
    obtain ⟨v, h1, h2⟩ := rel.dat i _ hd
    exact .here ⟨v, h1, k v ι H rel h2 .d .refl⟩
  · rename_i so hs
    cases e
    obtain ⟨p, h1, _⟩ := rel.own i _ hs
    exact .here ⟨_, h1, k _ ι H rel h1 .slot .refl⟩
  · cases e
/-! ### operators -/
theorem pe_binE (hK : g.K = X.K) (o : Operator) (ha : PE X a (tE g m)) (hb : PE X b (tE g n)) :
    PE X (.BinOp a o b pos) (tE g (bnd m fun x => bnd n fun y => bnd (rsv x) fun p => bnd (rsv y) fun q => opt (binop o p q))) := by
  have ho := op_bin (X := X) o
  rw [← hK] at ho
  refine (pe_op ho ha hb).to fun σ H Q ⟨ι, ss, z, ss', rel, e, k⟩ => .here ?_
  obtain ⟨x, s1, e1, f1⟩ := bnd_some e
  obtain ⟨y, s2, e2, f2⟩ := bnd_some f1
  obtain ⟨p, s3, e3, f3⟩ := bnd_some f2
  obtain ⟨q, s4, e4, f4⟩ := bnd_some f3
  obtain ⟨h3, rfl⟩ := rsv_some e3
  obtain ⟨h4, rfl⟩ := rsv_some e4
  obtain ⟨e5, rfl⟩ := opt_some f4
  refine ⟨ι, ss, x, s1, rel, e1, fun v ι1 H1 rel1 rv1 _ es1 => .here ⟨ι1, s1, y, _, rel1, e2, fun w ι2 H2 rel2 rw2 _ es2 => .here ?_⟩⟩
  refine ⟨ι2, p, q, z, res_rra rel2 (rv1.es es2) h3, res_rra rel2 rw2 h4, e5, fun v' H3 out => ?_⟩
  obtain ⟨o1, o2⟩ := rel2.out out
  exact k v' ι2 H3 (rel2.ext out.1) o1 (.es (es1.trans es2) o2) ((es1.trans es2).out out.1)
theorem pe_cmpE (hK : g.K = X.K) (hu : X.A.units + 64 < cLine) (o : CmpOp) (ha : PE X a (tE g m)) (hb : PE X b (tE g n)) (hm : behindInMarks o b = false) :
    PE X (.Compare a [o] [b] pos) (tE g (bnd m fun x => bnd n fun y => bnd (rsv x) fun p => bnd (rsv y) fun q => bnd (opt (cmpop o p q)) fun k => ret (.d (.bl k)))) := by
  have ho := op_cmp (X := X) hu o
  rw [← hK] at ho
  refine (pe_cmpR ho ha hb hm).to fun σ H Q ⟨ι, ss, z, ss', rel, e, k⟩ => .here ?_
  obtain ⟨x, s1, e1, f1⟩ := bnd_some e
  obtain ⟨y, s2, e2, f2⟩ := bnd_some f1
  obtain ⟨p, s3, e3, f3⟩ := bnd_some f2
  obtain ⟨q, s4, e4, f4⟩ := bnd_some f3
  obtain ⟨r, s5, e5, f5⟩ := bnd_some f4
  obtain ⟨h3, rfl⟩ := rsv_some e3
  obtain ⟨h4, rfl⟩ := rsv_some e4
  obtain ⟨h5, rfl⟩ := opt_some e5
  obtain ⟨rfl, rfl⟩ := ret_some f5
  refine ⟨ι, ss, x, s1, rel, e1, fun v ι1 H1 rel1 rv1 _ es1 => .here ⟨ι1, s1, y, _, rel1, e2, fun w ι2 H2 rel2 rw2 _ es2 => .here ?_⟩⟩
  exact ⟨ι2, p, q, r, res_rra rel2 (rv1.es es2) h3, res_rra rel2 rw2 h4, h5, k _ ι2 H2 rel2 (.bl r) .d (es1.trans es2)⟩
theorem pt_cmpE (hK : g.K = X.K) (hu : X.A.units + 64 < cLine) (o : CmpOp) (ha : PE X a (tE g m)) (hb : PE X b (tE g n)) (hm : behindInMarks o b = false) :
    PT X (.Compare a [o] [b] pos) (tT g (bnd m fun x => bnd n fun y => bnd (rsv x) fun p => bnd (rsv y) fun q => opt (cmpop o p q))) := by
  have ho := op_cmp (X := X) hu o
  rw [← hK] at ho
  refine (pt_cmpR ho ha hb hm).to fun σ H Q ⟨ι, ss, z, ss', rel, e, k⟩ => .here ?_
  obtain ⟨x, s1, e1, f1⟩ := bnd_some e
  obtain ⟨y, s2, e2, f2⟩ := bnd_some f1
  obtain ⟨p, s3, e3, f3⟩ := bnd_some f2
  obtain ⟨q, s4, e4, f4⟩ := bnd_some f3
  obtain ⟨h3, rfl⟩ := rsv_some e3
  obtain ⟨h4, rfl⟩ := rsv_some e4
  obtain ⟨e5, rfl⟩ := opt_some f4
  refine ⟨ι, ss, x, s1, rel, e1, fun v ι1 H1 rel1 rv1 _ es1 => .here ⟨ι1, s1, y, _, rel1, e2, fun w ι2 H2 rel2 rw2 _ es2 => .here ?_⟩⟩
  exact ⟨ι2, p, q, z, res_rra rel2 (rv1.es es2) h3, res_rra rel2 rw2 h4, e5, z, rfl, k ι2 H2 rel2 (es1.trans es2)⟩
theorem pe_chnE (hK : g.K = X.K) (hu : X.A.units + 64 < cLine) (o o' : CmpOp) (ha : PE X a (tE g m)) (hb : PE X b (tE g n)) (hc : PE X c (tE g l)) (hm : lastMarks [o, o'] [b, c] = false) :
    PE X (.Compare a [o, o'] [b, c] pos) (tE g (bnd m fun x => bnd n fun y => bnd (rsv x) fun x' => bnd (rsv y) fun y' => bnd (opt (cmpop o x' y')) fun k =>
      if k = true then bnd l fun z => bnd (rsv y) fun y'' => bnd (rsv z) fun z' => bnd (opt (cmpop o' y'' z')) fun k => ret (.d (.bl k)) else ret (.d (.bl false)))) := by
  have ho := op_cmp (X := X) hu o
  have ho' := op_cmp (X := X) hu o'
  rw [← hK] at ho ho'
  refine (pe_chain ho ho' ha hb hc hm).to fun σ H Q ⟨ι, ss, z, ss', rel, e, k⟩ => .here ?_
  obtain ⟨x, s1, e1, f1⟩ := bnd_some e
  obtain ⟨y, s2, e2, f2⟩ := bnd_some f1
  obtain ⟨p, s3, e3, f3⟩ := bnd_some f2
  obtain ⟨q, s4, e4, f4⟩ := bnd_some f3
  obtain ⟨r, s5, e5, f5⟩ := bnd_some f4
  obtain ⟨h3, rfl⟩ := rsv_some e3
  obtain ⟨h4, rfl⟩ := rsv_some e4
  obtain ⟨h5, rfl⟩ := opt_some e5
  refine ⟨ι, ss, x, s1, rel, e1, fun v ι1 H1 rel1 rv1 _ es1 => .here ⟨ι1, s1, y, _, rel1, e2, fun w ι2 H2 rel2 rw2 _ es2 => .here ?_⟩⟩
  refine ⟨ι2, p, q, r, res_rra rel2 (rv1.es es2) h3, res_rra rel2 rw2 h4, h5, r, rfl, ?_⟩
  cases r with
  | false =>
    obtain ⟨rfl, rfl⟩ := ret_some f5
    exact k _ ι2 H2 rel2 (.bl false) .d (es1.trans es2)
  | true =>
    obtain ⟨u, s6, e6, f6⟩ := bnd_some f5
    obtain ⟨p', s7, e7, f7⟩ := bnd_some f6
    obtain ⟨q', s8, e8, f8⟩ := bnd_some f7
    obtain ⟨r', s9, e9, f9⟩ := bnd_some f8
    obtain ⟨h7, rfl⟩ := rsv_some e7
    obtain ⟨h8, rfl⟩ := rsv_some e8
    obtain ⟨h9, rfl⟩ := opt_some e9
    obtain ⟨rfl, rfl⟩ := ret_some f9
    refine ⟨ι2, _, u, _, rel2, e6, fun v3 ι3 H3 rel3 rv3 _ es3 => .here ?_⟩
    exact ⟨ι3, p', q', r', res_rra rel3 (rw2.es es3) h7, res_rra rel3 rv3 h8, h9, k _ ι3 H3 rel3 (.bl r') .d ((es1.trans es2).trans es3)⟩
theorem pt_chnE (hK : g.K = X.K) (hu : X.A.units + 64 < cLine) (o o' : CmpOp) (ha : PE X a (tE g m)) (hb : PE X b (tE g n)) (hc : PE X c (tE g l)) (hm : lastMarks [o, o'] [b, c] = false) :
    PT X (.Compare a [o, o'] [b, c] pos) (tT g (bnd m fun x => bnd n fun y => bnd (rsv x) fun x' => bnd (rsv y) fun y' => bnd (opt (cmpop o x' y')) fun k =>
      if k = true then bnd l fun z => bnd (rsv y) fun y'' => bnd (rsv z) fun z' => opt (cmpop o' y'' z') else ret false)) := by
  have ho := op_cmp (X := X) hu o
  have ho' := op_cmp (X := X) hu o'
  rw [← hK] at ho ho'
  refine (pt_chain ho ho' ha hb hc hm).to fun σ H Q ⟨ι, ss, z, ss', rel, e, k⟩ => .here ?_
  obtain ⟨x, s1, e1, f1⟩ := bnd_some e
  obtain ⟨y, s2, e2, f2⟩ := bnd_some f1
  obtain ⟨p, s3, e3, f3⟩ := bnd_some f2
  obtain ⟨q, s4, e4, f4⟩ := bnd_some f3
  obtain ⟨r, s5, e5, f5⟩ := bnd_some f4
  obtain ⟨h3, rfl⟩ := rsv_some e3
  obtain ⟨h4, rfl⟩ := rsv_some e4
  obtain ⟨h5, rfl⟩ := opt_some e5
  refine ⟨ι, ss, x, s1, rel, e1, fun v ι1 H1 rel1 rv1 _ es1 => .here ⟨ι1, s1, y, _, rel1, e2, fun w ι2 H2 rel2 rw2 _ es2 => .here ?_⟩⟩
  refine ⟨ι2, p, q, r, res_rra rel2 (rv1.es es2) h3, res_rra rel2 rw2 h4, h5, r, rfl, ?_⟩
  cases r with
  | false =>
    obtain ⟨rfl, rfl⟩ := ret_some f5
    exact ⟨false, rfl, k ι2 H2 rel2 (es1.trans es2)⟩
  | true =>
    obtain ⟨u, s6, e6, f6⟩ := bnd_some f5
    obtain ⟨p', s7, e7, f7⟩ := bnd_some f6
    obtain ⟨q', s8, e8, f8⟩ := bnd_some f7
    obtain ⟨h7, rfl⟩ := rsv_some e7
    obtain ⟨h8, rfl⟩ := rsv_some e8
    obtain ⟨e9, rfl⟩ := opt_some f8
    refine ⟨ι2, _, u, _, rel2, e6, fun v3 ι3 H3 rel3 rv3 _ es3 => .here ?_⟩
    exact ⟨ι3, p', q', z, res_rra rel3 (rw2.es es3) h7, res_rra rel3 rv3 h8, e9, z, rfl, k ι3 H3 rel3 ((es1.trans es2).trans es3)⟩
end
end Ev
end

section
set_option Elab.async false
set_option linter.all false
set_option maxRecDepth 100000
set_option maxHeartbeats 4000000
namespace Ev
open PySem PySem.Spec PyProof.Rows L2

section
variable {X : Cx} {g : G} {a b c : Expr} {pos : Pos} {m n l : M RV} {mt nt : M Bool}
theorem pe_negE (ha : PE X a (tE g m)) : PE X (.UnaryOp .USub a pos) (tE g (bnd m fun x => match x with
    | .d (.int i) => ret (.d (.int (-i)))
    | _ => fail)) := (pe_un un_neg ha).to fun σ H Q ⟨ι, ss, z, ss', rel, e, k⟩ => .here (by
  obtain ⟨x, s1, e1, f1⟩ := bnd_some e
  refine ⟨ι, ss, x, s1, rel, e1, fun v ι1 H1 rel1 rv1 hna es1 => .here ?_⟩
  clear hna
  split at f1
  · rename_i i
    obtain ⟨rfl, rfl⟩ := ret_some f1
    exact ⟨i, RD.inv_int rv1, k _ ι1 H1 rel1 (.int _) .d es1⟩
  · cases f1)
theorem pe_notE (hK : g.K = X.K) (ha : PE X a (tE g m)) : PE X (.UnaryOp .Not a pos) (tE g (bnd m fun x => bnd (rsv x) fun p => bnd (opt (truth p)) fun b => ret (.d (.bl (!b))))) := (pe_notT ha).to fun σ H Q ⟨ι, ss, z, ss', rel, e, k⟩ => .here (by
  obtain ⟨x, s1, e1, f1⟩ := bnd_some e
  obtain ⟨p, s2, e2, f2⟩ := bnd_some f1
  obtain ⟨t, s3, e3, f3⟩ := bnd_some f2
  obtain ⟨h2, rfl⟩ := rsv_some e2
  obtain ⟨h3, rfl⟩ := opt_some e3
  obtain ⟨rfl, rfl⟩ := ret_some f3
  refine ⟨ι, ss, x, _, rel, e1, fun v ι1 H1 rel1 rv1 _ es1 => .here ?_⟩
  exact ⟨t, hK ▸ truV_of (res_rra rel1 rv1 h2) h3, k _ ι1 H1 rel1 (.bl _) .d es1⟩)
theorem pe_andE {rest : List Expr} (ha : PE X a (tE g m)) (hb : PE X (.BoolOp .And (b :: rest) pos) (tE g n)) : PE X (.BoolOp .And (a :: b :: rest) pos) (tE g (bnd m fun x => match x with
    | .d (.bl true) => n
    | .d (.bl false) => ret (.d (.bl false))
    | _ => fail)) := (pe_and ha hb).to fun σ H Q ⟨ι, ss, z, ss', rel, e, k⟩ => .here (by
  obtain ⟨x, s1, e1, f1⟩ := bnd_some e
  refine ⟨ι, ss, x, s1, rel, e1, fun v ι1 H1 rel1 rv1 _ es1 => .here ?_⟩
  split at f1
  · refine ⟨true, RD.inv_bl rv1, ?_⟩
    rw [if_pos rfl]
    exact ⟨ι1, s1, z, ss', rel1, f1, fun v2 ι2 H2 rel2 rv2 na2 es2 => .here (k v2 ι2 H2 rel2 rv2 (na2.es es1) (es1.trans es2))⟩
  · obtain ⟨rfl, rfl⟩ := ret_some f1
    refine ⟨false, RD.inv_bl rv1, ?_⟩
    exact k _ ι1 H1 rel1 (.bl false) .d es1
  · cases f1)
theorem pe_orE {rest : List Expr} (ha : PE X a (tE g m)) (hb : PE X (.BoolOp .Or (b :: rest) pos) (tE g n)) : PE X (.BoolOp .Or (a :: b :: rest) pos) (tE g (bnd m fun x => match x with
    | .d (.bl true) => ret (.d (.bl true))
    | .d (.bl false) => n
    | _ => fail)) := (pe_or ha hb).to fun σ H Q ⟨ι, ss, z, ss', rel, e, k⟩ => .here (by
  obtain ⟨x, s1, e1, f1⟩ := bnd_some e
  refine ⟨ι, ss, x, s1, rel, e1, fun v ι1 H1 rel1 rv1 _ es1 => .here ?_⟩
  split at f1
  · obtain ⟨rfl, rfl⟩ := ret_some f1
    refine ⟨true, RD.inv_bl rv1, ?_⟩
    exact k _ ι1 H1 rel1 (.bl true) .d es1
  · refine ⟨false, RD.inv_bl rv1, ?_⟩
    exact ⟨ι1, s1, z, ss', rel1, f1, fun v2 ι2 H2 rel2 rv2 na2 es2 => .here (k v2 ι2 H2 rel2 rv2 (na2.es es1) (es1.trans es2))⟩
  · cases f1)
theorem pe_iteE (hc : PT X c (tT g mt)) (ha : PE X a (tE g m)) (hb : PE X b (tE g n)) : PE X (.IfExp c a b pos) (tE g (bnd mt fun k => if k = true then m else n)) := (pe_ifExp hc ha hb).to fun σ H Q ⟨ι, ss, z, ss', rel, e, k⟩ => .here (by
  obtain ⟨x, s1, e1, f1⟩ := bnd_some e
  refine ⟨ι, ss, x, s1, rel, e1, fun ι1 H1 rel1 es1 => .here ?_⟩
  cases x with
  | true => exact ⟨ι1, s1, z, ss', rel1, f1, fun v2 ι2 H2 rel2 rv2 na2 es2 => .here (k v2 ι2 H2 rel2 rv2 (na2.es es1) (es1.trans es2))⟩
  | false => exact ⟨ι1, s1, z, ss', rel1, f1, fun v2 ι2 H2 rel2 rv2 na2 es2 => .here (k v2 ι2 H2 rel2 rv2 (na2.es es1) (es1.trans es2))⟩)
/-! ### tests -/
theorem pt_truE (hK : g.K = X.K) (ha : PE X a (tE g m)) (he : ∀ whole, isTrue a X.env whole = (do let v ← whole; standAt a.pos; holding [v] (truthy v))) : PT X a (tT g (bnd m fun x => bnd (rsv x) fun p => opt (truth p))) := (pt_truth ha he).to fun σ H Q ⟨ι, ss, z, ss', rel, e, k⟩ => .here (by
  obtain ⟨x, s1, e1, f1⟩ := bnd_some e
  obtain ⟨p, s2, e2, f2⟩ := bnd_some f1
  obtain ⟨h2, rfl⟩ := rsv_some e2
  obtain ⟨h3, rfl⟩ := opt_some f2
  refine ⟨ι, ss, x, _, rel, e1, fun v ι1 H1 rel1 rv1 _ es1 => .here ?_⟩
  exact ⟨z, hK ▸ truV_of (res_rra rel1 rv1 h2) h3, k ι1 H1 rel1 es1⟩)
theorem pt_notE (ha : PT X a (tT g mt)) : PT X (.UnaryOp .Not a pos) (tT g (bnd mt fun b => ret (!b))) := (pt_not ha).to fun σ H Q ⟨ι, ss, z, ss', rel, e, k⟩ => .here (by
  obtain ⟨x, s1, e1, f1⟩ := bnd_some e
  obtain ⟨rfl, rfl⟩ := ret_some f1
  exact ⟨ι, ss, x, _, rel, e1, fun ι1 H1 rel1 es1 => .here (k ι1 H1 rel1 es1)⟩)
theorem pw_of {op : BoolOp} {vs : List Expr} {t : TT} (h : PT X (.BoolOp op vs pos) t) : PW X (.BoolOp op vs pos) t := ⟨fun wh pins s σ H Q I q => by
  have := h.run pins s σ H Q I q
  unfold PySem.isTrue at this ⊢
  exact this⟩
theorem pt_and1 (ha : PT X a (tT g mt)) : PT X (.BoolOp .And [a] pos) (tT g mt) := (pw_and1 ha).pt
theorem pt_or1 (ha : PT X a (tT g mt)) : PT X (.BoolOp .Or [a] pos) (tT g mt) := (pw_or1 ha).pt
theorem pt_andE {rest : List Expr} (ha : PT X a (tT g mt)) (hb : PT X (.BoolOp .And (b :: rest) pos) (tT g nt)) : PT X (.BoolOp .And (a :: b :: rest) pos) (tT g (bnd mt fun k => if k = true then nt else ret false)) :=
  ((pw_and ha (pw_of hb)).pt).to fun σ H Q ⟨ι, ss, z, ss', rel, e, k⟩ => .here (by
  obtain ⟨x, s1, e1, f1⟩ := bnd_some e
  refine ⟨ι, ss, x, s1, rel, e1, fun ι1 H1 rel1 es1 => .here ?_⟩
  cases x with
  | true => exact ⟨ι1, s1, z, ss', rel1, f1, fun ι2 H2 rel2 es2 => .here (k ι2 H2 rel2 (es1.trans es2))⟩
  | false =>
    obtain ⟨rfl, rfl⟩ := ret_some f1
    exact k ι1 H1 rel1 es1)
theorem pt_orE {rest : List Expr} (ha : PT X a (tT g mt)) (hb : PT X (.BoolOp .Or (b :: rest) pos) (tT g nt)) : PT X (.BoolOp .Or (a :: b :: rest) pos) (tT g (bnd mt fun k => if k = true then ret true else nt)) :=
  ((pw_or ha (pw_of hb)).pt).to fun σ H Q ⟨ι, ss, z, ss', rel, e, k⟩ => .here (by
  obtain ⟨x, s1, e1, f1⟩ := bnd_some e
  refine ⟨ι, ss, x, s1, rel, e1, fun ι1 H1 rel1 es1 => .here ?_⟩
  cases x with
  | true =>
    obtain ⟨rfl, rfl⟩ := ret_some f1
    exact k ι1 H1 rel1 es1
  | false => exact ⟨ι1, s1, z, ss', rel1, f1, fun ι2 H2 rel2 es2 => .here (k ι2 H2 rel2 (es1.trans es2))⟩)
theorem isTrue_ifExp (whole : Sem Value) (env : Env) : isTrue (.IfExp c a b pos) env whole = (do if ← isTrue c env (eval c env) then isTrue a env (eval a env) else isTrue b env (eval b env)) := by
  conv => lhs; unfold PySem.isTrue
theorem pt_iteE {kt : M Bool} (hc : PT X c (tT g kt)) (ha : PT X a (tT g mt)) (hb : PT X b (tT g nt)) : PT X (.IfExp c a b pos) (tT g (bnd kt fun k => if k = true then mt else nt)) := ⟨fun pins s σ H Q I ⟨ι, ss, z, ss', rel, e, k⟩ => by
  obtain ⟨x, s1, e1, f1⟩ := bnd_some e
  rw [isTrue_ifExp]
  refine wpAny_bind (thn (hc.run pins s σ H (fun y H1 => y = x ∧ ∃ ι1, Rel g ι1 s1 σ H1 ∧ Es ι H (OwnA ss σ) ι1 H1 (OwnA s1 σ)) I ⟨ι, ss, x, s1, rel, e1, fun ι1 H1 rel1 es1 => .here ⟨rfl, ι1, rel1, es1⟩⟩) fun y s2 ⟨H1, I1, ey, ι1, rel1, es1⟩ => ?_)
  subst ey
  cases y with
  | true => exact ha.run pins s2 σ H1 Q I1 ⟨ι1, s1, z, ss', rel1, f1, fun ι2 H2 rel2 es2 => k ι2 H2 rel2 (es1.trans es2)⟩
  | false => exact hb.run pins s2 σ H1 Q I1 ⟨ι1, s1, z, ss', rel1, f1, fun ι2 H2 rel2 es2 => k ι2 H2 rel2 (es1.trans es2)⟩⟩
/-! ### items, slices -/
theorem pe_idxE (hK : g.K = X.K) (ha : PE X a (tE g m)) (hb : PE X b (tE g n)) (hs : PlainIx b) : PE X (.Subscript a b pos) (tE g (bnd m fun x => bnd n fun y => bnd (rsv x) fun p => bnd (rsv y) fun q => bnd (opt (idxop p q)) fun d => ret (.d d))) := by
  have ho := ix_r (X := X)
  rw [← hK] at ho
  refine (pe_ix ho ha hb hs).to fun σ H Q ⟨ι, ss, z, ss', rel, e, k⟩ => .here ?_
  obtain ⟨x, s1, e1, f1⟩ := bnd_some e
  obtain ⟨y, s2, e2, f2⟩ := bnd_some f1
  obtain ⟨p, s3, e3, f3⟩ := bnd_some f2
  obtain ⟨q, s4, e4, f4⟩ := bnd_some f3
  obtain ⟨d, s5, e5, f5⟩ := bnd_some f4
  obtain ⟨h3, rfl⟩ := rsv_some e3
  obtain ⟨h4, rfl⟩ := rsv_some e4
  obtain ⟨h5, rfl⟩ := opt_some e5
  obtain ⟨rfl, rfl⟩ := ret_some f5
  refine ⟨ι, ss, x, s1, rel, e1, fun v ι1 H1 rel1 rv1 _ es1 => .here ⟨ι1, s1, y, _, rel1, e2, fun w ι2 H2 rel2 rw2 _ es2 => .here ?_⟩⟩
  exact ⟨ι2, p, q, d, res_rra rel2 (rv1.es es2) h3, res_rra rel2 rw2 h4, h5, fun u hu => k _ ι2 H2 rel2 hu .d (es1.trans es2)⟩
def tOE (g : G) (m : M (Option Int)) : TO := fun σ H Q => ∃ ι ss x ss', Rel g ι ss σ H ∧ m ss = some (x, ss') ∧ ∀ ι' H', Rel g ι' ss' σ H' → Es ι H (OwnA ss σ) ι' H' (OwnA ss' σ) → Q x H'
theorem po_na : PO X none (tOE g (partI .na m)) := ⟨fun pins s σ H Q I ⟨ι, ss, z, ss', rel, e, k⟩ => by
  obtain ⟨rfl, rfl⟩ := ret_some e
  exact po_none.run pins s σ H Q I (k ι H rel .refl)⟩
theorem po_E {ir : E} (h : ir ≠ .na) (ha : PE X a (tE g m)) : PO X (some a) (tOE g (partI ir m)) := ⟨fun pins s σ H Q I ⟨ι, ss, z, ss', rel, e, k⟩ => by
  have e' : (bnd m fun x => match x with
    | .d (.int i) => ret (some i)
    | _ => fail) ss = some (z, ss') := by
    unfold partI at e
    split at e
    · exact absurd rfl h
    · exact e
  obtain ⟨x, s1, e1, f1⟩ := bnd_some e'
  have key := (ha.to (t' := fun σ H Q => ∃ ι ss x s1 i, Rel g ι ss σ H ∧ m ss = some (x, s1) ∧ x = .d (.int i) ∧ ∀ ι' H', Rel g ι' s1 σ H' → Es ι H (OwnA ss σ) ι' H' (OwnA s1 σ) → Q (.int i) H') fun σ H Q ⟨ι, ss, x, s1, i, rel, e1, ex, k⟩ =>
    .here ⟨ι, ss, x, s1, rel, e1, fun v ι1 H1 rel1 rv1 _ es1 => .here (.here (by subst ex; rw [RD.inv_int rv1]; exact k ι1 H1 rel1 es1))⟩)
  split at f1
  · rename_i i
    obtain ⟨rfl, rfl⟩ := ret_some f1
    exact (po_some key).run pins s σ H Q I ⟨ι, ss, _, _, i, rel, e1, rfl, fun ι' H' r s => ⟨i, rfl, k ι' H' r s⟩⟩
  · cases f1⟩
theorem pe_slcE (hK : g.K = X.K) {lo hi : Option Expr} {p2 : Pos} {ml mh : M (Option Int)} (ha : PE X a (tE g m)) (hl : PO X lo (tOE g ml)) (hh : PO X hi (tOE g mh)) :
    PE X (.Subscript a (.Slice lo hi none p2) pos) (tE g (bnd m fun x => bnd ml fun l => bnd mh fun h => bnd (rsv x) fun p => opt (slcop p l h))) := by
  have ho := sl_r (X := X)
  rw [← hK] at ho
  refine (pe_slice ho ha hl hh).to fun σ H Q ⟨ι, ss, z, ss', rel, e, k⟩ => .here ?_
  obtain ⟨x, s1, e1, f1⟩ := bnd_some e
  obtain ⟨y, s2, e2, f2⟩ := bnd_some f1
  obtain ⟨p, s3, e3, f3⟩ := bnd_some f2
  obtain ⟨q, s4, e4, f4⟩ := bnd_some f3
  obtain ⟨h4, rfl⟩ := rsv_some e4
  obtain ⟨h5, rfl⟩ := opt_some f4
  refine ⟨ι, ss, x, s1, rel, e1, fun v ι1 H1 rel1 rv1 _ es1 => .here ⟨ι1, s1, y, s2, rel1, e2, fun ι2 H2 rel2 es2 => ⟨ι2, s2, p, _, rel2, e3, fun ι3 H3 rel3 es3 => ?_⟩⟩⟩
  refine ⟨ι3, q, z, res_rra rel3 ((rv1.es es2).es es3) h4, h5, fun v' H4 out => ?_⟩
  obtain ⟨o1, o2⟩ := rel3.out out
  have es := (es1.trans es2).trans es3
  exact k v' ι3 H4 (rel3.ext out.1) o1 (.es es o2) (es.out out.1)
/-! ### as values -/
theorem Rel.setD {ι : List Addr} {ss : SS} {σ : L2.St} {H : Hp} (rel : Rel g ι ss σ H) : True := trivial
theorem pe_escE (ha : PE X a (tE g m)) : PE X a (tD g (bnd m esc)) := ha.to fun σ H Q ⟨ι, ss, z, ss', rel, e, k⟩ => .here (by
  obtain ⟨x, s1, e1, f1⟩ := bnd_some e
  refine ⟨ι, ss, x, s1, rel, e1, fun v ι1 H1 rel1 rv1 na1 es1 => .here ?_⟩
  cases x with
  | d d =>
    obtain ⟨rfl, rfl⟩ := ret_some f1
    exact k v ι1 H1 rel1 rv1 es1
  | slot i =>
    have rv1 : σ[i]? = some (some v) := rv1
    have f1 : (match s1.env[i]? with
      | some (some (.own (.lst ds))) => some (D.lst ds, (⟨s1.env.set i (some (.d (.lst ds))), s1.st⟩ : SS))
      | some (some (.d x)) => some (x, s1)
      | _ => none) = some (z, ss') := f1
    split at f1
    · rename_i ds hs
      cases f1
      obtain ⟨p, h1, ⟨vs, h2, h3⟩, h4, h5⟩ := rel1.own i _ hs
      rw [rv1] at h1; cases h1
      refine .frz p vs h2 fun o => ?_
      have hop : Open (H1 p) := by rw [h2]; exact Open.lst
      have hstp : Stp ι1 H1 ι1 (upd H1 p (.frz o (.lst vs))) := Stp.op hop
      have hrd : RD g.K ι1 (upd H1 p (.frz o (.lst vs))) (.lst ds) (.ref p) := .lst ⟨o, upd_same⟩ (h3.mono hstp)
      have hlt : i < s1.env.length := (List.getElem?_eq_some_iff.mp hs).1
      refine k _ ι1 _ (rel1.setOwn (ev := .d (.lst ds)) hs rv1 hop hrd) hrd (es1.trans ⟨hstp, fun _ h => .inl h, fun b u hb _ hno => ?_, fun b hb => ?_, fun b hb => ?_⟩)
      · rw [upd_ne (fun e => hno (by rw [e]; exact ⟨i, _, hs, rv1⟩))]; exact hb
      · obtain ⟨j, so, q1, q2⟩ := hb
        by_cases hj : i = j
        · subst hj
          have q1 : (s1.env.set i (some (.d (.lst ds))))[i]? = some (some (EV.own so)) := q1
          rw [List.getElem?_set_self hlt] at q1
          cases q1
        · have q1 : (s1.env.set i (some (.d (.lst ds))))[j]? = some (some (EV.own so)) := q1
          rw [List.getElem?_set_ne hj] at q1
          exact ⟨j, so, q1, q2⟩
      · by_cases hbp : b = p
        · subst hbp; rw [upd_same] at hb; cases hb
        · rw [upd_ne hbp] at hb; exact hb
    · rename_i x hs
      cases f1
      obtain ⟨w, h1, h2⟩ := rel1.dat i _ hs
      rw [rv1] at h1; cases h1
      exact k v ι1 H1 rel1 h2 es1
    · cases f1
  | new so =>
    cases so with
    | lst ds =>
      obtain ⟨rfl, rfl⟩ := ret_some f1
      obtain ⟨p, rfl, ⟨vs, h2, h3⟩, h4, h5, h6⟩ := rv1
      refine .frz p vs h2 fun o => ?_
      have hop : Open (H1 p) := by rw [h2]; exact Open.lst
      have hstp : Stp ι1 H1 ι1 (upd H1 p (.frz o (.lst vs))) := Stp.op hop
      have hrd : RD g.K ι1 (upd H1 p (.frz o (.lst vs))) (.lst ds) (.ref p) := .lst ⟨o, upd_same⟩ (h3.mono hstp)
      have hn : H p = none := na1 _ p rfl rfl
      refine k _ ι1 _ (rel1.freeze h2 h4 h5 h6 o) hrd ⟨es1.stp.trans hstp, es1.fr, fun b u hb hi ho => ?_, es1.ow, fun b hb => ?_⟩
      · rw [upd_ne (ne_of_none hb hn)]; exact es1.kp b u hb hi ho
      · by_cases hbp : b = p
        · subst hbp; exact hn
        · rw [upd_ne hbp] at hb; exact es1.dom b hb
    | fz ds => cases f1
    | dK ds => cases f1
    | dT ds => cases f1)
end
end Ev
end

section
set_option Elab.async false
set_option linter.all false
set_option maxRecDepth 100000
set_option maxHeartbeats 4000000
namespace Ev
open PySem PySem.Spec PyProof.Rows L2

theorem bnd_assoc {α β γ : Type} (m : M α) (f : α → M β) (k : β → M γ) : bnd (bnd m f) k = bnd m fun x => bnd (f x) k := by
  funext ss
  unfold bnd
  cases m ss with
  | none => rfl
  | some p => rfl
section
variable {X : Cx} {g : G} {a b c : Expr} {es : List Expr} {pos : Pos} {m n l : M RV} {md : M D} {ms : M (List D)} {mr : M (List RV)}
/-! ### lists of arguments -/
theorem pa_nilD : PA X [] (tDs g (ret [])) := pa_nil.to fun σ H Q ⟨ι, ss, z, ss', rel, e, k⟩ => .here (by
  obtain ⟨rfl, rfl⟩ := ret_some e
  exact k [] ι H rel .nil .refl)
theorem pa_nilR : PA X [] (tRs g (ret [])) := pa_nil.to fun σ H Q ⟨ι, ss, z, ss', rel, e, k⟩ => .here (by
  obtain ⟨rfl, rfl⟩ := ret_some e
  exact k [] ι H rel .nil .refl)
theorem pa_consD (ha : PE X a (tD g md)) (hr : PA X es (tDs g ms)) (hs : starEach (a :: es) X.env = (false, eval a X.env) :: starEach es X.env) : PA X (a :: es) (tDs g (bnd md fun d => bnd ms fun ds => ret (d :: ds))) :=
  (pa_cons ha hr hs).to fun σ H Q ⟨ι, ss, z, ss', rel, e, k⟩ => .here (by
  obtain ⟨x, s1, e1, f1⟩ := bnd_some e
  obtain ⟨xs, s2, e2, f2⟩ := bnd_some f1
  obtain ⟨rfl, rfl⟩ := ret_some f2
  refine ⟨ι, ss, x, s1, rel, e1, fun v ι1 H1 rel1 rv1 es1 => .here ⟨ι1, s1, xs, _, rel1, e2, fun vs ι2 H2 rel2 rv2 es2 => .here ?_⟩⟩
  exact k (v :: vs) ι2 H2 rel2 (.cons (rv1.mono es2.stp) rv2) (es1.trans es2))
theorem pa_consR (ha : PE X a (tE g m)) (hr : PA X es (tRs g mr)) (hs : starEach (a :: es) X.env = (false, eval a X.env) :: starEach es X.env) : PA X (a :: es) (tRs g (bnd m fun d => bnd mr fun ds => ret (d :: ds))) :=
  (pa_cons ha hr hs).to fun σ H Q ⟨ι, ss, z, ss', rel, e, k⟩ => .here (by
  obtain ⟨x, s1, e1, f1⟩ := bnd_some e
  obtain ⟨xs, s2, e2, f2⟩ := bnd_some f1
  obtain ⟨rfl, rfl⟩ := ret_some f2
  refine ⟨ι, ss, x, s1, rel, e1, fun v ι1 H1 rel1 rv1 _ es1 => .here ⟨ι1, s1, xs, _, rel1, e2, fun vs ι2 H2 rel2 rv2 es2 => .here ?_⟩⟩
  exact k (v :: vs) ι2 H2 rel2 (.cons (rv1.es es2) rv2) (es1.trans es2))
theorem pa_starD {p : Pos} (hK : g.K = X.K) (ha : PE X a (tE g m)) (hr : PA X es (tDs g ms)) : PA X (.Starred a p :: es) (tDs g (bnd m fun r => bnd (rsv r) fun p => bnd (opt p.seq) fun ds => bnd ms fun es => ret (ds ++ es))) :=
  (StX.pa_star ha hr).to fun σ H Q ⟨ι, ss, z, ss', rel, e, k⟩ => .here (by
  obtain ⟨x, s1, e1, f1⟩ := bnd_some e
  obtain ⟨p, s2, e2, f2⟩ := bnd_some f1
  obtain ⟨ds, s3, e3, f3⟩ := bnd_some f2
  obtain ⟨xs, s4, e4, f4⟩ := bnd_some f3
  obtain ⟨h2, rfl⟩ := rsv_some e2
  obtain ⟨h3, rfl⟩ := opt_some e3
  obtain ⟨rfl, rfl⟩ := ret_some f4
  refine ⟨ι, ss, x, _, rel, e1, fun v ι1 H1 rel1 rv1 _ es1 => .here ?_⟩
  obtain ⟨a, vs, rfl, ha, hr⟩ := RRA.seq (res_rra rel1 rv1 h2) h3
  rw [hK] at ha
  exact ⟨a, vs, rfl, (RRA.sq ha).symm, ι1, _, xs, _, rel1, e4, fun ws ι2 H2 rel2 rv2 es2 => .here (k (vs ++ ws) ι2 H2 rel2 ((hr.mono es2.stp).append rv2) (es1.trans es2))⟩)
/-! ### displays -/
theorem pe_tupE {k1 : Nat} (h : PA X es (tDs g ms)) : PE X (.Tuple es k1 pos) (tE g (bnd ms fun ds => if ds.length ≤ LIM then ret (.d (.tup ds)) else fail)) := (pe_tup h).to fun σ H Q ⟨ι, ss, z, ss', rel, e, k⟩ => .here (by
  obtain ⟨x, s1, e1, f1⟩ := bnd_some e
  split at f1
  · rename_i hl
    obtain ⟨rfl, rfl⟩ := ret_some f1
    refine ⟨ι, ss, x, _, rel, e1, fun vs ι1 H1 rel1 rv1 es1 => .here ⟨by rw [← rv1.length]; exact Nat.le_trans hl lim_line, fun p hp => ?_⟩⟩
    have o : Out g.K ι1 H1 (.d (.tup x)) (.ref p) (upd H1 p (.tup vs)) := .tup hp rv1
    exact k _ ι1 _ (rel1.ext o.1) (rel1.out o).1 .d (es1.out o.1)
  · cases f1)
theorem pe_lstE (h : PA X es (tDs g ms)) : PE X (.List es pos) (tE g (bnd ms fun ds => if ds.length ≤ LIM then ret (.new (.lst ds)) else fail)) := (pe_lst h).to fun σ H Q ⟨ι, ss, z, ss', rel, e, k⟩ => .here (by
  obtain ⟨x, s1, e1, f1⟩ := bnd_some e
  split at f1
  · rename_i hl
    obtain ⟨rfl, rfl⟩ := ret_some f1
    refine ⟨ι, ss, x, _, rel, e1, fun vs ι1 H1 rel1 rv1 es1 => .here ⟨by rw [← rv1.length]; exact Nat.le_trans hl lim_line, fun p hp => ?_⟩⟩
    have o : Out g.K ι1 H1 (.new (.lst x)) (.ref p) (upd H1 p (.lst vs)) := .lst hp rv1
    exact k _ ι1 _ (rel1.ext o.1) (rel1.out o).1 (.es es1 (rel1.out o).2) (es1.out o.1)
  · cases f1)
/-! ### into the store -/
def heapM : RV → M RV
  | .new so => fun ss => some (.d (.ref ss.st.length), ⟨ss.env, ss.st ++ [so]⟩)
  | _ => fail
theorem pe_heapE (h : PE X a (tE g m)) : PE X a (tE g (bnd m heapM)) := h.to fun σ H Q ⟨ι, ss, z, ss', rel, e, k⟩ => .here (by
  obtain ⟨x, s1, e1, f1⟩ := bnd_some e
  refine ⟨ι, ss, x, _, rel, e1, fun v ι1 H1 rel1 rv1 na1 es1 => .here ?_⟩
  cases x with
  | d d => cases f1
  | slot i => cases f1
  | new so =>
    obtain ⟨p, rfl, h2, h3, h4, h5⟩ := rv1
    have hn : H p = none := na1 _ p rfl rfl
    cases f1
    refine k _ (ι1 ++ [p]) H1 (rel1.push h2 h3 h4 h5) (.ref (by rw [rel1.slen]; simp)) .d ⟨es1.stp.trans ⟨⟨[p], rfl⟩, fun _ _ h => h, fun _ _ _ h => h⟩, fun b hb => ?_, es1.kp, es1.ow, es1.dom⟩
    rcases List.mem_append.mp hb with hb | hb
    · exact es1.fr b hb
    · have eb : b = p := by simpa using hb
      rw [eb]; exact .inr hn)
/-! ### built-in functions -/
theorem pe_biE (hK : g.K = X.K) {f : BI} {x : Str} {p : Pos} (hc : CallR X f.val (rB X.K (biop f)))
    (h : PE X (.Call (.Name x p) es [] pos) (tCB (rB X.K (biop f)) (tRs g mr))) : PE X (.Call (.Name x p) es [] pos) (tE g (bnd mr fun rs => bnd (rsvs rs) fun as => opt (biop f as))) := h.to fun σ H Q ⟨ι, ss, z, ss', rel, e, k⟩ => .here (by
  obtain ⟨x, s1, e1, f1⟩ := bnd_some e
  obtain ⟨p, s2, e2, f2⟩ := bnd_some f1
  obtain ⟨h2, rfl⟩ := rsvs_some e2
  obtain ⟨h3, rfl⟩ := opt_some f2
  refine ⟨ι, ss, x, _, rel, e1, fun vs ι1 H1 rel1 rv1 es1 => .here ⟨ι1, p, z, hK ▸ resAll_rra rel1 rv1 h2, h3, fun v H2 out => ?_⟩⟩
  rw [← hK] at out
  obtain ⟨o1, o2⟩ := rel1.out out
  exact k v ι1 H2 (rel1.ext out.1) o1 (.es es1 o2) (es1.out out.1))

theorem pe_isiE (hK : g.K = X.K) {t : Ty} {p p2 : Pos} {nm : Str} (hg : Gl X "isinstance") (hm : X.mg "isinstance" = none) (hg2 : Gl X nm) (hm2 : X.mg nm = none) (hv : bootBuiltins nm = some (.type t.name)) (hn : nm ≠ "__name__") (hd : (nm == ("__debug__" : Str)) = false)
    (ha : PE X a (tE g m)) (hs : starEach [a, .Name nm p2] X.env = (false, eval a X.env) :: starEach [.Name nm p2] X.env) :
    PE X (.Call (.Name "isinstance" p) [a, .Name nm p2] [] pos) (tE g (bnd (bnd m fun r => ret [r]) fun rs => bnd (rsvs rs) fun as => opt (biop (.isI t) as))) := by
  have hcall : CallR X (.builtin "isinstance") (fun vs H Q => ∃ ι a x b, vs = [x, .ty t.name] ∧ RRA X.K ι H a x ∧ D.tyIs t a = some b ∧ Q (.bl b) H) := fun pins s σ H vs us Q I rv ⟨ι, a, x, b, ev, ha, hb, q⟩ => by
    subst ev
    exact isI_r t I ha hb rv q
  have hpa : PA X [a, .Name nm p2] _ := pa_cons ha (pa_cons (pe_bltn hg2 hm2 hv (v := .ty t.name) rfl hn hd) pa_nil) hs
  refine (pe_callB hcall hg hm (by kernel_rfl) hpa (he := hs)).to fun σ H Q ⟨ι, ss, z, ss', rel, e, k⟩ => .here ?_
  obtain ⟨rs, s1, e1, f1⟩ := bnd_some e
  obtain ⟨as, s2, e2, f2⟩ := bnd_some f1
  obtain ⟨h2, rfl⟩ := rsvs_some e2
  obtain ⟨h3, rfl⟩ := opt_some f2
  obtain ⟨x, s3, e3, f3⟩ := bnd_some e1
  obtain ⟨rfl, rfl⟩ := ret_some f3
  refine ⟨ι, ss, x, _, rel, e3, fun v ι1 H1 rel1 rv1 _ es1 => .here ?_⟩
  have h4 : ∃ p, res ss' x = some p ∧ as = [p] := by
    unfold resAll at h2
    cases q : res ss' x with
    | none => rw [q] at h2; cases h2
    | some p => rw [q] at h2; cases h2; exact ⟨p, rfl, rfl⟩
  obtain ⟨p, h5, rfl⟩ := h4
  have h3 : (D.tyIs t p).map (fun b => RV.d (.bl b)) = some z := h3
  cases q : D.tyIs t p with
  | none => rw [q] at h3; cases h3
  | some b =>
    rw [q] at h3; cases h3
    exact ⟨ι1, p, v, b, rfl, hK ▸ res_rra rel1 rv1 h5, q, k _ ι1 H1 rel1 (.bl b) .d es1⟩
/-! ### methods -/
theorem soAt_rra {ι : List Addr} {ss ss' : SS} {σ : L2.St} {H : Hp} (rel : Rel g ι ss σ H) {x : RV} {v : V} {so : SO} (rv : RRV g ι ss σ H x v) (h : soAt x ss = some (so, ss')) : ss' = ss ∧ ∃ p, v = .ref p ∧ SoR g.K ι H p so ∧
    ((∃ i, x = .slot i ∧ ss.env[i]? = some (some (.own so)) ∧ σ[i]? = some (some (.ref p))) ∨ ∃ k, x = .d (.ref k) ∧ ss.st[k]? = some so ∧ ι[k]? = some p) := by
  cases x with
  | slot i =>
    have h : (match ss.env[i]? with
      | some (some (.own so)) => some (so, ss)
      | _ => none) = some (so, ss') := h
    have rv : σ[i]? = some (some v) := rv
    split at h
    · rename_i so' hs
      cases h
      obtain ⟨p, h1, h2, _⟩ := rel.own i _ hs
      rw [rv] at h1; cases h1
      exact ⟨rfl, p, rfl, h2, .inl ⟨i, rfl, hs, rv⟩⟩
    · cases h
  | d d =>
    cases d with
    | ref k =>
      have h : (match ss.st[k]? with
        | some so => some (so, ss)
        | none => none) = some (so, ss') := h
      split at h
      · rename_i so' hs
        cases h
        obtain ⟨p, rfl, hp⟩ := RD.inv_ref rv
        obtain ⟨q, h1, h2⟩ := rel.sto k _ hs
        rw [hp] at h1; cases h1
        exact ⟨rfl, p, rfl, h2, .inr ⟨k, rfl, hs, hp⟩⟩
      · cases h
    | _ => cases h
  | new so' => cases h
/-- the thing is changed -/
theorem putAt_rel {ι : List Addr} {ss ss' : SS} {σ : L2.St} {H : Hp} (rel : Rel g ι ss σ H) {x : RV} {p : Addr} {so so' : SO} {ho : HO} (hx : (∃ i, x = .slot i ∧ ss.env[i]? = some (some (.own so)) ∧ σ[i]? = some (some (.ref p))) ∨ ∃ k, x = .d (.ref k) ∧ ss.st[k]? = some so ∧ ι[k]? = some p)
    (h : putAt x so' ss = some ((), ss')) (hop : Open (H p)) (hso : SoR g.K ι (upd H p ho) p so') : Rel g ι ss' σ (upd H p ho) ∧ Es ι H (OwnA ss σ) ι (upd H p ho) (OwnA ss' σ) := by
  have dom : ∀ b, upd H p ho b = none → H b = none := fun b hb => by
    by_cases e : b = p
    · subst e; rw [upd_same] at hb; cases hb
    · rw [upd_ne e] at hb; exact hb
  rcases hx with ⟨i, rfl, hi, hσ⟩ | ⟨k, rfl, hk, hι⟩
  · have h : (match ss.env[i]? with
      | some (some (.own _)) => some ((), (⟨ss.env.set i (some (.own so')), ss.st⟩ : SS))
      | _ => none) = some ((), ss') := h
    rw [hi] at h
    cases h
    have hlt : i < ss.env.length := (List.getElem?_eq_some_iff.mp hi).1
    refine ⟨rel.setOwn (ev := .own so') hi hσ hop hso, Stp.op hop, fun _ h => .inl h, fun b u hb _ hno => ?_, fun b hb => ?_, dom⟩
    · rw [upd_ne (fun e => hno (by rw [e]; exact ⟨i, _, hi, hσ⟩))]; exact hb
    · obtain ⟨j, so2, q1, q2⟩ := hb
      by_cases hj : i = j
      · subst hj; exact ⟨i, _, hi, q2⟩
      · have q1 : (ss.env.set i (some (.own so')))[j]? = some (some (EV.own so2)) := q1
        rw [List.getElem?_set_ne hj] at q1
        exact ⟨j, so2, q1, q2⟩
  · have h : (match ss.st[k]? with
      | some (.fz _) => none
      | some _ => some ((), (⟨ss.env, ss.st.set k so'⟩ : SS))
      | none => none) = some ((), ss') := h
    rw [hk] at h
    have h' : ss' = ⟨ss.env, ss.st.set k so'⟩ := by cases so <;> cases h <;> rfl
    subst h'
    refine ⟨rel.setSto hι hop hso, Stp.op hop, fun _ h => .inl h, fun b u hb hi _ => ?_, fun b hb => hb, dom⟩
    rw [upd_ne (fun e => hi (by rw [e]; exact List.mem_of_getElem? hι))]; exact hb
theorem tyV_of {K : PySem.W.Frag} {ι : List Addr} {H : Hp} {v : V} {a : RA} {m : MI} (h : RRA K ι H a v) (e : m.tyOk a = true) : tyV K m.ty v H := by
  have key : a.lseq.isSome = true → tyV K "list" v H := fun q => by
    obtain ⟨ds, hd⟩ := Option.isSome_iff_exists.mp q
    obtain ⟨p, vs, rfl, hp, _⟩ := RRA.lseq h hd
    exact .inl ⟨rfl, vs, .inl hp⟩
  have key2 : (∃ d, a = .own (.dK d)) ∨ (∃ d, a = .own (.dT d)) ∨ (∃ k d, a = .rf k (.dK d)) ∨ (∃ k d, a = .rf k (.dT d)) → tyV K "dict" v H := fun q => by
    rcases q with ⟨d, rfl⟩ | ⟨d, rfl⟩ | ⟨k, d, rfl⟩ | ⟨k, d, rfl⟩
    · obtain ⟨p, rfl, m, h, _⟩ := h; exact .inr (.inr (.inl ⟨rfl, .inl ⟨m, h⟩⟩))
    · obtain ⟨p, rfl, m, h, _⟩ := h; exact .inr (.inr (.inl ⟨rfl, .inr ⟨m, h⟩⟩))
    · obtain ⟨p, rfl, _, m, h, _⟩ := h; exact .inr (.inr (.inl ⟨rfl, .inl ⟨m, h⟩⟩))
    · obtain ⟨p, rfl, _, m, h, _⟩ := h; exact .inr (.inr (.inl ⟨rfl, .inr ⟨m, h⟩⟩))
  cases m with
  | append => exact key e
  | extend => exact key e
  | pop => exact key e
  | index => exact key e
  | _ =>
    refine key2 ?_
    cases a with
    | d x => cases e
    | own so =>
      cases so with
      | dK d => exact .inl ⟨d, rfl⟩
      | dT d => exact .inr (.inl ⟨d, rfl⟩)
      | _ => cases e
    | rf k so =>
      cases so with
      | dK d => exact .inr (.inr (.inl ⟨k, d, rfl⟩))
      | dT d => exact .inr (.inr (.inr ⟨k, d, rfl⟩))
      | _ => cases e
def mtM (mi : MI) (r : RV) (ds : List D) : M RV := bnd (rsvDs ds) fun rs => bnd (soAt r) fun so => bnd (opt (mtop mi so ds rs)) fun p => bnd (putAt r p.2) fun _ => ret (.d p.1)
theorem kindM_some {mi : MI} {x : RV} {ss ss' : SS} {u : Unit} (h : kindM mi x ss = some (u, ss')) : ss' = ss ∧ ∃ a, res ss x = some a ∧ mi.tyOk a = true := by
  unfold kindM at h
  cases q : res ss x with
  | none => rw [q] at h; cases h
  | some a =>
    rw [q] at h
    have h : (if mi.tyOk a = true then some ((), ss) else none) = some (u, ss') := h
    split at h
    · rename_i hk
      cases h
      exact ⟨rfl, a, rfl, hk⟩
    · cases h
theorem pe_mtE (hK : g.K = X.K) {mi : MI} {name : Str} {apos : Pos} (h : PE X (.Call (.Attribute a name apos) es [] pos) (tBM X.K mi.ty (rMt X.K mi) (tE g m) (tDs g ms))) :
    PE X (.Call (.Attribute a name apos) es [] pos) (tE g (bnd m fun r => bnd (kindM mi r) fun _ => bnd ms fun ds => mtM mi r ds)) := h.to fun σ H Q ⟨ι, ss, z, ss', rel, e, k⟩ => .here (by
  obtain ⟨x, s1, e1, f1⟩ := bnd_some e
  obtain ⟨u0, s0, e0, f0⟩ := bnd_some f1
  obtain ⟨ds, s2, e2, f2⟩ := bnd_some f0
  obtain ⟨rs, s3, e3, f3⟩ := bnd_some f2
  obtain ⟨so, s4, e4, f4⟩ := bnd_some f3
  obtain ⟨r, s5, e5, f5⟩ := bnd_some f4
  obtain ⟨u, s6, e6, f6⟩ := bnd_some f5
  obtain ⟨rfl, ra, hra, hty⟩ := kindM_some e0
  obtain ⟨h3, rfl⟩ := rsvDs_some e3
  obtain ⟨h5, rfl⟩ := opt_some e5
  obtain ⟨rfl, rfl⟩ := ret_some f6
  refine ⟨ι, ss, x, _, rel, e1, fun v ι1 H1 rel1 rv1 _ es1 => .here ⟨hK ▸ tyV_of (res_rra rel1 rv1 hra) hty, ι1, _, ds, _, rel1, e2, fun vs ι2 H2 rel2 rv2 es2 => .here ?_⟩⟩
  obtain ⟨rfl, p, rfl, hso, hx⟩ := soAt_rra rel2 (rv1.es es2) e4
  rw [← hK]
  refine ⟨ι2, p, so, ds, rs, r, rfl, hso, rv2, resDs_rra rel2 rv2 h3, h5, fun w ho hop hs2 hw => ?_⟩
  obtain ⟨rel3, es3⟩ := putAt_rel rel2 hx e6 hop hs2
  exact k w ι2 _ rel3 hw .d ((es1.trans es2).trans es3))
end
end Ev
end

section
set_option Elab.async false
set_option linter.all false
set_option maxRecDepth 100000
set_option maxHeartbeats 4000000
namespace Ev
open PySem PySem.Spec PyProof.Rows L2

/-! ### what a def promises -/
def StR (K : PySem.W.Frag) (ι : List Addr) (H : Hp) (st : List SO) : Prop := st.length = ι.length ∧ ∀ (k : Nat) (so : SO), st[k]? = some so → ∃ a, ι[k]? = some a ∧ SoR K ι H a so
def RV0 (K : PySem.W.Frag) (H0 : Hp) (ι : List Addr) (H : Hp) : RV → V → Prop
  | .d x, v => RD K ι H x v
  | .new so, v => ∃ a, v = .ref a ∧ SoR K ι H a so ∧ a ∉ ι ∧ H0 a = none
  | .slot _, _ => False
abbrev Spd := List V → Hp → VK → Prop
def spD (K : PySem.W.Frag) (den : Den) : Spd := fun vs H Q => ∃ ι ds st x st', RDs K ι H ds vs ∧ StR K ι H st ∧ ι.Nodup ∧ den ds st = some (x, st') ∧
  ∀ v ι' H', Frm ι H ι' H' → StR K ι' H' st' → ι'.Nodup → RV0 K H ι' H' x v → Gh (Q v) H'
/-- a def of the text keeps its promise, where no repr runs -/
structure Fnd (P : Program) (w : World) (K : PySem.W.Frag) (mg : Str → Option Value) (base : Heap) (k : Nat) (f : Addr) (fd : FuncData) (ps : List Str) (sp : Spd) : Prop where
  len : ∀ vs H Q, sp vs H Q → vs.length = ps.length
  run : ∀ (A : Around) (outer : List Env) (s : Shared) (H : Hp) (args : Args) (us : List Value) (vs : List V) (Q : VK), Room k A → A.guards = some [] → Env0 P w K mg base A outer s H → BindsTo s fd args (ps.zip us) →
    Vals vs us → sp vs H Q → codeAny (model P w) A (.call (.ref f) args) (fun r s' => ∃ u, r = .ok (.ret u) ∧ CE outer P w H s Q u s') s
/-- a def may be called under the name x -/
def CallOk (P : Program) (w : World) (K : PySem.W.Frag) (mg : Str → Option Value) (base : Heap) (A : Around) (x : Str) (den : Den) : Prop :=
  ∃ k f fd ps, Fnd P w K mg base k f fd ps (spD K den) ∧ Room k A ∧ mg x = some (.ref f) ∧ PySem.W.keepIn K (.ref f) = true ∧ Binds K fd ps []

section
variable {X : Cx} {g : G} {a b c : Expr} {es : List Expr} {pos : Pos} {m n l : M RV} {md : M D} {ms : M (List D)} {mr : M (List RV)}
theorem Rel.call {ι ι' : List Addr} {ss : SS} {σ : L2.St} {H H' : Hp} {st' : List SO} (r : Rel g ι ss σ H) (f : Frm ι H ι' H') (s : StR g.K ι' H' st') (nd : ι'.Nodup) : Rel g ι' ⟨ss.env, st'⟩ σ H' ∧ Es ι H (OwnA ss σ) ι' H' (OwnA ⟨ss.env, st'⟩ σ) := by
  refine ⟨⟨r.len, fun i d h => ?_, fun i so h => ?_, r.ap, s.1, s.2, nd, r.frm.stp' f.stp f.fresh fun a o h hn _ => f.keep a o h hn⟩, f.stp, f.fresh, fun a o h hi _ => f.keep a o h hi, fun _ h => h, fun a h => ?_⟩
  · obtain ⟨v, h1, h2⟩ := r.dat i d h
    exact ⟨v, h1, h2.mono f.stp⟩
  · obtain ⟨a, h1, h2, h3, h4⟩ := r.own i so h
    obtain ⟨o, ho⟩ := h2.there
    refine ⟨a, h1, h2.mono f.stp (fun o q => f.keep a o q h3), fun hm => ?_, h4⟩
    rcases f.fresh a hm with z | z
    · exact h3 z
    · rw [z] at ho; cases ho
  · cases q : H a with
    | none => rfl
    | some o =>
      by_cases hi : a ∈ ι
      · obtain ⟨k, hk⟩ := List.getElem?_of_mem hi
        have hk' := f.stp.at hk
        have hl : k < st'.length := by rw [s.1]; exact (List.getElem?_eq_some_iff.mp hk').1
        obtain ⟨b, h1, h2⟩ := s.2 k _ (List.getElem?_eq_getElem hl)
        rw [hk'] at h1; cases h1
        obtain ⟨o', ho'⟩ := h2.there
        rw [h] at ho'; cases ho'
      · rw [f.keep a o q hi] at h; cases h
theorem Rel.stR {ι : List Addr} {ss : SS} {σ : L2.St} {H : Hp} (r : Rel g ι ss σ H) : StR g.K ι H ss.st := ⟨r.slen, r.sto⟩
def callM (o : Option Den) (ds : List D) : M RV := fun ss => match o with
  | some den => match den ds ss.st with
    | some (r, st') => some (r, ⟨ss.env, st'⟩)
    | none => none
  | none => none
/-- ahead of the call: the promise's premise -/
theorem sp_of {den : Den} {ι ι1 : List Addr} {ss s1 : SS} {σ : L2.St} {H H1 : Hp} {Q : VK} {z : RV} {ss' : SS} {ds : List D} {vs : List V} (hK : g.K = X.K) (rel1 : Rel g ι1 s1 σ H1) (rv1 : RDs g.K ι1 H1 ds vs) (es1 : Es ι H (OwnA ss σ) ι1 H1 (OwnA s1 σ))
    (e : callM (some den) ds s1 = some (z, ss')) (k : ∀ v ι' H', Rel g ι' ss' σ H' → RRV g ι' ss' σ H' z v → NewAt H z v → Es ι H (OwnA ss σ) ι' H' (OwnA ss' σ) → Gh (Q v) H') : spD X.K den vs H1 fun v H' => Gh (Q v) H' := by
  have e : (match den ds s1.st with
    | some (r, st') => some (r, (⟨s1.env, st'⟩ : SS))
    | none => none) = some (z, ss') := e
  split at e
  · rename_i r st' hd
    cases e
    rw [← hK]
    refine ⟨ι1, ds, s1.st, z, st', rv1, rel1.stR, rel1.nd, hd, fun v ι' H' f s nd rv => .here ?_⟩
    obtain ⟨rel2, es2⟩ := rel1.call f s nd
    cases z with
    | d d => exact k v ι' H' rel2 rv .d (es1.trans es2)
    | slot i => exact rv.elim
    | new so =>
      obtain ⟨p, rfl, h1, h2, h3⟩ := rv
      refine k _ ι' H' rel2 ⟨p, rfl, h1, h2, rel1.freshH h3, rel1.freshOwn h3⟩ (NewAt.es es1 fun so a _ e => by cases e; exact h3) (es1.trans es2)
  · cases e
theorem call_fnd {pins : List (Addr × Obj)} {σ : L2.St} {H : Hp} {s : Shared} {Q : VK} {us : List Value} {vs : List V} {k : Nat} {f : Addr} {fd : FuncData} {ps : List Str} {sp : Spd} (F : Fnd X.prog X.w X.K X.mg X.base k f fd ps sp) (hr : Room k X.A) (hg : X.A.guards = some []) (hb : Binds X.K fd ps [])
    (I : Inv X pins σ H s) (r : Vals vs us) (h : sp vs H Q) : wpAny (model X.prog X.w) X.A (call (.ref f) us) (EP X pins σ Q) X.xe s := by
  have hl : us.length = ps.length := by rw [← r.length]; exact F.len _ _ _ h
  have hb' := hb s us I.kIn (by rw [List.append_nil]; exact hl)
  rw [List.append_nil] at hb'
  refine wpAny_call (codeAny_mono (F.run X.A X.stack s H ⟨us, []⟩ us vs Q hr hg I.env0 hb' r h) fun r s' hq => ?_)
  obtain ⟨u, e, hq⟩ := hq
  subst e
  exact I.after hq
variable {x : Str} {p : Pos} {den : Den}
theorem pe_callE (hK : g.K = X.K) (hgd : X.A.guards = some []) (C : CallOk X.prog X.w X.K X.mg X.base X.A x den) (hg : Gl X x) (hdb : (x == ("__debug__" : Str)) = false) (ha : PA X (a :: es) (tDs g ms))
    (he : starEach (a :: es) X.env = (false, eval a X.env) :: starEach es X.env) (hpl : (backTo pos (starEach es X.env)).any (·.1) = false) : PE X (.Call (.Name x p) (a :: es) [] pos) (tE g (bnd ms (callM (some den)))) := by
  obtain ⟨k, f, fd, ps, F, hr, hm, hk, hb⟩ := C
  refine PE.to (t := fun σ H Q => tDs g ms σ H fun vs H1 => spD X.K den vs H1 Q) ⟨fun pins s σ H Q I h => ?_⟩ fun σ H Q ⟨ι, ss, z, ss', rel, e, k⟩ => .here ?_
  · refine wpAny_Call_Name_kw (ld_glob I hg hm ?_ hdb)
    refine PySem.W.callWith_K (h₀ := X.base) I.ok.mod.kin hk (thn (ha.run pos pins s σ H _ I h) fun us s1 ⟨vs, H1, I1, r, q⟩ => ⟨I1.kIn, ?_⟩) he hpl
    exact call_fnd F hr hgd hb I1 r q
  · obtain ⟨ds, s1, e1, f1⟩ := bnd_some e
    exact ⟨ι, ss, ds, s1, rel, e1, fun vs ι1 H1 rel1 rv1 es1 => .here (sp_of hK rel1 rv1 es1 f1 k)⟩
theorem pe_call0E (hK : g.K = X.K) (hgd : X.A.guards = some []) (C : CallOk X.prog X.w X.K X.mg X.base X.A x den) (hg : Gl X x) (hdb : (x == ("__debug__" : Str)) = false) : PE X (.Call (.Name x p) [] [] pos) (tE g (bnd (ret []) (callM (some den)))) := by
  obtain ⟨k, f, fd, ps, F, hr, hm, hk, hb⟩ := C
  refine PE.to (t := fun σ H Q => spD X.K den [] H Q) ⟨fun pins s σ H Q I h => ?_⟩ fun σ H Q ⟨ι, ss, z, ss', rel, e, k⟩ => .here ?_
  · refine wpAny_Call_Name_kw (ld_glob I hg hm ?_ hdb)
    exact PySem.W.callWith_K0 I.kIn hk (call_fnd (us := []) F hr hgd hb I .nil h)
  · obtain ⟨ds, s1, e1, f1⟩ := bnd_some e
    obtain ⟨rfl, rfl⟩ := ret_some e1
    exact sp_of hK rel .nil .refl f1 k
theorem pe_callS1E {sp_ : Pos} (hK : g.K = X.K) (hgd : X.A.guards = some []) (C : CallOk X.prog X.w X.K X.mg X.base X.A x den) (hg : Gl X x) (hdb : (x == ("__debug__" : Str)) = false) (ha : PE X a (tE g m)) :
    PE X (.Call (.Name x p) [.Starred a sp_] [] pos) (tE g (bnd (bnd m fun r => bnd (rsv r) fun p => bnd (opt p.seq) fun ds => bnd (ret []) fun es => ret (ds ++ es)) (callM (some den)))) := by
  obtain ⟨k, f, fd, ps, F, hr, hm, hk, hb⟩ := C
  refine PE.to (t := fun σ H Q => tE g m σ H fun y H1 => ∃ a xs, y = V.ref a ∧ (SqT X.K H1 a xs ∨ SqL X.K H1 a xs) ∧ spD X.K den xs H1 Q) ⟨fun pins s σ H Q I h => ?_⟩ fun σ H Q ⟨ι, ss, z, ss', rel, e, k⟩ => .here ?_
  · refine wpAny_Call_Name_kw (ld_glob I hg hm ?_ hdb)
    refine PySem.W.callWith_S (h₀ := X.base) I.ok.mod.kin hk (thn (ha.run pins s σ H _ I h) fun v s1 ⟨y, H1, I1, ry, q, xs, ey, hxs, sp⟩ => ?_) rfl
    subst ey
    obtain rfl : v = Value.ref q := ry
    exact StX.star_any I1 hxs fun us s2 I2 rv => ⟨I2.kIn, call_fnd F hr hgd hb I2 rv sp⟩
  · obtain ⟨ds, s1, e1, f1⟩ := bnd_some e
    obtain ⟨y, s2, e2, f2⟩ := bnd_some e1
    obtain ⟨q, s3, e3, f3⟩ := bnd_some f2
    obtain ⟨ds', s4, e4, f4⟩ := bnd_some f3
    obtain ⟨es', s5, e5, f5⟩ := bnd_some f4
    obtain ⟨h3, rfl⟩ := rsv_some e3
    obtain ⟨h4, rfl⟩ := opt_some e4
    obtain ⟨rfl, rfl⟩ := ret_some e5
    obtain ⟨rfl, rfl⟩ := ret_some f5
    refine ⟨ι, ss, y, _, rel, e2, fun v ι1 H1 rel1 rv1 _ es1 => .here ?_⟩
    obtain ⟨p, vs, rfl, hp, hr⟩ := RRA.seq (res_rra rel1 rv1 h3) h4
    have hp' := (RRA.sq hp).symm
    rw [hK] at hp'
    refine ⟨p, vs, rfl, hp', sp_of hK rel1 (ds := ds' ++ []) (by rw [List.append_nil]; exact hr) es1 f1 k⟩

/-! ### targets -/
theorem pg_vE {i : Nat} {y : Str} (hN : X.N.Nodup) (hi : X.N[i]? = some y) (hx : Loc X.env.scope y) (hf : X.fn y = true ∨ X.env.scope.names.lookup y = some .local) : PG X (.Name y pos) (tG g [i] fun x => setV i (.d x)) :=
  (pg_name hN hi hx hf).to fun v σ H Q ⟨ι, ss, d, ss', rel, rv, e, k⟩ => .here (by
  have e : (if i < ss.env.length then some ((), (⟨ss.env.set i (some (.d d)), ss.st⟩ : SS)) else none) = some ((), ss') := e
  split at e
  · rename_i hlt
    cases e
    refine k (σ.set i (some v)) ι H (rel.store (ev := .d d) (by rw [← rel.len]; exact hlt) rv) (by simp) (fun j hj => ?_) ⟨.refl, fun _ h => .inl h, fun _ _ h _ _ => h, fun q hq => ?_, fun _ h => h⟩
    · rw [List.getElem?_set_ne (by intro e; subst e; exact hj (by simp))]
    · obtain ⟨j, so, q1, q2⟩ := hq
      by_cases hj : i = j
      · subst hj
        have q1 : (ss.env.set i (some (.d d)))[i]? = some (some (EV.own so)) := q1
        rw [List.getElem?_set_self hlt] at q1
        cases q1
      · have q1 : (ss.env.set i (some (.d d)))[j]? = some (some (EV.own so)) := q1
        rw [List.getElem?_set_ne hj] at q1 q2
        exact ⟨j, so, q1, q2⟩
  · cases e)
theorem pgs_nilE : PGs X [] (tGs g [] 0 fun _ => ret ()) := pgs_nil.to fun v σ H Q ⟨ι, ss, d, ss', rel, rv, hl, e, k⟩ => .here (by
  obtain ⟨_, rfl⟩ := ret_some e
  have hd : d = [] := List.eq_nil_of_length_eq_zero hl
  subst hd
  exact ⟨rv.inv_nil, k σ ι H rel rfl (fun _ _ => rfl) .refl⟩)
theorem pgs_consE {sl sl' : List Nat} {k1 : Nat} {m1 : D → M Unit} {m2 : List D → M Unit} (h1 : PG X a (tG g sl m1)) (h2 : PGs X es (tGs g sl' k1 m2)) (hs : (assignEach (a :: es) X.env).map (·.2) = assign a X.env :: (assignEach es X.env).map (·.2)) :
    PGs X (a :: es) (tGs g (sl ++ sl') (k1 + 1) fun ds => match ds with
      | d :: ds => bnd (m1 d) fun _ => m2 ds
      | _ => fail) := (pgs_cons h1 h2 hs).to fun v σ H Q ⟨ι, ss, ds, ss', rel, rv, hl, e, k⟩ => .here (by
  cases ds with
  | nil => cases e
  | cons d ds =>
    obtain ⟨w, ws, rfl, hd, ht⟩ := rv.inv_cons
    obtain ⟨u, s1, e1, f1⟩ := bnd_some (m := m1 d) (f := fun _ => m2 ds) e
    refine ⟨w, ws, rfl, ι, ss, d, s1, rel, hd, e1, fun σ1 ι1 H1 rel1 hl1 hs1 es1 => .here ⟨ι1, s1, ds, ss', rel1, ht.mono es1.stp, by simpa using hl, f1, fun σ2 ι2 H2 rel2 hl2 hs2 es2 => .here (k σ2 ι2 H2 rel2 (hl2.trans hl1) (fun j hj => ?_) (es1.trans es2))⟩⟩
    rw [hs2 j (fun z => hj (List.mem_append_right _ z)), hs1 j (fun z => hj (List.mem_append_left _ z))])
theorem pg_tupE (hK : g.K = X.K) (hc : X.calm = true) {sl : List Nat} {k1 k2 : Nat} {m2 : List D → M Unit} (h : PGs X es (tGs g sl k1 m2)) (hn : (assignEach es X.env).length = k1) (hst : (assignEach es X.env).findIdx? (·.1) = none) :
    PG X (.Tuple es k2 pos) (tG g sl fun x => match x with
      | .tup ds => if ds.length = k1 then m2 ds else fail
      | _ => fail) := (pg_tup hc h hn hst).to fun v σ H Q ⟨ι, ss, d, ss', rel, rv, e, k⟩ => .here (by
  cases d with
  | tup ds =>
    have e : (if ds.length = k1 then m2 ds else fail) ss = some ((), ss') := e
    split at e
    · rename_i hl
      obtain ⟨p, vs, rfl, hp, hr⟩ := RD.inv_tup rv
      rw [hK] at hp
      exact ⟨p, vs, rfl, hp, by rw [← hr.length]; exact hl, ι, ss, ds, ss', rel, hr, hl, e, fun σ1 ι1 H1 rel1 hl1 hs1 es1 => .here (k σ1 ι1 H1 rel1 hl1 hs1 es1)⟩
    · cases e
  | _ => cases e)
def setM (x : D) (r : RV) (q : RA) (so : SO) : M Unit := match so, q with
  | .lst ds, .d (.int k) => match ixN ds.length k with
    | some j => putAt r (.lst (ds.set j x))
    | none => fail
  | _, _ => fail
theorem setM_some {x : D} {r : RV} {q : RA} {so : SO} {ss ss' : SS} (h : setM x r q so ss = some ((), ss')) : ∃ ds k j, so = .lst ds ∧ q = .d (.int k) ∧ ixN ds.length k = some j ∧ putAt r (.lst (ds.set j x)) ss = some ((), ss') := by
  cases so with
  | lst ds =>
    cases q with
    | d d =>
      cases d with
      | int i =>
        have h : (match ixN ds.length i with
          | some j => putAt r (.lst (ds.set j x))
          | none => fail) ss = some ((), ss') := h
        cases e : ixN ds.length i with
        | none => rw [e] at h; cases h
        | some j => rw [e] at h; exact ⟨ds, i, j, rfl, rfl, e, h⟩
      | _ => cases h
    | own so => cases h
    | rf k so => cases h
  | _ => cases h
theorem pg_idxE (hK : g.K = X.K) (ha : PE X a (tE g m)) (hb : PE X b (tE g n)) (hf : ∀ v, assign (.Subscript a b pos) X.env v = (do
      let ov ← holding [v] (eval a X.env)
      let iv ← holding [v, ov] (eval b X.env)
      standAt pos
      holding [v, ov, iv] (setItem ov iv v)
      release [v, ov, iv] [])) :
    PG X (.Subscript a b pos) (tG g [] fun x => bnd m fun r => bnd n fun y => bnd (rsv y) fun q => bnd (soAt r) fun so => setM x r q so) := by
  have ho := set_r (X := X)
  rw [← hK] at ho
  refine (pg_sub ha hb ho hf).to fun v σ H Q ⟨ι, ss, d, ss', rel, rv, e, k⟩ => .here ?_
  obtain ⟨x, s1, e1, f1⟩ := bnd_some e
  obtain ⟨y, s2, e2, f2⟩ := bnd_some f1
  obtain ⟨q, s3, e3, f3⟩ := bnd_some f2
  obtain ⟨so, s4, e4, f4⟩ := bnd_some f3
  obtain ⟨h3, rfl⟩ := rsv_some e3
  refine ⟨ι, ss, x, s1, rel, e1, fun w ι1 H1 rel1 rv1 _ es1 => .here ⟨ι1, s1, y, _, rel1, e2, fun w2 ι2 H2 rel2 rv2 _ es2 => .here ?_⟩⟩
  obtain ⟨rfl, p, rfl, hso, hx⟩ := soAt_rra rel2 (rv1.es es2) e4
  have hq := res_rra rel2 rv2 h3
  obtain ⟨ds, i, j, rfl, rfl, hj, f5⟩ := setM_some f4
  refine ⟨ι2, p, ds, i, j, d, rfl, RD.inv_int hq, hso, hj, rv.mono (es1.stp.trans es2.stp), fun ho hop hs2 => ?_⟩
  obtain ⟨rel3, es3⟩ := putAt_rel rel2 hx f5 hop hs2
  exact k σ ι2 _ rel3 rfl (fun _ _ => rfl) ((es1.trans es2).trans es3)

/-! ### what is walked -/
def iAny (K : PySem.W.Frag) (te : TE) : TI := fun σ H R => te σ H fun v H1 => (∃ a xs, v = .ref a ∧ SqL K H1 a xs ∧ R (Itl K a) H1) ∨ (∃ a xs, v = .ref a ∧ SqT K H1 a xs ∧ R (Itt K a) H1) ∨ ∃ x, v = .str x ∧ R (Its x) H1
theorem pi_anyE {tg e : Expr} {te : TE} (he : PE X e te) : PI X tg e (iAny X.K te) := by
  refine ⟨fun pins s σ H R I h => thn (he.run pins s σ H _ I h) fun v s1 ⟨y, H1, I1, r1, q⟩ => ?_⟩
  have dummy : PE X e (fun σ H Q => te σ H Q) := he
  rcases q with ⟨a, xs, rfl, hq, q⟩ | ⟨a, xs, rfl, hq, q⟩ | ⟨x, rfl, q⟩
  · cases r1
    obtain ⟨its, rv, p, hz⟩ := I1.list hq
    exact wpAny_pyIter_list p.isList (pi_one (tk := s1.toks) I1 _ (turn_list a _) ⟨_, Heap.get?_push_size _ rfl, rfl, rfl⟩ q)
  · cases r1
    obtain ⟨its, rv, p, hz⟩ := I1.tuple hq
    exact wpAny_pyIter_tuple (show s1.heap.IsTuple a its.toArray from p) (pi_one (tk := s1.toks) I1 _ (turn_tuple a _) ⟨_, Heap.get?_push_size _ rfl, rfl, rfl⟩ q)
  · obtain ⟨t, rfl⟩ := r1
    cases ha : x.cps.all (· < 128)
    · exact wpAny_pyIter_wide ha (pi_one (tk := s1.toks) I1 _ (turn_str _ x t "str_iterator" (.inr rfl)) ⟨_, Heap.get?_push_size _ rfl, rfl, rfl⟩ q)
    · exact wpAny_pyIter_ascii ha (pi_one (tk := s1.toks) I1 _ (turn_str _ x t "str_ascii_iterator" (.inl rfl)) ⟨_, Heap.get?_push_size _ rfl, rfl, rfl⟩ q)
def ofM (d : D) : M (List D) := match d with
  | .tup ds => ret ds
  | .lst ds => ret ds
  | .str x => ret (x.cps.toList.map fun c => .str ⟨#[c]⟩)
  | .ref k => fun ss => match ss.st[k]? with
    | some (.fz ds) => some (ds, ss)
    | some (.lst ds) => some (ds, ⟨ss.env, ss.st.set k (.fz ds)⟩)
    | _ => none
  | _ => fail
theorem pi_ofE (hK : g.K = X.K) {tg : Expr} (ha : PE X a (tD g md)) : PI X tg a (tI g (bnd md ofM)) := (pi_anyE ha).to fun σ H R ⟨ι, ss, z, ss', rel, e, k⟩ => .here (by
  obtain ⟨d, s1, e1, f1⟩ := bnd_some e
  refine ⟨ι, ss, d, s1, rel, e1, fun v ι1 H1 rel1 rv1 es1 => ?_⟩
  cases d with
  | tup ds =>
    obtain ⟨rfl, rfl⟩ := ret_some f1
    obtain ⟨p, vs, rfl, hp, hr⟩ := RD.inv_tup rv1
    have hw := walk_tup hp hr
    rw [hK] at hp
    exact .here (.inr (.inl ⟨p, vs, rfl, hp, hK ▸ k _ ι1 H1 rel1 hw es1⟩))
  | lst ds =>
    obtain ⟨rfl, rfl⟩ := ret_some f1
    cases rv1 with
    | lst hz hr =>
      have hw := walk_lst hz hr
      exact .here (.inl ⟨_, _, rfl, hz.sq, hK ▸ k _ ι1 H1 rel1 hw es1⟩)
  | str x =>
    obtain ⟨rfl, rfl⟩ := ret_some f1
    exact .here (.inr (.inr ⟨x, RD.inv_str rv1, k _ ι1 H1 rel1 (walk_str x) es1⟩))
  | ref j =>
    obtain ⟨p, rfl, hp⟩ := RD.inv_ref rv1
    have f1 : (match s1.st[j]? with
      | some (.fz ds) => some (ds, s1)
      | some (.lst ds) => some (ds, (⟨s1.env, s1.st.set j (.fz ds)⟩ : SS))
      | _ => none) = some (z, ss') := f1
    split at f1
    · rename_i ds hs
      cases f1
      obtain ⟨q, h1, o, vs, h2, h3⟩ := rel1.sto j _ hs
      rw [hp] at h1; cases h1
      have hz : FzL H1 p vs := ⟨o, h2⟩
      exact .here (.inl ⟨p, vs, rfl, hz.sq, hK ▸ k _ ι1 H1 rel1 (walk_lst hz h3) es1⟩)
    · rename_i ds hs
      cases f1
      obtain ⟨q, h1, vs, h2, h3⟩ := rel1.sto j _ hs
      rw [hp] at h1; cases h1
      refine .frz p vs h2 fun o => .here ?_
      have hop : Open (H1 p) := by rw [h2]; exact Open.lst
      have hstp : Stp ι1 H1 ι1 (upd H1 p (.frz o (.lst vs))) := Stp.op hop
      have hz : FzL (upd H1 p (.frz o (.lst vs))) p vs := ⟨o, upd_same⟩
      have rel2 := rel1.setSto hp hop (so' := .fz z) ⟨o, vs, upd_same, h3.mono hstp⟩
      refine .inl ⟨p, vs, rfl, hz.sq, hK ▸ k _ ι1 _ rel2 (walk_lst hz (h3.mono hstp)) (es1.trans ⟨hstp, fun _ h => .inl h, fun b u hb hi _ => ?_, fun _ h => h, fun b hb => ?_⟩)⟩
      · rw [upd_ne (fun e => hi (by rw [e]; exact List.mem_of_getElem? hp))]; exact hb
      · by_cases hbp : b = p
        · subst hbp; rw [upd_same] at hb; cases hb
        · rw [upd_ne hbp] at hb; exact hb
    · cases f1
  | non => cases f1
  | bl b => cases f1
  | int i => cases f1)
end
end Ev
end

section
set_option Elab.async false
set_option linter.all false
set_option maxRecDepth 100000
set_option maxHeartbeats 4000000
namespace Ev
open PySem PySem.Spec PyProof.Rows L2

section
variable {X : Cx} {g : G} {a b c : Expr} {es : List Expr} {pos : Pos} {m n l : M RV} {md : M D} {ms : M (List D)} {mr : M (List RV)}
theorem small62_of {i : Int} (h : small62 i = true) : -(2 ^ 62) ≤ i ∧ i < 2 ^ 62 := by
  unfold small62 at h; exact of_decide_eq_true h
theorem pi_range1E {tg : Expr} {p : Pos} (hg : Gl X "range") (hm : X.mg "range" = none) (ha : PA X [a] (tRs g mr)) (hs : starEach [a] X.env = [(false, eval a X.env)]) :
    PI X tg (.Call (.Name "range" p) [a] [] pos) (tI g (bnd mr fun rs => bnd (rsvs rs) fun as => if as.length = 1 then opt (rangeI as) else fail)) := (pi_range1 hg hm ha hs).to fun σ H R ⟨ι, ss, z, ss', rel, e, k⟩ => .here (by
  obtain ⟨rs, s1, e1, f1⟩ := bnd_some e
  obtain ⟨as, s2, e2, f2⟩ := bnd_some f1
  obtain ⟨h2, rfl⟩ := rsvs_some e2
  split at f2
  · rename_i hlen
    obtain ⟨h3, rfl⟩ := opt_some f2
    refine ⟨ι, ss, rs, _, rel, e1, fun vs ι1 H1 rel1 rv1 es1 => .here ?_⟩
    have hr := resAll_rra rel1 rv1 h2
    unfold rangeI at h3
    split at h3
    · rename_i j
      split at h3
      · rename_i hj
        cases h3
        obtain ⟨v, rfl, hv⟩ := pair1 hr
        obtain ⟨j1, j2⟩ := small62_of hj
        exact ⟨j, by rw [RD.inv_int hv], j1, j2, k _ ι1 H1 rel1 (walk_range 0 j.toNat) es1⟩
      · cases h3
    · simp at hlen
    · cases h3
  · cases f2)
theorem pi_range2E {tg : Expr} {p : Pos} (hg : Gl X "range") (hm : X.mg "range" = none) (ha : PA X [a, b] (tRs g mr)) (hs : starEach [a, b] X.env = [(false, eval a X.env), (false, eval b X.env)]) (hs2 : starEach [b] X.env = [(false, eval b X.env)]) :
    PI X tg (.Call (.Name "range" p) [a, b] [] pos) (tI g (bnd mr fun rs => bnd (rsvs rs) fun as => if as.length = 2 then opt (rangeI as) else fail)) := (pi_range2 hg hm ha hs hs2).to fun σ H R ⟨ι, ss, z, ss', rel, e, k⟩ => .here (by
  obtain ⟨rs, s1, e1, f1⟩ := bnd_some e
  obtain ⟨as, s2, e2, f2⟩ := bnd_some f1
  obtain ⟨h2, rfl⟩ := rsvs_some e2
  split at f2
  · rename_i hlen
    obtain ⟨h3, rfl⟩ := opt_some f2
    refine ⟨ι, ss, rs, _, rel, e1, fun vs ι1 H1 rel1 rv1 es1 => .here ?_⟩
    have hr := resAll_rra rel1 rv1 h2
    unfold rangeI at h3
    split at h3
    · simp at hlen
    · rename_i i j
      split at h3
      · rename_i hj
        cases h3
        obtain ⟨v, w, rfl, hv, hw⟩ := pair2 hr
        simp only [Bool.and_eq_true] at hj
        obtain ⟨j1, j2⟩ := small62_of hj.1
        obtain ⟨j3, j4⟩ := small62_of hj.2
        exact ⟨i, j, by rw [RD.inv_int hv, RD.inv_int hw], ⟨j1, j2, j3, j4⟩, k _ ι1 H1 rel1 (walk_range i (j - i).toNat) es1⟩
      · cases h3
    · cases h3
  · cases f2)
theorem src_of {ι : List Addr} {H : Hp} {d : D} {ds : List D} {v : V} (h : RD g.K ι H d v) (e : (RA.d d).seq = some ds) : ∃ l p vs, v = .ref p ∧ SrcR g.K H l p vs ∧ RDs g.K ι H ds vs := by
  cases d with
  | tup xs =>
    cases e
    obtain ⟨p, vs, rfl, hp, hr⟩ := RD.inv_tup h
    exact ⟨false, p, vs, rfl, hp, hr⟩
  | lst xs =>
    cases e
    cases h with
    | lst hz hr => exact ⟨true, _, _, rfl, hz, hr⟩
  | _ => cases e
def enM (d : D) : M (List D) := match d with
  | .tup ds => if ds.length ≤ LIM then ret (enumD 0 ds) else fail
  | .lst ds => if ds.length ≤ LIM then ret (enumD 0 ds) else fail
  | _ => fail
theorem enM_some {d : D} {ss ss' : SS} {z : List D} (h : enM d ss = some (z, ss')) : ss' = ss ∧ ∃ ds, (RA.d d).seq = some ds ∧ z = enumD 0 ds := by
  cases d with
  | tup ds =>
    have h : (if ds.length ≤ LIM then ret (enumD 0 ds) else fail) ss = some (z, ss') := h
    split at h
    · obtain ⟨rfl, rfl⟩ := ret_some h; exact ⟨rfl, ds, rfl, rfl⟩
    · cases h
  | lst ds =>
    have h : (if ds.length ≤ LIM then ret (enumD 0 ds) else fail) ss = some (z, ss') := h
    split at h
    · obtain ⟨rfl, rfl⟩ := ret_some h; exact ⟨rfl, ds, rfl, rfl⟩
    · cases h
  | _ => cases h
theorem pi_enumE (hK : g.K = X.K) {p tpos : Pos} {elts : List Expr} {kk : Nat} (hg : Gl X "enumerate") (hm : X.mg "enumerate" = none) (ha : PE X a (tD g md)) (hs : starEach [a] X.env = [(false, eval a X.env)]) :
    PI X (.Tuple elts kk tpos) (.Call (.Name "enumerate" p) [a] [] pos) (tI g (bnd md enM)) := (pi_enumN hg hm (pa_consD ha pa_nilD hs) hs).to fun σ H R ⟨ι, ss, z, ss', rel, e, k⟩ => .here (by
  obtain ⟨d, s1, e1, f1⟩ := bnd_some e
  obtain ⟨rfl, ds, h1, rfl⟩ := enM_some f1
  refine ⟨ι, ss, [d], _, rel, bnd_of e1, fun vs ι1 H1 rel1 rv1 es1 => .here ?_⟩
  obtain ⟨v, ws, rfl, hd, ht⟩ := rv1.inv_cons
  cases ht
  obtain ⟨l, q, xs, rfl, hq, hr⟩ := src_of hd h1
  have hw := walk_enum hq hr
  rw [hK] at hq
  exact ⟨l, q, xs, rfl, hq, hK ▸ k _ ι1 H1 rel1 hw es1⟩)
def zipM (ds : List D) : M (List D) := match ds with
  | [x, y] => match (RA.d x).seq, (RA.d y).seq with
    | some xs, some ys => ret (zipD xs ys)
    | _, _ => fail
  | [x, y, z] => match (RA.d x).seq, (RA.d y).seq, (RA.d z).seq with
    | some xs, some ys, some zs => ret (zipD3 xs ys zs)
    | _, _, _ => fail
  | _ => fail
theorem zipM_2 {x y : D} {ss ss' : SS} {z : List D} (h : zipM [x, y] ss = some (z, ss')) : ss' = ss ∧ ∃ xs ys, (RA.d x).seq = some xs ∧ (RA.d y).seq = some ys ∧ z = zipD xs ys := by
  have h : (match (RA.d x).seq, (RA.d y).seq with
    | some xs, some ys => ret (zipD xs ys)
    | _, _ => fail) ss = some (z, ss') := h
  cases e1 : (RA.d x).seq with
  | none => rw [e1] at h; cases h
  | some xs =>
    cases e2 : (RA.d y).seq with
    | none => rw [e1, e2] at h; cases h
    | some ys => rw [e1, e2] at h; obtain ⟨rfl, rfl⟩ := ret_some h; exact ⟨rfl, xs, ys, rfl, rfl, rfl⟩
theorem zipM_3 {x y w : D} {ss ss' : SS} {z : List D} (h : zipM [x, y, w] ss = some (z, ss')) : ss' = ss ∧ ∃ xs ys zs, (RA.d x).seq = some xs ∧ (RA.d y).seq = some ys ∧ (RA.d w).seq = some zs ∧ z = zipD3 xs ys zs := by
  have h : (match (RA.d x).seq, (RA.d y).seq, (RA.d w).seq with
    | some xs, some ys, some zs => ret (zipD3 xs ys zs)
    | _, _, _ => fail) ss = some (z, ss') := h
  cases e1 : (RA.d x).seq with
  | none => rw [e1] at h; cases h
  | some xs =>
    cases e2 : (RA.d y).seq with
    | none => rw [e1, e2] at h; cases h
    | some ys =>
      cases e3 : (RA.d w).seq with
      | none => rw [e1, e2, e3] at h; cases h
      | some zs => rw [e1, e2, e3] at h; obtain ⟨rfl, rfl⟩ := ret_some h; exact ⟨rfl, xs, ys, zs, rfl, rfl, rfl, rfl⟩
theorem inv_len2 {ι : List Addr} {H : Hp} {ds : List D} {v w : V} (h : RDs g.K ι H ds [v, w]) : ∃ x y, ds = [x, y] ∧ RD g.K ι H x v ∧ RD g.K ι H y w := by
  cases h with
  | cons h1 t =>
    cases t with
    | cons h2 t => cases t; exact ⟨_, _, rfl, h1, h2⟩
/-- how many items the arguments are -/
def lenM (k : Nat) (ms : M (List D)) : M (List D) := bnd ms fun ds => if ds.length = k then zipM ds else fail
theorem pi_zip2E (hK : g.K = X.K) {p tpos : Pos} {elts : List Expr} {kk : Nat} (hg : Gl X "zip") (hm : X.mg "zip" = none) (ha : PA X [a, b] (tDs g ms)) (hs : starEach [a, b] X.env = (false, eval a X.env) :: starEach [b] X.env) (hpl : (backTo pos (starEach [b] X.env)).any (·.1) = false) :
    PI X (.Tuple elts kk tpos) (.Call (.Name "zip" p) [a, b] [] pos) (tI g (lenM 2 ms)) := (pi_zip2 hg hm ha hs hpl).to fun σ H R ⟨ι, ss, z, ss', rel, e, k⟩ => .here (by
  obtain ⟨ds, s1, e1, f1⟩ := bnd_some e
  split at f1
  · rename_i hl
    obtain ⟨x, y, rfl⟩ : ∃ x y, ds = [x, y] := by
      match ds, hl with
      | [x, y], _ => exact ⟨x, y, rfl⟩
    obtain ⟨rfl, xs, ys, h1, h2, rfl⟩ := zipM_2 f1
    refine ⟨ι, ss, _, _, rel, e1, fun vs ι1 H1 rel1 rv1 es1 => .here ?_⟩
    obtain ⟨v, ws, rfl, hd, ht⟩ := rv1.inv_cons
    obtain ⟨w, ws, rfl, hd2, ht2⟩ := ht.inv_cons
    cases ht2
    obtain ⟨l1, q1, xs1, rfl, hq1, hr1⟩ := src_of hd h1
    obtain ⟨l2, q2, xs2, rfl, hq2, hr2⟩ := src_of hd2 h2
    have hw := walk_zip2 hq1 hq2 hr1 hr2
    rw [hK] at hq1 hq2
    exact ⟨l1, l2, q1, q2, xs1, xs2, rfl, hq1, hq2, hK ▸ k _ ι1 H1 rel1 hw es1⟩
  · cases f1)
theorem pi_zip3E (hK : g.K = X.K) {p tpos : Pos} {elts : List Expr} {kk : Nat} (hg : Gl X "zip") (hm : X.mg "zip" = none) (ha : PA X [a, b, c] (tDs g ms)) (hs : starEach [a, b, c] X.env = (false, eval a X.env) :: starEach [b, c] X.env) (hpl : (backTo pos (starEach [b, c] X.env)).any (·.1) = false) :
    PI X (.Tuple elts kk tpos) (.Call (.Name "zip" p) [a, b, c] [] pos) (tI g (lenM 3 ms)) := (pi_zip3 hg hm ha hs hpl).to fun σ H R ⟨ι, ss, z, ss', rel, e, k⟩ => .here (by
  obtain ⟨ds, s1, e1, f1⟩ := bnd_some e
  split at f1
  · rename_i hl
    obtain ⟨x, y, u, rfl⟩ : ∃ x y u, ds = [x, y, u] := by
      match ds, hl with
      | [x, y, u], _ => exact ⟨x, y, u, rfl⟩
    obtain ⟨rfl, xs, ys, zs, h1, h2, h3, rfl⟩ := zipM_3 f1
    refine ⟨ι, ss, _, _, rel, e1, fun vs ι1 H1 rel1 rv1 es1 => .here ?_⟩
    obtain ⟨v, ws, rfl, hd, ht⟩ := rv1.inv_cons
    obtain ⟨w, ws, rfl, hd2, ht2⟩ := ht.inv_cons
    obtain ⟨w3, ws, rfl, hd3, ht3⟩ := ht2.inv_cons
    cases ht3
    obtain ⟨l1, q1, xs1, rfl, hq1, hr1⟩ := src_of hd h1
    obtain ⟨l2, q2, xs2, rfl, hq2, hr2⟩ := src_of hd2 h2
    obtain ⟨l3, q3, xs3, rfl, hq3, hr3⟩ := src_of hd3 h3
    have hw := walk_zip3 hq1 hq2 hq3 hr1 hr2 hr3
    rw [hK] at hq1 hq2 hq3
    exact ⟨l1, l2, l3, q1, q2, q3, xs1, xs2, xs3, rfl, hq1, hq2, hq3, hK ▸ k _ ι1 H1 rel1 hw es1⟩
  · cases f1)

/-! ### comprehensions -/
theorem wipeE_length (env : List (Option EV)) : ∀ vs, (wipeE env vs).length = env.length
  | [] => rfl
  | v :: vs => by rw [wipeE, List.length_set, wipeE_length env vs]
theorem backE_length (old env : List (Option EV)) : ∀ vs, (backE old env vs).length = env.length
  | [] => rfl
  | v :: vs => by rw [backE, List.length_set, backE_length old env vs]
theorem wipeE_out {env : List (Option EV)} {i : Nat} : ∀ {vs : List Nat}, i ∉ vs → (wipeE env vs)[i]? = env[i]?
  | [], _ => rfl
  | v :: vs, h => by
    simp only [List.mem_cons, not_or] at h
    rw [wipeE, List.getElem?_set_ne (fun e => h.1 e.symm), wipeE_out h.2]
theorem wipeE_in {env : List (Option EV)} {i : Nat} {ev : EV} : ∀ {vs : List Nat}, (wipeE env vs)[i]? = some (some ev) → i ∉ vs
  | [], _ => by simp
  | v :: vs, h => by
    rw [wipeE] at h
    by_cases hi : v = i
    · subst hi
      by_cases hv : v < (wipeE env vs).length
      · rw [List.getElem?_set_self hv] at h; cases h
      · rw [List.getElem?_eq_none (by simpa using hv)] at h; cases h
    · rw [List.getElem?_set_ne hi] at h
      simp only [List.mem_cons, not_or]
      exact ⟨fun e => hi e.symm, wipeE_in h⟩
theorem wipe_out {σ : L2.St} {i : Nat} : ∀ {vs : List Nat}, i ∉ vs → (wipe σ vs)[i]? = σ[i]?
  | [], _ => rfl
  | v :: vs, h => by
    simp only [List.mem_cons, not_or] at h
    rw [wipe, List.getElem?_set_ne (fun e => h.1 e.symm), wipe_out h.2]
theorem wipe_in {σ : L2.St} {i : Nat} : ∀ {vs : List Nat}, i ∈ vs → i < σ.length → (wipe σ vs)[i]? = some none
  | v :: vs, h, hl => by
    rw [wipe]
    by_cases hi : v = i
    · subst hi; rw [List.getElem?_set_self (by rw [wipe_length]; exact hl)]
    · rw [List.getElem?_set_ne hi]
      refine wipe_in (List.mem_of_ne_of_mem (fun e => hi e.symm) h) hl
theorem wipe_eq {σ σ' : L2.St} {vs : List Nat} (hl : σ'.length = σ.length) (h : ∀ j, j ∉ vs → σ'[j]? = σ[j]?) : wipe σ' vs = wipe σ vs := by
  apply List.ext_getElem?
  intro j
  by_cases hj : j ∈ vs
  · by_cases hlt : j < σ.length
    · rw [wipe_in hj hlt, wipe_in hj (by rw [hl]; exact hlt)]
    · rw [List.getElem?_eq_none (by rw [wipe_length]; omega), List.getElem?_eq_none (by rw [wipe_length]; omega)]
  · rw [wipe_out hj, wipe_out hj, h j hj]
theorem backE_out {old env : List (Option EV)} {i : Nat} : ∀ {vs : List Nat}, i ∉ vs → (backE old env vs)[i]? = env[i]?
  | [], _ => rfl
  | v :: vs, h => by
    simp only [List.mem_cons, not_or] at h
    rw [backE, List.getElem?_set_ne (fun e => h.1 e.symm), backE_out h.2]
theorem backE_in {old env : List (Option EV)} {i : Nat} : ∀ {vs : List Nat}, i ∈ vs → i < env.length → (backE old env vs)[i]? = some (backV old i)
  | v :: vs, h, hl => by
    rw [backE]
    by_cases hi : v = i
    · subst hi; rw [List.getElem?_set_self (by rw [backE_length]; exact hl)]
    · rw [List.getElem?_set_ne hi]
      exact backE_in (List.mem_of_ne_of_mem (fun e => hi e.symm) h) hl
theorem Rel.wiped {ι : List Addr} {ss : SS} {σ : L2.St} {H : Hp} (r : Rel g ι ss σ H) (vs : List Nat) : Rel g ι ⟨wipeE ss.env vs, ss.st⟩ (wipe σ vs) H :=
  r.forget (by rw [wipeE_length, wipe_length, r.len]) fun i ev h => by
    have hi := wipeE_in h
    rw [wipeE_out hi] at h
    exact ⟨h, wipe_out hi⟩
theorem own_wiped {ss : SS} {σ : L2.St} {vs : List Nat} {a : Addr} (h : OwnA ⟨wipeE ss.env vs, ss.st⟩ (wipe σ vs) a) : OwnA ss σ a := by
  obtain ⟨i, so, q1, q2⟩ := h
  have q1 : (wipeE ss.env vs)[i]? = some (some (EV.own so)) := q1
  have hi := wipeE_in q1
  rw [wipeE_out hi] at q1
  rw [wipe_out hi] at q2
  exact ⟨i, so, q1, q2⟩
/-- an untracked thing of ours changes -/
theorem Rel.upd_free {ι : List Addr} {ss : SS} {σ : L2.St} {H : Hp} {a : Addr} {o : HO} (r : Rel g ι ss σ H) (hop : Open (H a)) (hni : a ∉ ι) (hn0 : g.H0 a = none) (hno : ¬ OwnA ss σ a) : Rel g ι ss σ (upd H a o) := by
  have hs : Stp ι H ι (upd H a o) := Stp.op hop
  refine ⟨r.len, fun j d h => ?_, fun j so h => ?_, r.ap, r.slen, fun j so h => ?_, r.nd, ?_⟩
  · obtain ⟨v, q1, q2⟩ := r.dat j d h
    exact ⟨v, q1, q2.mono hs⟩
  · obtain ⟨b, q1, q2, q3⟩ := r.own j so h
    have hb : b ≠ a := fun e => hno ⟨j, so, h, e ▸ q1⟩
    exact ⟨b, q1, q2.mono hs (fun u q => by rw [upd_ne hb]; exact q), q3⟩
  · obtain ⟨b, q1, q2⟩ := r.sto j so h
    have hb : b ≠ a := fun e => hni (by rw [← e]; exact List.mem_of_getElem? q1)
    exact ⟨b, q1, q2.mono hs (fun u q => by rw [upd_ne hb]; exact q)⟩
  · exact r.frm.stp' hs (fun _ h => .inl h) fun b u h _ hne => by
      rw [upd_ne (fun e => hne (by rw [e]; exact hn0))]; exact h
theorem Rel.back {ι ι' : List Addr} {ss ss' : SS} {σ : L2.St} {H H' : Hp} (r : Rel g ι ss σ H) {vs : List Nat} (r' : Rel g ι' ss' (wipe σ vs) H') (s : Stp ι H ι' H') : Rel g ι' ⟨backE ss.env ss'.env vs, ss'.st⟩ σ H' := by
  have hl : ss'.env.length = σ.length := by rw [r'.len, wipe_length]
  have own : ∀ {i : Nat} {so : SO}, (backE ss.env ss'.env vs)[i]? = some (some (EV.own so)) → i ∉ vs ∧ ss'.env[i]? = some (some (EV.own so)) := fun {i so} h => by
    by_cases hi : i ∈ vs
    · have hlt : i < ss'.env.length := by
        have := (List.getElem?_eq_some_iff.mp h).1
        rwa [backE_length] at this
      rw [backE_in hi hlt] at h
      unfold backV at h
      split at h <;> cases h
    · rw [backE_out hi] at h; exact ⟨hi, h⟩
  refine ⟨by rw [backE_length, hl], fun i d h => ?_, fun i so h => ?_, fun i j a so so' h1 h2 h3 h4 => ?_, r'.slen, r'.sto, r'.nd, r'.frm⟩
  · by_cases hi : i ∈ vs
    · have h : (backE ss.env ss'.env vs)[i]? = some (some (EV.d d)) := h
      have hlt : i < ss'.env.length := by
        have := (List.getElem?_eq_some_iff.mp h).1
        rwa [backE_length] at this
      rw [backE_in hi hlt] at h
      unfold backV at h
      split at h
      · rename_i x hx
        cases h
        obtain ⟨v, q1, q2⟩ := r.dat i _ hx
        exact ⟨v, q1, q2.mono s⟩
      · cases h
    · have h : (backE ss.env ss'.env vs)[i]? = some (some (EV.d d)) := h
      rw [backE_out hi] at h
      obtain ⟨v, q1, q2⟩ := r'.dat i d h
      rw [wipe_out hi] at q1
      exact ⟨v, q1, q2⟩
  · obtain ⟨hi, h⟩ := own h
    obtain ⟨a, q1, q2⟩ := r'.own i so h
    rw [wipe_out hi] at q1
    exact ⟨a, q1, q2⟩
  · obtain ⟨hi, h1⟩ := own h1
    obtain ⟨hj, h2⟩ := own h2
    rw [← wipe_out hi] at h3
    rw [← wipe_out hj] at h4
    exact r'.ap i j a _ _ h1 h2 h3 h4
theorem own_back {ss ss' : SS} {σ : L2.St} {vs : List Nat} {a : Addr} (h : OwnA ⟨backE ss.env ss'.env vs, ss'.st⟩ σ a) : OwnA ss' (wipe σ vs) a := by
  obtain ⟨i, so, q1, q2⟩ := h
  have q1 : (backE ss.env ss'.env vs)[i]? = some (some (EV.own so)) := q1
  by_cases hi : i ∈ vs
  · have hlt : i < ss'.env.length := by
      have := (List.getElem?_eq_some_iff.mp q1).1
      rwa [backE_length] at this
    rw [backE_in hi hlt] at q1
    unfold backV at q1
    split at q1 <;> cases q1
  · rw [backE_out hi] at q1
    exact ⟨i, so, q1, by rw [wipe_out hi]; exact q2⟩
end
end Ev
end

section
set_option Elab.async false
set_option linter.all false
set_option maxRecDepth 100000
set_option maxHeartbeats 4000000
namespace Ev
open PySem PySem.Spec PyProof.Rows L2

def turnM (asg : D → M Unit) (tst : M Bool) (elt : M D) (x : D) : M (Option D) := bnd (asg x) fun _ => bnd tst fun k => if k = true then bnd elt fun d => ret (some d) else ret none
def lcM (own : List Nat) (mi : M (List D)) (body : D → M (Option D)) : M RV := bnd mi fun items => fun ss => match loopLc own body items [] ⟨wipeE ss.env own, ss.st⟩ with
  | some (ds, ss') => some (.new (.lst ds), ⟨backE ss.env ss'.env own, ss'.st⟩)
  | none => none
theorem loopLc_cons {own : List Nat} {body : D → M (Option D)} {x : D} {xs acc : List D} {ss sE : SS} {r : List D} (h : loopLc own body (x :: xs) acc ss = some (r, sE)) :
    ∃ o s2, body x ss = some (o, s2) ∧ match o with
      | some d => acc.length < LIM ∧ loopLc own body xs (acc ++ [d]) ⟨wipeE s2.env own, s2.st⟩ = some (r, sE)
      | none => loopLc own body xs acc ⟨wipeE s2.env own, s2.st⟩ = some (r, sE) := by
  rw [loopLc] at h
  obtain ⟨o, s2, e1, f1⟩ := bnd_some h
  refine ⟨o, s2, e1, ?_⟩
  obtain ⟨u, s3, e2, f2⟩ := bnd_some f1
  cases e2
  cases o with
  | none => exact f2
  | some d =>
    have f2 : (if acc.length < LIM then loopLc own body xs (acc ++ [d]) else fail) ⟨wipeE s2.env own, s2.st⟩ = some (r, sE) := f2
    split at f2
    · rename_i hl; exact ⟨hl, f2⟩
    · cases f2
section
variable {X : Cx} {g : G}
theorem tLc_of {sl own : List Nat} {mi : M (List D)} {asg : D → M Unit} {tst : M Bool} {elt : M D} (hsl : ∀ j ∈ sl, j ∈ own) {σ : L2.St} {H : Hp} {Q : VK} (h : tE g (lcM own mi (turnM asg tst elt)) σ H Q) :
    tLc (tI g mi) (tG g sl asg) (tT g tst) (tD g elt) own σ H fun v H' => Gh (Q v) H' := by
  obtain ⟨ι, ss, z, ss', rel, e, k⟩ := h
  obtain ⟨items, s1, e1, f1⟩ := bnd_some e
  refine ⟨ι, ss, items, s1, rel, e1, fun J ι1 H1 rel1 wk es1 => .here fun D hD => ?_⟩
  cases hlp : loopLc own (turnM asg tst elt) items [] ⟨wipeE s1.env own, s1.st⟩ with
  | none => rw [hlp] at f1; cases f1
  | some p =>
    obtain ⟨ds, sE⟩ := p
    rw [hlp] at f1
    cases f1
    refine ⟨fun i m H => ∃ ιi ssb acc accV, m = items.length - i ∧ i ≤ items.length ∧ Rel g ιi ssb (wipe σ own) H ∧ H D = some (.lst accV) ∧ RDs g.K ιi H acc accV ∧ D ∉ ιi ∧ ¬ OwnA ssb (wipe σ own) D ∧
      Es ι1 H1 (OwnA s1 σ) ιi H (OwnA ssb (wipe σ own)) ∧ loopLc own (turnM asg tst elt) (items.drop i) acc ssb = some (ds, sE), ⟨items.length, ι1, ⟨wipeE s1.env own, s1.st⟩, [], [], by simp, Nat.zero_le _, (rel1.wiped own).ext (.new hD), upd_same, .nil, rel1.freshI hD, fun q => rel1.freshOwn hD (own_wiped q), ?_, hlp⟩, ?_⟩
    · have e := Ext.new (H := H1) (p := D) (o := .lst []) hD
      exact ⟨e.stp, fun _ h => .inl h, fun a o h _ _ => e a o h, fun a => own_wiped, (Es.ext (ι := ι1) (O := fun _ => True) e).dom⟩
    · rintro i m Hi ⟨ιi, ssb, acc, accV, rfl, hi, reli, hDi, hacc, hni, hno, esi, hl⟩
      by_cases hlt : i < items.length
      · refine .inr ⟨wk.go i ιi Hi esi.stp hlt, fun H' => ∃ ιi ssb acc accV, i + 1 ≤ items.length ∧ Rel g ιi ssb (wipe σ own) H' ∧ H' D = some (.lst accV) ∧ RDs g.K ιi H' acc accV ∧ D ∉ ιi ∧ ¬ OwnA ssb (wipe σ own) D ∧
          Es ι1 H1 (OwnA s1 σ) ιi H' (OwnA ssb (wipe σ own)) ∧ loopLc own (turnM asg tst elt) (items.drop (i + 1)) acc ssb = some (ds, sE), fun H' ⟨a, b, c, d, q⟩ => ⟨items.length - (i + 1), by omega, a, b, c, d, rfl, q⟩, fun x H2 hy => ?_⟩
        obtain ⟨d, hd, ext, rd⟩ := wk.yld i ιi Hi x H2 esi.stp hlt hy
        rw [List.drop_eq_getElem_cons hlt] at hl
        have hd' : items[i] = d := by rw [List.getElem?_eq_getElem hlt] at hd; exact Option.some.inj hd
        rw [hd'] at hl
        obtain ⟨o, s2, eb, hrest⟩ := loopLc_cons hl
        obtain ⟨u, s3, ea, fb⟩ := bnd_some (m := asg d) eb
        obtain ⟨t, s4, et, fc⟩ := bnd_some fb
        have ww : wipe (wipe σ own) own = wipe σ own := wipe_eq (wipe_length _ _) fun j hj => wipe_out hj
        refine ⟨ιi, ssb, d, s3, reli.ext ext, rd, ea, fun σ3 ι3 H3 rel3 hl3 hs3 es3 => .here ⟨?_, ι3, s3, t, s4, rel3, et, fun ι4 H4 rel4 es4 => .here ?_⟩⟩
        · rw [← ww]; exact wipe_eq hl3 fun j hj => hs3 j fun q => hj (hsl j q)
        have hw3 : wipe σ3 own = wipe σ own := by rw [← ww]; exact wipe_eq hl3 fun j hj => hs3 j fun q => hj (hsl j q)
        have es24 := (Es.ext (O := OwnA ssb (wipe σ own)) ext).trans (es3.trans es4)
        cases t with
        | false =>
          obtain ⟨rfl, rfl⟩ := ret_some fc
          simp only [Bool.false_eq_true, if_false]
          have hrest : loopLc own (turnM asg tst elt) (items.drop (i + 1)) acc ⟨wipeE s2.env own, s2.st⟩ = some (ds, sE) := hrest
          have relw := rel4.wiped own
          rw [hw3] at relw
          refine ⟨ι4, _, acc, accV, hlt, relw, es24.kp D _ hDi hni hno, hacc.mono es24.stp, fun q => ?_, fun q => ?_, esi.trans (es24.trans ⟨.refl, fun _ h => .inl h, fun _ _ h _ _ => h, fun a q => ?_, fun _ h => h⟩), hrest⟩
          · rcases es24.fr D q with q | q
            · exact hni q
            · rw [q] at hDi; cases hDi
          · rw [← hw3] at q; exact hno (es24.ow D (own_wiped q))
          · rw [← hw3] at q; exact own_wiped q
        | true =>
          obtain ⟨y, s5, ee, fd⟩ := bnd_some (m := elt) fc
          obtain ⟨rfl, rfl⟩ := ret_some fd
          simp only [if_true]
          obtain ⟨hlim, hrest⟩ := hrest
          refine ⟨ι4, s4, y, _, rel4, ee, fun v ι5 H5 rel5 rv5 es5 => .here ?_⟩
          have es25 := es24.trans es5
          have hD5 := es25.kp D _ hDi hni hno
          have hni5 : D ∉ ι5 := fun q => by
            rcases es25.fr D q with q | q
            · exact hni q
            · rw [q] at hDi; cases hDi
          have relw := rel5.wiped own
          rw [hw3] at relw
          have hno5 : ¬ OwnA ⟨wipeE s2.env own, s2.st⟩ (wipe σ own) D := fun q => by rw [← hw3] at q; exact hno (es25.ow D (own_wiped q))
          have hop : Open (H5 D) := by rw [hD5]; exact Open.lst
          have stp5 : Stp ι5 H5 ι5 (upd H5 D (.lst (accV ++ [v]))) := Stp.op hop
          refine ⟨accV, hD5, by rw [← hacc.length]; exact Nat.lt_of_lt_of_le hlim lim_line, ι5, _, acc ++ [y], accV ++ [v], hlt, relw.upd_free hop hni5 (rel1.freshH hD) hno5, upd_same, ((hacc.mono es25.stp).append (.cons rv5 .nil)).mono stp5, hni5, hno5, ?_, hrest⟩
          have tot := esi.trans es25
          refine ⟨tot.stp.trans stp5, tot.fr, fun b u hb h1 h2 => ?_, fun b q => ?_, fun b hb => ?_⟩
          · rw [upd_ne (ne_of_none hb hD)]; exact tot.kp b u hb h1 h2
          · rw [← hw3] at q; exact tot.ow b (own_wiped q)
          · by_cases e : b = D
            · subst e; rw [upd_same] at hb; cases hb
            · rw [upd_ne e] at hb; exact tot.dom b hb
      · have hie : i = items.length := by omega
        subst hie
        refine .inl ⟨wk.stop ιi Hi esi.stp, ?_⟩
        rw [List.drop_length, loopLc] at hl
        obtain ⟨rfl, rfl⟩ := ret_some hl
        refine k (.ref D) ιi Hi (rel1.back reli esi.stp) ⟨D, rfl, ⟨accV, hDi, hacc⟩, hni, rel1.freshH hD, fun q => hno (own_back q)⟩ (fun so a _ e => by cases e; exact es1.dom D hD) (es1.trans ⟨esi.stp, esi.fr, esi.kp, fun a q => esi.ow a (own_back q), esi.dom⟩)
theorem pe_lcE {elt tg iter : Expr} {ifs : List Expr} {scope : Scope} {own : List (Str × Nat)} {pos : Pos} {sl : List Nat} {mi : M (List D)} {asg : D → M Unit} {tst : M Bool} {me : M D} (hc : X.calm = true) (hN : X.N.Nodup) (hi : PI X tg iter (tI g mi)) (ok : BlkOk X.N X.env.scope scope own)
    (hg : ∀ (s : Shared) (H : Hp) (C : Addr) (cl : List (Str × Addr)) (fp : List Addr), PG (X.blk s H scope (compEnvC scope cl C X.env) fp) tg (tG g sl asg)) (ht : ∀ (s : Shared) (H : Hp) (C : Addr) (cl : List (Str × Addr)) (fp : List Addr), PTs (X.blk s H scope (compEnvC scope cl C X.env) fp) ifs (tT g tst))
    (he : ∀ (s : Shared) (H : Hp) (C : Addr) (cl : List (Str × Addr)) (fp : List Addr), PE (X.blk s H scope (compEnvC scope cl C X.env) fp) elt (tD g me)) (hs : ∀ x, foldedSetIterable iter X.env x = pure x) (hsl : ∀ j ∈ sl, j ∈ own.map (·.2)) :
    PE X (.ListComp elt [⟨tg, iter, ifs, 0⟩] scope pos) (tE g (lcM (own.map (·.2)) mi (turnM asg tst me))) :=
  (pe_lc hc hN hi ok hg ht he hs).to fun σ H Q h => .here (tLc_of hsl h)
end
end Ev
end

section
set_option Elab.async false
set_option linter.all false
set_option maxRecDepth 100000
set_option maxHeartbeats 4000000
namespace Ev
open PySem PySem.Spec PyProof.Rows L2

/-! ### what is known of the text -/
structure SC where
  N : List Str
  sc : Scope
  fs : Option Scope
def SC.fnOf (c : SC) (x : Str) : Bool := match c.fs with
  | none => true
  | some s => s.names.lookup x == some .cell
def SC.slot (c : SC) (i : Nat) (x : Str) : Bool := decide (c.N[i]? = some x) && (match c.sc.names.lookup x with
  | some .local => true | some .cell => true | some .free => true | _ => false) && !(x == ("__debug__" : Str)) && !(x == ("__classdict__" : Str))
def SC.glob (c : SC) (x : Str) : Bool := (match c.sc.names.lookup x with
  | some .globalImplicit => true | _ => false) && !(x == ("__debug__" : Str)) && !decide (x = "__name__")
def SC.store (c : SC) (i : Nat) (x : Str) : Bool := decide (c.N[i]? = some x) && (match c.sc.names.lookup x with
  | some .local => true | some .cell => c.fnOf x | _ => false)
def SC.blk (c : SC) (scope : Scope) : SC := ⟨c.N, relS scope c.sc, some scope⟩
/-- no star, no slice, no set, no dict -/
def plainE : Expr → Bool
  | .Starred .. | .Slice .. | .Set .. | .Dict .. => false
  | _ => true
def isCallE : Expr → Bool
  | .Call .. => true
  | _ => false
def cC : D → Const → Bool
  | .non, .none => true
  | .bl a, .bool b => a == b
  | .int a, .int b => decide (a = b)
  | .str a, .str b => decide (a = b)
  | _, _ => false
def BI.nm : BI → Str
  | .len => "len" | .sum => "sum" | .min => "min" | .max => "max" | .all => "all" | .any => "any" | .sorted => "sorted" | .tuple => "tuple" | .list => "list"
  | .int => "int" | .abs => "abs" | .repr => "repr" | .str => "str" | .dict => "dict" | .isI _ => "isinstance"
def Ty.nm : Ty → Str
  | .int => "int" | .bool => "bool" | .str => "str" | .tuple => "tuple" | .list => "list" | .dict => "dict"
def ownP (N : List Str) (own : List Nat) : List (Str × Nat) := own.filterMap fun i => (N[i]?).map fun x => (x, i)
mutual
def T.slots : T → List Nat
  | .v i => [i]
  | .tup ts => T.slotsL ts
  | .idx _ _ => []
def T.slotsL : List T → List Nat
  | [] => []
  | t :: ts => T.slots t ++ T.slotsL ts
end
def notStars (es : List Expr) : Bool := es.all plainE
mutual
def ckE : E → SC → Expr → Bool
  | .c d, c, e => match e with
    | .Constant k _ _ => cC d k
    | _ => false
  | .v i, c, e => match e with
    | .Name x _ => c.slot i x
    | _ => false
  | .g x, c, e => match e with
    | .Name y _ => decide (y = x) && c.glob y
    | _ => false
  | .bin o a b, c, e => match e with
    | .BinOp l o' r _ => decide (o' = o) && ckE a c l && ckE b c r
    | _ => false
  | .neg a, c, e => match e with
    | .UnaryOp .USub x _ => ckE a c x
    | _ => false
  | .not a, c, e => match e with
    | .UnaryOp .Not x _ => ckE a c x
    | _ => false
  | .and a b, c, e => match e with
    | .BoolOp .And [x, y] _ => ckE a c x && ckE b c y
    | .BoolOp .And (x :: y :: z :: rest) p => ckE a c x && ckE b c (.BoolOp .And (y :: z :: rest) p)
    | _ => false
  | .or a b, c, e => match e with
    | .BoolOp .Or [x, y] _ => ckE a c x && ckE b c y
    | .BoolOp .Or (x :: y :: z :: rest) p => ckE a c x && ckE b c (.BoolOp .Or (y :: z :: rest) p)
    | _ => false
  | .cmp o a b, c, e => match e with
    | .Compare l [o'] [r] _ => decide (o' = o) && ckE a c l && ckE b c r && plainE r
    | _ => false
  | .chn o p a b d, c, e => match e with
    | .Compare l [o', p'] [r, q] _ => decide (o' = o) && decide (p' = p) && ckE a c l && ckE b c r && ckE d c q && plainE q
    | _ => false
  | .ite t a b, c, e => match e with
    | .IfExp t' x y _ => ckE t c t' && ckE a c x && ckE b c y
    | _ => false
  | .tup xs, c, e => match e with
    | .Tuple es _ _ => ckDs xs c es
    | _ => false
  | .lst xs, c, e => match e with
    | .List es _ => ckDs xs c es
    | _ => false
  | .star _, _, _ => false
  | .idx a b, c, e => match e with
    | .Subscript x y _ => ckE a c x && ckE b c y && plainE y
    | _ => false
  | .slc a lo hi, c, e => match e with
    | .Subscript x (.Slice l h none _) _ => ckE a c x && (match l with
      | none => (match lo with | .na => true | _ => false)
      | some l => ckE lo c l) && (match h with
      | none => (match hi with | .na => true | _ => false)
      | some h => ckE hi c h)
    | _ => false
  | .na, _, _ => false
  | .call f xs, c, e => match e with
    | .Call (.Name y _) es [] _ => decide (y = f) && c.glob y && ckDs xs c es && (match es with
      | [] => true
      | [.Starred _ _] => true
      | es => notStars es)
    | _ => false
  | .bi f xs, c, e => match e with
    | .Call (.Name y _) es [] _ => (match f with
      | .isI t => (match xs, es with
        | [x], [a, .Name ty _] => decide (y = "isinstance") && c.glob y && decide (ty = t.nm) && c.glob ty && ckE x c a && plainE a
        | _, _ => false)
      | f => decide (y = f.nm) && c.glob y && ckRs xs c es && notStars es && !es.isEmpty)
    | _ => false
  | .mt m o xs, c, e => match e with
    | .Call (.Attribute x nm apos) es [] pos => decide (nm = m.name) && ckE o c x && !isCallE x && ckDs xs c es && notStars es && decide (es.length < 20) && (apos.endLine == pos.line) && (match m with
      | .append | .extend => !es.isEmpty
      | .pop => true
      | _ => false)
    | _ => false
  | .lc own t it ifs elt, c, e => match e with
    | .ListComp el [⟨tg, iter, fs, z⟩] scope _ => decide (z = 0) && decide ((ownP c.N own).map (·.2) = own) && blkC c.N c.sc scope (ownP c.N own) && ckI it c tg iter && plainE iter && ckT t (c.blk scope) tg && ckE elt (c.blk scope) el &&
      ckTs ifs (c.blk scope) fs && decide (fs.length ≤ 1) && (T.slots t).all (own.contains ·)
    | _ => false
  | .heap a, c, e => ckE a c e
  | .coll t it, c, e => match e with
    | .Call (.Name y _) [x] [] _ => decide (y = (if t = true then ("list" : Str) else ("tuple" : Str))) && c.glob y && plainE x && ckC it c t x
    | _ => false
  | .rev a, c, e => match e with
    | .Subscript x (.Slice none none (some (.UnaryOp .USub (.Constant (.int 1) _ _) _)) _) _ => ckE a c x
    | _ => false
/-- what list(..), tuple(..) may draw from -/
def ckC : I → SC → Bool → Expr → Bool
  | .range xs, c, _, e => match e with
    | .Call (.Name y _) es [] _ => (match xs, es with
      | [a], [x] => decide (y = "range") && c.glob y && ckE a c x && plainE x
      | [a, b], [x, z] => decide (y = "range") && c.glob y && ckE a c x && ckE b c z && plainE x && plainE z
      | _, _ => false)
    | _ => false
  | .zip xs, c, t, e => match e with
    | .Call (.Name y _) es [] _ => t && decide (y = "zip") && c.glob y && ckDs xs c es && notStars es && decide (es.length = 2 ∨ es.length = 3)
    | _ => false
  | .of _, _, _, _ => false
  | .enum _, _, _, _ => false
def ckDs : List E → SC → List Expr → Bool
  | [], _, es => es.isEmpty
  | .star a :: xs, c, es => match es with
    | .Starred e _ :: es => ckE a c e && ckDs xs c es
    | _ => false
  | x :: xs, c, es => match es with
    | e :: es => plainE e && ckE x c e && ckDs xs c es
    | _ => false
def ckRs : List E → SC → List Expr → Bool
  | [], _, es => es.isEmpty
  | x :: xs, c, es => match es with
    | e :: es => plainE e && ckE x c e && ckRs xs c es
    | _ => false
def ckTs : List E → SC → List Expr → Bool
  | [], _, es => es.isEmpty
  | x :: xs, c, es => match es with
    | e :: es => ckE x c e && ckTs xs c es
    | _ => false
def ckI : I → SC → Expr → Expr → Bool
  | .of a, c, _, e => ckE a c e
  | .range xs, c, _, e => match e with
    | .Call (.Name y _) es [] _ => decide (y = "range") && c.glob y && ckRs xs c es && notStars es && decide (es.length = 1 ∨ es.length = 2)
    | _ => false
  | .enum a, c, tg, e => match e, tg with
    | .Call (.Name y _) [x] [] _, .Tuple _ _ _ => decide (y = "enumerate") && c.glob y && ckE a c x && plainE x
    | _, _ => false
  | .zip xs, c, tg, e => match e, tg with
    | .Call (.Name y _) es [] _, .Tuple _ _ _ => decide (y = "zip") && c.glob y && ckDs xs c es && notStars es && decide (es.length = 2 ∨ es.length = 3)
    | _, _ => false
def ckT : T → SC → Expr → Bool
  | .v i, c, e => match e with
    | .Name x _ => c.store i x
    | _ => false
  | .tup ts, c, e => match e with
    | .Tuple es _ _ => ckTl ts c es
    | _ => false
  | .idx a b, c, e => match e with
    | .Subscript x y _ => ckE a c x && ckE b c y && plainE y
    | _ => false
def ckTl : List T → SC → List Expr → Bool
  | [], _, es => es.isEmpty
  | t :: ts, c, es => match es with
    | e :: es => plainE e && ckT t c e && ckTl ts c es
    | _ => false
end

structure GOk (g : G) (Γ : Gam) (c : SC) (X : Cx) : Prop where
  calm : X.calm = true
  N : X.N = c.N
  nd : c.N.Nodup
  sc : X.env.scope = c.sc
  fn : ∀ x, X.fn x = c.fnOf x
  K : g.K = X.K
  gd : X.A.guards = some []
  un : X.A.units + 100 < cLine
  blt : ∀ x ∈ (["len", "sum", "min", "max", "all", "any", "sorted", "tuple", "list", "int", "abs", "repr", "str", "dict", "isinstance", "bool", "range", "enumerate", "zip", "set"] : List Str), X.mg x = none
  con : ∀ x d, Γ.con x = some d → ∃ v u, X.mg x = some u ∧ RelV v u ∧ ∀ ι H, RD g.K ι H d v
  call : ∀ f den, Γ.fn f = some den → CallOk X.prog X.w X.K X.mg X.base X.A f den
section
variable {g : G} {Γ : Gam} {c : SC} {X : Cx}
theorem GOk.blk (G : GOk g Γ c X) (s : Shared) (H : Hp) (scope : Scope) (C : Addr) (cl : List (Str × Addr)) (fp : List Addr) : GOk g Γ (c.blk scope) (X.blk s H scope (compEnvC scope cl C X.env) fp) where
  calm := G.calm
  N := G.N
  nd := G.nd
  sc := by show relS scope X.env.scope = relS scope c.sc; rw [G.sc]
  fn := fun x => rfl
  K := G.K
  gd := G.gd
  un := G.un
  blt := G.blt
  con := G.con
  call := G.call
theorem GOk.gl (G : GOk g Γ c X) {x : Str} (h : c.glob x = true) : Gl X x ∧ (x == ("__debug__" : Str)) = false ∧ x ≠ "__name__" := by
  unfold SC.glob at h
  simp only [Bool.and_eq_true, Bool.not_eq_true', decide_eq_false_iff_not] at h
  obtain ⟨⟨h1, h2⟩, h3⟩ := h
  refine ⟨?_, h2, h3⟩
  show X.env.scope.names.lookup x = _
  rw [G.sc]
  split at h1
  · assumption
  · cases h1
theorem GOk.vis (G : GOk g Γ c X) {i : Nat} {x : Str} (h : c.slot i x = true) : X.N[i]? = some x ∧ Vis X.env.scope x ∧ (x == ("__debug__" : Str)) = false ∧ (x == ("__classdict__" : Str)) = false := by
  unfold SC.slot at h
  simp only [Bool.and_eq_true, Bool.not_eq_true', decide_eq_true_eq] at h
  obtain ⟨⟨⟨h1, h2⟩, h3⟩, h4⟩ := h
  refine ⟨by rw [G.N]; exact h1, ?_, h3, h4⟩
  unfold Vis
  rw [G.sc]
  split at h2
  · exact .inl (by assumption)
  · exact .inr (.inl (by assumption))
  · exact .inr (.inr (by assumption))
  · cases h2
theorem GOk.loc (G : GOk g Γ c X) {i : Nat} {x : Str} (h : c.store i x = true) : X.N[i]? = some x ∧ Loc X.env.scope x ∧ (X.fn x = true ∨ X.env.scope.names.lookup x = some .local) := by
  unfold SC.store at h
  simp only [Bool.and_eq_true, decide_eq_true_eq] at h
  obtain ⟨h1, h2⟩ := h
  refine ⟨by rw [G.N]; exact h1, ?_⟩
  unfold L2.Loc
  rw [G.sc, G.fn]
  split at h2
  · rename_i e; exact ⟨.inl e, .inr e⟩
  · rename_i e; exact ⟨.inr e, .inl h2⟩
  · cases h2
theorem starEach_plain {e : Expr} {es : List Expr} {env : Env} (h : plainE e = true) : starEach (e :: es) env = (false, eval e env) :: starEach es env := by
  cases e <;> first | rfl | cases h
theorem noStars_plain {pos : Pos} {env : Env} : ∀ {es : List Expr}, notStars es = true → (backTo pos (starEach es env)).any (·.1) = false
  | [], _ => rfl
  | e :: es, h => by
    simp only [notStars, List.all_cons, Bool.and_eq_true] at h
    rw [starEach_plain h.1]
    show (false || (backTo pos (starEach es env)).any (·.1)) = false
    rw [noStars_plain (es := es) h.2]; rfl
theorem marks_plain {o : CmpOp} {e : Expr} (h : plainE e = true) : behindInMarks o e = false := by
  cases e <;> first | rfl | cases h
theorem last_plain {o p : CmpOp} {b e : Expr} (h : plainE e = true) : lastMarks [o, p] [b, e] = false := by
  show lastMarks [p] [e] = false
  exact marks_plain h
theorem ix_plain {e : Expr} (h : plainE e = true) : PlainIx e := fun o i => by
  cases e <;> first | rfl | cases h
theorem fold_plain {e : Expr} {env : Env} (h : plainE e = true) (x : Value) : foldedSetIterable e env x = pure x := by
  cases e <;> first | rfl | cases h
theorem base_plain {e : Expr} {nm : Str} {env : Env} (h : isCallE e = false) : attributeBase e nm env (eval e env) = eval e env := by
  cases e <;> first | rfl | cases h
theorem asgSub_plain {x y : Expr} {pos : Pos} {env : Env} (h : plainE y = true) (v : Value) : assign (.Subscript x y pos) env v = (do
      let ov ← holding [v] (eval x env)
      let iv ← holding [v, ov] (eval y env)
      standAt pos
      holding [v, ov, iv] (setItem ov iv v)
      release [v, ov, iv] []) := by
  cases y <;> first | rfl | cases h
theorem asgEach_plain {e : Expr} {es : List Expr} {env : Env} (h : plainE e = true) : assignEach (e :: es) env = (false, assign e env) :: assignEach es env := by
  cases e <;> first | rfl | cases h
/-- what fails is never run -/
theorem pe_fail {m : M RV} {e : Expr} (h : ∀ ss, m ss = none) : PE X e (tE g m) := ⟨fun _ _ _ _ _ _ ⟨_, ss, _, _, _, e, _⟩ => by rw [h ss] at e; cases e⟩
theorem pt_fail {m : M Bool} {e : Expr} (h : ∀ ss, m ss = none) : PT X e (tT g m) := ⟨fun _ _ _ _ _ _ ⟨_, ss, _, _, _, e, _⟩ => by rw [h ss] at e; cases e⟩
theorem bnd_fail {α β : Type} {m : M α} {f : α → M β} (h : ∀ x ss, f x ss = none) (ss : SS) : bnd m f ss = none := by
  unfold bnd
  cases m ss with
  | none => rfl
  | some p => exact h _ _
theorem bnd_ite_ret (m : M Bool) : (bnd m fun k => if k = true then ret true else ret false) = m := by
  funext ss
  unfold bnd
  cases m ss with
  | none => rfl
  | some p => obtain ⟨k, s⟩ := p; cases k <;> rfl
end
end Ev
end

section
set_option Elab.async false
set_option linter.all false
set_option maxRecDepth 100000
set_option maxHeartbeats 4000000
namespace Ev
open PySem PySem.Spec PyProof.Rows L2

section
variable {g : G} {Γ : Gam} {c : SC} {X : Cx}
theorem isTrue_plain' {a : Expr} {env : Env} (h : match a with
    | .UnaryOp .Not _ _ | .BoolOp .. | .IfExp .. | .Compare .. => False
    | _ => True) (whole : Sem Value) : PySem.isTrue a env whole = (do let v ← whole; standAt a.pos; holding [v] (truthy v)) := by
  cases a with
  | UnaryOp op x p => cases op <;> first | exact h.elim | (unfold PySem.isTrue; rfl)
  | BoolOp => exact h.elim
  | IfExp => exact h.elim
  | Compare => exact h.elim
  | _ => unfold PySem.isTrue; rfl
theorem evDs_cons {x : E} {xs : List E} (h : ∀ a, x ≠ .star a) : evDs Γ (x :: xs) = bnd (bnd (ev Γ x) esc) fun d => bnd (evDs Γ xs) fun ds => ret (d :: ds) := by
  rw [bnd_assoc]
  cases x <;> first | rfl | exact absurd rfl (h _)
theorem asgTs_eq {t : T} {ts : List T} : asgTs Γ (t :: ts) = fun ds => match ds with
    | d :: ds => bnd (asgT Γ t d) fun _ => asgTs Γ ts ds
    | _ => fail := by
  funext ds
  cases ds <;> rfl
theorem ckC_ok {d : D} {k : Const} {j : Nat} {pos : Pos} (h : cC d k = true) : ∃ v, PE X (.Constant k j pos) (tC v) ∧ ∀ ι H, RD g.K ι H d v := by
  unfold cC at h
  split at h
  · exact ⟨_, pe_non, fun _ _ => .non⟩
  · rename_i a b
    have e : a = b := by simpa using h
    subst e; exact ⟨_, pe_bl, fun _ _ => .bl a⟩
  · have e := of_decide_eq_true h
    subst e; exact ⟨_, pe_int, fun _ _ => .int _⟩
  · have e := of_decide_eq_true h
    subst e; exact ⟨_, pe_str, fun _ _ => .str _⟩
  · cases h
theorem boot_bi (f : BI) (hf : ∀ t, f ≠ .isI t) : bootBuiltins f.nm = some f.val := by
  cases f with
  | isI t => exact absurd rfl (hf t)
  | _ => decide +kernel
theorem mem_bi (f : BI) : f.nm ∈ (["len", "sum", "min", "max", "all", "any", "sorted", "tuple", "list", "int", "abs", "repr", "str", "dict", "isinstance", "bool", "range", "enumerate", "zip", "set"] : List Str) := by
  cases f with
  | isI t => show (Str.ofString "isinstance") ∈ _; decide +kernel
  | _ => decide +kernel
theorem bi_call (G : GOk g Γ c X) {f : BI} (hf : ∀ t, f ≠ .isI t) {a : Expr} {es : List Expr} {p pos : Pos} {mr : M (List RV)} (hg : c.glob f.nm = true) (ha : PA X (a :: es) (tRs g mr)) (hp : notStars (a :: es) = true) :
    PE X (.Call (.Name f.nm p) (a :: es) [] pos) (tE g (bnd mr fun rs => bnd (rsvs rs) fun as => opt (biop f as))) := by
  obtain ⟨g1, g2, g3⟩ := G.gl hg
  have hr := bi_r (X := X) G.calm G.gd G.un f hf
  have hb := boot_bi f hf
  have hm := G.blt _ (mem_bi f)
  have hpe : plainE a = true := by simp only [notStars, List.all_cons, Bool.and_eq_true] at hp; exact hp.1
  have hps : notStars es = true := by simp only [notStars, List.all_cons, Bool.and_eq_true] at hp; exact hp.2
  refine pe_biE G.K hr ?_
  cases f with
  | isI t => exact absurd rfl (hf t)
  | tuple => exact pe_callTy hr g1 hm hb ha g3 g2 (starEach_plain hpe) (noStars_plain hps)
  | list => exact pe_callTy hr g1 hm hb ha g3 g2 (starEach_plain hpe) (noStars_plain hps)
  | int => exact pe_callTy hr g1 hm hb ha g3 g2 (starEach_plain hpe) (noStars_plain hps)
  | str => exact pe_callTy hr g1 hm hb ha g3 g2 (starEach_plain hpe) (noStars_plain hps)
  | dict => exact pe_callTy hr g1 hm hb ha g3 g2 (starEach_plain hpe) (noStars_plain hps)
  | _ => exact pe_callB hr g1 hm hb ha g3 g2 (starEach_plain hpe) (noStars_plain hps)
theorem ty_boot (t : Ty) : bootBuiltins t.nm = some (.type t.name) ∧ t.nm ∈ (["len", "sum", "min", "max", "all", "any", "sorted", "tuple", "list", "int", "abs", "repr", "str", "dict", "isinstance", "bool", "range", "enumerate", "zip", "set"] : List Str) := by
  cases t <;> exact ⟨by decide +kernel, by decide +kernel⟩
theorem isi_call (G : GOk g Γ c X) {t : Ty} {a : Expr} {p p2 pos : Pos} {m : M RV} (hg : c.glob "isinstance" = true) (hg2 : c.glob t.nm = true) (ha : PE X a (tE g m)) (hp : plainE a = true) :
    PE X (.Call (.Name "isinstance" p) [a, .Name t.nm p2] [] pos) (tE g (bnd (bnd m fun r => ret [r]) fun rs => bnd (rsvs rs) fun as => opt (biop (.isI t) as))) := by
  obtain ⟨g1, g2, g3⟩ := G.gl hg
  obtain ⟨k1, k2, k3⟩ := G.gl hg2
  exact pe_isiE G.K g1 (G.blt _ (by decide +kernel)) k1 (G.blt _ (ty_boot t).2) (ty_boot t).1 k3 k2 ha (starEach_plain hp)
def MI.basic : MI → Bool
  | .append | .extend | .pop => true
  | _ => false
theorem mt_facts (m : MI) (h : m.basic = true) : PlainAttrs m.ty ∧ Slot m.ty m.name m.id ∧ typeOf (.builtin m.id) = pure (.type "method_descriptor") := by
  cases m <;> first
    | exact ⟨F.plainAttrs_list, F.slot_list_append, by kernel_rfl⟩
    | exact ⟨F.plainAttrs_list, F.slot_list_extend, by kernel_rfl⟩
    | exact ⟨F.plainAttrs_list, F.slot_list_pop, by kernel_rfl⟩
    | cases h
theorem few_plain {es : List Expr} {pos : Pos} {env : Env} (h : notStars es = true) (hl : es.length < 20) : ((backTo pos (starEach es env)).all (fun x => !x.1) && (backToKw pos (keywordEach [] env)).all (fun x => x.1.isSome)
      && decide (es.length + ([] : List Keyword).length + (if ([] : List Keyword).isEmpty then 0 else 1) < 30)) = true := by
  have h1 : (backTo pos (starEach es env)).all (fun x => !x.1) = true := by
    have := noStars_plain (pos := pos) (env := env) h
    simp only [List.any_eq_false] at this
    simp only [List.all_eq_true]
    intro x hx
    have := this x hx
    simpa using this
  rw [h1]
  simp [keywordEach, backToKw]
  omega
theorem pe_mt0E (hK : g.K = X.K) {mi : MI} {name : Str} {a : Expr} {apos pos : Pos} {m : M RV} (h : PE X (.Call (.Attribute a name apos) [] [] pos) (tBM0 X.K mi.ty (rMt X.K mi) (tE g m))) :
    PE X (.Call (.Attribute a name apos) [] [] pos) (tE g (bnd m fun r => bnd (kindM mi r) fun _ => bnd (ret []) fun ds => mtM mi r ds)) := h.to fun σ H Q ⟨ι, ss, z, ss', rel, e, k⟩ => .here (by
  obtain ⟨x, s1, e1, f1⟩ := bnd_some e
  obtain ⟨u0, s0, e0, f0⟩ := bnd_some f1
  obtain ⟨ds, s2, e2, f2⟩ := bnd_some f0
  obtain ⟨rs, s3, e3, f3⟩ := bnd_some f2
  obtain ⟨so, s4, e4, f4⟩ := bnd_some f3
  obtain ⟨r, s5, e5, f5⟩ := bnd_some f4
  obtain ⟨u, s6, e6, f6⟩ := bnd_some f5
  obtain ⟨rfl, rfl⟩ := ret_some e2
  obtain ⟨rfl, ra, hra, hty⟩ := kindM_some e0
  obtain ⟨h3, rfl⟩ := rsvDs_some e3
  obtain ⟨h5, rfl⟩ := opt_some e5
  obtain ⟨rfl, rfl⟩ := ret_some f6
  refine ⟨ι, ss, x, _, rel, e1, fun v ι1 H1 rel1 rv1 _ es1 => .here ⟨hK ▸ tyV_of (res_rra rel1 rv1 hra) hty, ?_⟩⟩
  obtain ⟨rfl, p, rfl, hso, hx⟩ := soAt_rra rel1 rv1 e4
  rw [← hK]
  refine ⟨ι1, p, so, [], rs, r, rfl, hso, .nil, resDs_rra rel1 .nil h3, h5, fun w ho hop hs2 hw => ?_⟩
  obtain ⟨rel3, es3⟩ := putAt_rel rel1 hx e6 hop hs2
  exact k w ι1 _ rel3 hw .d (es1.trans es3))
theorem mt_call (G : GOk g Γ c X) {m : MI} {o e : Expr} {es : List Expr} {apos pos : Pos} {mo : M RV} {ms : M (List D)} (hm : m.basic = true) (ho : PE X o (tE g mo)) (hb : isCallE o = false) (ha : PA X (e :: es) (tDs g ms)) (hp : notStars (e :: es) = true) (hl : (e :: es).length < 20)
    (hline : (apos.endLine == pos.line) = true) : PE X (.Call (.Attribute o m.name apos) (e :: es) [] pos) (tE g (bnd mo fun r => bnd (kindM m r) fun _ => bnd ms fun ds => mtM m r ds)) := by
  obtain ⟨h1, h2, h3⟩ := mt_facts m hm
  have hr := mt_r (X := X) m
  simp only [notStars, List.all_cons, Bool.and_eq_true] at hp
  exact pe_mtE G.K (pe_bm h1 h2 h3 hr ho ha (base_plain hb) (few_plain (by simp only [notStars, List.all_cons, Bool.and_eq_true]; exact hp) hl) hline (starEach_plain hp.1) (noStars_plain hp.2))
theorem mt_call0 (G : GOk g Γ c X) {m : MI} {o : Expr} {apos pos : Pos} {mo : M RV} (hm : m.basic = true) (ho : PE X o (tE g mo)) (hb : isCallE o = false)
    (hline : (apos.endLine == pos.line) = true) : PE X (.Call (.Attribute o m.name apos) [] [] pos) (tE g (bnd mo fun r => bnd (kindM m r) fun _ => bnd (ret []) fun ds => mtM m r ds)) := by
  obtain ⟨h1, h2, h3⟩ := mt_facts m hm
  exact pe_mt0E G.K (pe_bm0 h1 h2 h3 (mt_r (X := X) m) ho (base_plain hb) hline)
end
end Ev
end

section
set_option Elab.async false
set_option linter.all false
set_option maxRecDepth 100000
set_option maxHeartbeats 4000000
namespace Ev
open PySem PySem.Spec PyProof.Rows L2

theorem zip_len0 : typeLookup (.type "zip") "__len__" = pure none := by
  rw [typeLookup_type, builtinLookup_eq_fast]
  kernel_rfl
theorem zip_hint0 : typeLookup (.type "zip") "__length_hint__" = pure none := by
  rw [typeLookup_type, builtinLookup_eq_fast]
  kernel_rfl
section
variable {P : Program} {w : World} {A : Around} {EE : Value → Shared → Prop} {t : Shared} {zp ti tq j1 j2 j3 : Addr} {g1 g2 g3 : List Addr} {n1 n2 n3 i : Nat} {P1 P2 P3 : Nat → Value → Prop} {S1 S2 S3 : Nat → Heap → Prop}
/-- zip of two whose first tuple is still out: an item -/
theorem zipH2_item {Tq : Addr} {fl : Bool} {ob : Obj} {Q : Value → Shared → Prop} (Z : ZipSep2 zp ti tq j1 j2 g1 g2) (D1 : Draws P w A j1 g1 n1 P1 S1) (D2 : Draws P w A j2 g2 n2 P2 S2) (hz : IsZipHeld t.heap zp ti tq Tq fl) (hq : t.heap.get? Tq = some ob)
    (hti : IsTupOf2 t.heap ti (.ref j1) (.ref j2)) (s1 : S1 i t.heap) (s2 : S2 i t.heap) (l1 : i < n1) (l2 : i < n2)
    (hQ : ∀ x1 x2 h' tk, P1 i x1 → P2 i x2 → IsZipHeld h' zp ti tq Tq true → S1 (i + 1) h' → S2 (i + 1) h' → IsTupOf2 h' t.heap.objs.size x1 x2 → (∀ c o, c ≠ zp → c ≠ j1 → c ≠ j2 → t.heap.get? c = some o → h'.get? c = some o) → Q (.ref t.heap.objs.size) { t with heap := h', toks := tk }) :
    wpAny (model P w) A (Builtin.«zip.__next__» ⟨[.ref zp], []⟩) (fun fin t' => ∃ v, fin = .done (.ret v) ∧ Q v t') EE t := by
  obtain ⟨hp, gs, dr, tk0, os⟩ := t
  show wpAny (model P w) A (field (.ref zp) 2 >>= _) _ EE _
  refine wpAny_bind (wpAny_field hz rfl (x := .bool false) rfl ?_)
  show wpAny (model P w) A (field (.ref zp) 3 >>= _) _ EE _
  refine wpAny_bind (wpAny_field hz rfl (x := .ref ti) rfl (wpAny_bind (wpAny_seqItems hti rfl ?_)))
  show wpAny (model P w) A (Builtin.SmallTypes.ownedTupleIsFree (.ref zp) >>= _) _ EE _
  refine wpAny_bind (wpAny_tupleHeld_zip hz hq fun ha hza hsa => ?_)
  replace hsa : Heap.SameBut zp hp ha := hsa
  simp only [Bool.false_eq_true, if_false]
  rw [← Array.forIn_toList]
  simp only [List.forIn_cons, List.forIn_nil]
  refine wpAny_bind (wpAny_bind (wpAny_bind (wpAny_holding ?_)))
  show wpAny (model P w) A (Builtin.SmallTypes.nextOf (.ref j1) >>= _) _ EE ⟨ha, gs, dr, tk0, os⟩
  refine wpAny_bind (D1.item i _ _ _ l1 (D1.over s1 hsa Z.zf1) fun x1 hb tk1 q1 u1 hsb => wpAny_pure (wpAny_pure ?_))
  replace hsb : Heap.SameBut j1 ha hb := hsb
  refine wpAny_bind (wpAny_bind (wpAny_holding ?_))
  show wpAny (model P w) A (Builtin.SmallTypes.nextOf (.ref j2) >>= _) _ EE ⟨hb, gs, dr, tk1, os⟩
  refine wpAny_bind (D2.item i _ _ _ l2 (D2.over (D2.over s2 hsa Z.zf2) hsb Z.sep1_2) fun x2 hc tk2 q2 u2 hsc => wpAny_pure (wpAny_pure (wpAny_pure ?_)))
  replace hsc : Heap.SameBut j2 hb hc := hsc
  show wpAny (model P w) A (newTuple [x1, x2] >>= _) _ EE ⟨hc, gs, dr, tk2, os⟩
  refine wpAny_bind (wpAny_newTuple (wpAny_pure ⟨_, rfl, ?_⟩))
  have hsz : hc.objs.size = hp.objs.size := by rw [hsc.1, hsb.1, hsa.1]
  show Q (.ref hc.objs.size) _
  have up : ∀ c o, hc.get? c = some o → (hc.push { cls := .type "tuple", data := .seq #[x1, x2] }).get? c = some o := fun c o e => Heap.get?_push_of_some _ e
  have tup : IsTupOf2 (hc.push { cls := .type "tuple", data := .seq #[x1, x2] }) hc.objs.size x1 x2 := Heap.get?_push_size _ rfl
  rw [hsz] at tup ⊢
  exact hQ x1 x2 _ tk2 q1 q2 (up _ _ (hsc.extBut _ _ Z.zi2 (hsb.extBut _ _ Z.zi1 hza))) (D1.frame _ _ _ (D1.over u1 hsc Z.sep2_1) fun b _ o e => up b o e) (D2.frame _ _ _ u2 fun b _ o e => up b o e) tup
    fun c o c1 c2 c3 e => up c o (hsc.extBut _ _ c3 (hsb.extBut _ _ c2 (hsa.extBut _ _ c1 e)))
theorem zipH2_end {Tq : Addr} {fl : Bool} {ob : Obj} {Q : Fin → Shared → Prop} (Z : ZipSep2 zp ti tq j1 j2 g1 g2) (D1 : Draws P w A j1 g1 n1 P1 S1) (D2 : Draws P w A j2 g2 n2 P2 S2) (hz : IsZipHeld t.heap zp ti tq Tq fl) (hq : t.heap.get? Tq = some ob)
    (hti : IsTupOf2 t.heap ti (.ref j1) (.ref j2)) (s1 : S1 i t.heap) (s2 : S2 i t.heap) (hi : i = min n1 n2)
    (hE : ∀ h' tk e, (∀ c o, c ≠ zp → c ≠ j1 → c ≠ j2 → t.heap.get? c = some o → h'.get? c = some o) → (∃ o, h'.get? e = some o ∧ o.cls = .type "StopIteration") → EE (.ref e) { t with heap := h', toks := tk }) :
    wpAny (model P w) A (Builtin.«zip.__next__» ⟨[.ref zp], []⟩) Q EE t := by
  obtain ⟨hp, gs, dr, tk0, os⟩ := t
  show wpAny (model P w) A (field (.ref zp) 2 >>= _) _ EE _
  refine wpAny_bind (wpAny_field hz rfl (x := .bool false) rfl ?_)
  show wpAny (model P w) A (field (.ref zp) 3 >>= _) _ EE _
  refine wpAny_bind (wpAny_field hz rfl (x := .ref ti) rfl (wpAny_bind (wpAny_seqItems hti rfl ?_)))
  show wpAny (model P w) A (Builtin.SmallTypes.ownedTupleIsFree (.ref zp) >>= _) _ EE _
  refine wpAny_bind (wpAny_tupleHeld_zip hz hq fun ha hza hsa => ?_)
  replace hsa : Heap.SameBut zp hp ha := hsa
  simp only [Bool.false_eq_true, if_false]
  rw [← Array.forIn_toList]
  simp only [List.forIn_cons, List.forIn_nil]
  refine wpAny_bind (wpAny_bind (wpAny_bind (wpAny_holding ?_)))
  show wpAny (model P w) A (Builtin.SmallTypes.nextOf (.ref j1) >>= _) _ EE ⟨ha, gs, dr, tk0, os⟩
  by_cases l1 : i < n1
  · refine wpAny_bind (D1.item i _ _ _ l1 (D1.over s1 hsa Z.zf1) fun x1 hb tk1 q1 u1 hsb => wpAny_pure (wpAny_pure ?_))
    replace hsb : Heap.SameBut j1 ha hb := hsb
    refine wpAny_bind (wpAny_bind (wpAny_holding ?_))
    show wpAny (model P w) A (Builtin.SmallTypes.nextOf (.ref j2) >>= _) _ EE ⟨hb, gs, dr, tk1, os⟩
    have e2 : i = n2 := by omega
    refine wpAny_bind (D2.done ⟨hb, gs, dr, tk1, os⟩ _ _ (by rw [← e2]; exact D2.over (D2.over s2 hsa Z.zf2) hsb Z.sep1_2) fun hd e hx he => ?_)
    exact hE hd tk1 e (fun c o c1 c2 c3 q => hx _ _ c3 (hsb.extBut _ _ c2 (hsa.extBut _ _ c1 q))) he
  · have e1 : i = n1 := by omega
    refine wpAny_bind (D1.done ⟨ha, gs, dr, tk0, os⟩ _ _ (by rw [← e1]; exact D1.over s1 hsa Z.zf1) fun hd e hx he => ?_)
    exact hE hd tk0 e (fun c o c1 c2 c3 q => hx _ _ c2 (hsa.extBut _ _ c1 q)) he
/-- .. of three -/
theorem zipH3_item {Tq : Addr} {fl : Bool} {ob : Obj} {Q : Value → Shared → Prop} (Z : ZipSep3 zp ti tq j1 j2 j3 g1 g2 g3) (D1 : Draws P w A j1 g1 n1 P1 S1) (D2 : Draws P w A j2 g2 n2 P2 S2) (D3 : Draws P w A j3 g3 n3 P3 S3) (hz : IsZipHeld t.heap zp ti tq Tq fl) (hq : t.heap.get? Tq = some ob)
    (hti : IsTupOf3 t.heap ti (.ref j1) (.ref j2) (.ref j3)) (s1 : S1 i t.heap) (s2 : S2 i t.heap) (s3 : S3 i t.heap) (l1 : i < n1) (l2 : i < n2) (l3 : i < n3)
    (hQ : ∀ x1 x2 x3 h' tk, P1 i x1 → P2 i x2 → P3 i x3 → IsZipHeld h' zp ti tq Tq true → S1 (i + 1) h' → S2 (i + 1) h' → S3 (i + 1) h' → IsTupOf3 h' t.heap.objs.size x1 x2 x3 → (∀ c o, c ≠ zp → c ≠ j1 → c ≠ j2 → c ≠ j3 → t.heap.get? c = some o → h'.get? c = some o) → Q (.ref t.heap.objs.size) { t with heap := h', toks := tk }) :
    wpAny (model P w) A (Builtin.«zip.__next__» ⟨[.ref zp], []⟩) (fun fin t' => ∃ v, fin = .done (.ret v) ∧ Q v t') EE t := by
  obtain ⟨hp, gs, dr, tk0, os⟩ := t
  show wpAny (model P w) A (field (.ref zp) 2 >>= _) _ EE _
  refine wpAny_bind (wpAny_field hz rfl (x := .bool false) rfl ?_)
  show wpAny (model P w) A (field (.ref zp) 3 >>= _) _ EE _
  refine wpAny_bind (wpAny_field hz rfl (x := .ref ti) rfl (wpAny_bind (wpAny_seqItems hti rfl ?_)))
  show wpAny (model P w) A (Builtin.SmallTypes.ownedTupleIsFree (.ref zp) >>= _) _ EE _
  refine wpAny_bind (wpAny_tupleHeld_zip hz hq fun ha hza hsa => ?_)
  replace hsa : Heap.SameBut zp hp ha := hsa
  simp only [Bool.false_eq_true, if_false]
  rw [← Array.forIn_toList]
  simp only [List.forIn_cons, List.forIn_nil]
  refine wpAny_bind (wpAny_bind (wpAny_bind (wpAny_holding ?_)))
  show wpAny (model P w) A (Builtin.SmallTypes.nextOf (.ref j1) >>= _) _ EE ⟨ha, gs, dr, tk0, os⟩
  refine wpAny_bind (D1.item i _ _ _ l1 (D1.over s1 hsa Z.zf1) fun x1 hb tk1 q1 u1 hsb => wpAny_pure (wpAny_pure ?_))
  replace hsb : Heap.SameBut j1 ha hb := hsb
  refine wpAny_bind (wpAny_bind (wpAny_holding ?_))
  show wpAny (model P w) A (Builtin.SmallTypes.nextOf (.ref j2) >>= _) _ EE ⟨hb, gs, dr, tk1, os⟩
  refine wpAny_bind (D2.item i _ _ _ l2 (D2.over (D2.over s2 hsa Z.zf2) hsb Z.sep1_2) fun x2 hc tk2 q2 u2 hsc => wpAny_pure (wpAny_pure ?_))
  replace hsc : Heap.SameBut j2 hb hc := hsc
  refine wpAny_bind (wpAny_bind (wpAny_holding ?_))
  show wpAny (model P w) A (Builtin.SmallTypes.nextOf (.ref j3) >>= _) _ EE ⟨hc, gs, dr, tk2, os⟩
  refine wpAny_bind (D3.item i _ _ _ l3 (D3.over (D3.over (D3.over s3 hsa Z.zf3) hsb Z.sep1_3) hsc Z.sep2_3) fun x3 hd tk3 q3 u3 hsd => wpAny_pure (wpAny_pure (wpAny_pure ?_)))
  replace hsd : Heap.SameBut j3 hc hd := hsd
  show wpAny (model P w) A (newTuple [x1, x2, x3] >>= _) _ EE ⟨hd, gs, dr, tk3, os⟩
  refine wpAny_bind (wpAny_newTuple (wpAny_pure ⟨_, rfl, ?_⟩))
  have hsz : hd.objs.size = hp.objs.size := by rw [hsd.1, hsc.1, hsb.1, hsa.1]
  show Q (.ref hd.objs.size) _
  have up : ∀ c o, hd.get? c = some o → (hd.push { cls := .type "tuple", data := .seq #[x1, x2, x3] }).get? c = some o := fun c o e => Heap.get?_push_of_some _ e
  have tup : IsTupOf3 (hd.push { cls := .type "tuple", data := .seq #[x1, x2, x3] }) hd.objs.size x1 x2 x3 := Heap.get?_push_size _ rfl
  rw [hsz] at tup ⊢
  exact hQ x1 x2 x3 _ tk3 q1 q2 q3 (up _ _ (hsd.extBut _ _ Z.zi3 (hsc.extBut _ _ Z.zi2 (hsb.extBut _ _ Z.zi1 hza)))) (D1.frame _ _ _ (D1.over (D1.over u1 hsc Z.sep2_1) hsd Z.sep3_1) fun b _ o e => up b o e) (D2.frame _ _ _ (D2.over u2 hsd Z.sep3_2) fun b _ o e => up b o e) (D3.frame _ _ _ u3 fun b _ o e => up b o e) tup
    fun c o c1 c2 c3 c4 e => up c o (hsd.extBut _ _ c4 (hsc.extBut _ _ c3 (hsb.extBut _ _ c2 (hsa.extBut _ _ c1 e))))
theorem zipH3_end {Tq : Addr} {fl : Bool} {ob : Obj} {Q : Fin → Shared → Prop} (Z : ZipSep3 zp ti tq j1 j2 j3 g1 g2 g3) (D1 : Draws P w A j1 g1 n1 P1 S1) (D2 : Draws P w A j2 g2 n2 P2 S2) (D3 : Draws P w A j3 g3 n3 P3 S3) (hz : IsZipHeld t.heap zp ti tq Tq fl) (hq : t.heap.get? Tq = some ob)
    (hti : IsTupOf3 t.heap ti (.ref j1) (.ref j2) (.ref j3)) (s1 : S1 i t.heap) (s2 : S2 i t.heap) (s3 : S3 i t.heap) (hi : i = min (min n1 n2) n3)
    (hE : ∀ h' tk e, (∀ c o, c ≠ zp → c ≠ j1 → c ≠ j2 → c ≠ j3 → t.heap.get? c = some o → h'.get? c = some o) → (∃ o, h'.get? e = some o ∧ o.cls = .type "StopIteration") → EE (.ref e) { t with heap := h', toks := tk }) :
    wpAny (model P w) A (Builtin.«zip.__next__» ⟨[.ref zp], []⟩) Q EE t := by
  obtain ⟨hp, gs, dr, tk0, os⟩ := t
  show wpAny (model P w) A (field (.ref zp) 2 >>= _) _ EE _
  refine wpAny_bind (wpAny_field hz rfl (x := .bool false) rfl ?_)
  show wpAny (model P w) A (field (.ref zp) 3 >>= _) _ EE _
  refine wpAny_bind (wpAny_field hz rfl (x := .ref ti) rfl (wpAny_bind (wpAny_seqItems hti rfl ?_)))
  show wpAny (model P w) A (Builtin.SmallTypes.ownedTupleIsFree (.ref zp) >>= _) _ EE _
  refine wpAny_bind (wpAny_tupleHeld_zip hz hq fun ha hza hsa => ?_)
  replace hsa : Heap.SameBut zp hp ha := hsa
  simp only [Bool.false_eq_true, if_false]
  rw [← Array.forIn_toList]
  simp only [List.forIn_cons, List.forIn_nil]
  refine wpAny_bind (wpAny_bind (wpAny_bind (wpAny_holding ?_)))
  show wpAny (model P w) A (Builtin.SmallTypes.nextOf (.ref j1) >>= _) _ EE ⟨ha, gs, dr, tk0, os⟩
  by_cases l1 : i < n1
  · refine wpAny_bind (D1.item i _ _ _ l1 (D1.over s1 hsa Z.zf1) fun x1 hb tk1 q1 u1 hsb => wpAny_pure (wpAny_pure ?_))
    replace hsb : Heap.SameBut j1 ha hb := hsb
    refine wpAny_bind (wpAny_bind (wpAny_holding ?_))
    show wpAny (model P w) A (Builtin.SmallTypes.nextOf (.ref j2) >>= _) _ EE ⟨hb, gs, dr, tk1, os⟩
    by_cases l2 : i < n2
    · refine wpAny_bind (D2.item i _ _ _ l2 (D2.over (D2.over s2 hsa Z.zf2) hsb Z.sep1_2) fun x2 hc tk2 q2 u2 hsc => wpAny_pure (wpAny_pure ?_))
      replace hsc : Heap.SameBut j2 hb hc := hsc
      refine wpAny_bind (wpAny_bind (wpAny_holding ?_))
      show wpAny (model P w) A (Builtin.SmallTypes.nextOf (.ref j3) >>= _) _ EE ⟨hc, gs, dr, tk2, os⟩
      have e3 : i = n3 := by omega
      refine wpAny_bind (D3.done ⟨hc, gs, dr, tk2, os⟩ _ _ (by rw [← e3]; exact D3.over (D3.over (D3.over s3 hsa Z.zf3) hsb Z.sep1_3) hsc Z.sep2_3) fun hd e hx he => ?_)
      exact hE hd tk2 e (fun c o c1 c2 c3 c4 q => hx _ _ c4 (hsc.extBut _ _ c3 (hsb.extBut _ _ c2 (hsa.extBut _ _ c1 q)))) he
    · have e2 : i = n2 := by omega
      refine wpAny_bind (D2.done ⟨hb, gs, dr, tk1, os⟩ _ _ (by rw [← e2]; exact D2.over (D2.over s2 hsa Z.zf2) hsb Z.sep1_2) fun hd e hx he => ?_)
      exact hE hd tk1 e (fun c o c1 c2 c3 c4 q => hx _ _ c3 (hsb.extBut _ _ c2 (hsa.extBut _ _ c1 q))) he
  · have e1 : i = n1 := by omega
    refine wpAny_bind (D1.done ⟨ha, gs, dr, tk0, os⟩ _ _ (by rw [← e1]; exact D1.over s1 hsa Z.zf1) fun hd e hx he => ?_)
    exact hE hd tk0 e (fun c o c1 c2 c3 c4 q => hx _ _ c2 (hsa.extBut _ _ c1 q)) he
/-- next(zip) from its own step -/
theorem nextZ {Q : Option Value → Shared → Prop} {tiObj : Obj} (hz : t.heap.get? zp = some tiObj) (hc : tiObj.cls = .type "zip") (h : ∀ EE, wpAny (model P w) A.in1 (Builtin.«zip.__next__» ⟨[.ref zp], []⟩) (fun fin t' => ∃ v, fin = .done (.ret v) ∧ Q (some v) t') EE t) :
    wpAny (model P w) A (pyNext (.ref zp)) Q EE t := by
  have hT : t.TypeIs (.ref zp) "zip" := ⟨_, hz, hc⟩
  unfold pyNext
  refine wpAny_bind (wpAny_attempt (wpAny_callSpecial?_slot (name := Str.ofString "__next__") hT F.slot_zip_next (wpAny_call_entry F.slot_zip_next hT F.entry_zip_next ?_ (F.args_zip_next_1 _))))
  refine wpAny_mono (h _) (fun fin t' ⟨v, e, q⟩ => ⟨v, e, wpAny_pure q⟩) fun _ _ z => z
theorem nextZ_end {Q : Option Value → Shared → Prop} {tiObj : Obj} (hz : t.heap.get? zp = some tiObj) (hc : tiObj.cls = .type "zip") (h : ∀ (QQ : Fin → Shared → Prop) (E2 : Value → Shared → Prop), (∀ e t', (∃ o, t'.heap.get? e = some o ∧ o.cls = .type "StopIteration") → Q none t' → E2 (.ref e) t') → wpAny (model P w) A.in1 (Builtin.«zip.__next__» ⟨[.ref zp], []⟩) QQ E2 t) :
    wpAny (model P w) A (pyNext (.ref zp)) Q EE t := by
  have hT : t.TypeIs (.ref zp) "zip" := ⟨_, hz, hc⟩
  unfold pyNext
  refine wpAny_bind (wpAny_attempt (wpAny_callSpecial?_slot (name := Str.ofString "__next__") hT F.slot_zip_next (wpAny_call_entry F.slot_zip_next hT F.entry_zip_next ?_ (F.args_zip_next_1 _))))
  refine h _ _ fun e t' ⟨o, ho, hc⟩ q => wpAny_bind (wpAny_isInstance (T := "StopIteration") (b := true) ⟨o, ho, hc⟩ isSubtype_stop ?_)
  exact wpAny_pure q
end
end Ev
end

section
set_option Elab.async false
set_option linter.all false
set_option maxRecDepth 100000
set_option maxHeartbeats 4000000
namespace Ev
open PySem PySem.Spec PyProof.Rows L2

/-- a zip that is drawn to its end, none of its tuples let go: tn i H h, the state ahead of item i -/
structure ZW (X : Cx) (n : Nat) (row : Nat → List V) (zp : Addr) (fp : List Addr) (src : Hp → Prop) (tn : Nat → Hp → Heap → Prop) : Prop where
  obj : ∀ i H h, tn i H h → ∀ b ∈ fp, ∃ o, h.get? b = some o
  typ : ∀ i H h, tn i H h → ∃ o, h.get? zp = some o ∧ o.cls = .type "zip"
  self : ∀ (A : Around) (H : Hp) (s : Shared) (Q : Value → Shared → Prop) (E : Value → Shared → Prop), tn 0 H s.heap → Q (.ref zp) s → wpAny (model X.prog X.w) A (pyIter (.ref zp)) Q E s
  keep : ∀ i H H' h h', tn i H h → (∀ b ∈ fp, ∀ o, h.get? b = some o → h'.get? b = some o) → (∀ b xs, H b = some (.tup xs) → H' b = some (.tup xs)) → tn i H' h'
  item : ∀ (A : Around), A.handled = none → ∀ (i : Nat) (pins : List (Addr × Obj)) (s : Shared) (σ : L2.St) (H : Hp) (Q : Option Value → Shared → Prop) (E : Value → Shared → Prop), i < n → Inv X pins σ H s → (∀ b ∈ fp, FpOk X pins H b) → src H → tn i H s.heap →
    (∀ T s', Inv X pins σ (upd H T (.tup (row i))) s' → H T = none → (∀ b ∈ fp, b ≠ T) → tn (i + 1) (upd H T (.tup (row i))) s'.heap → Q (some (.ref T)) s') → wpAny (model X.prog X.w) A (pyNext (.ref zp)) Q E s
  done : ∀ (A : Around), A.handled = none → ∀ (pins : List (Addr × Obj)) (s : Shared) (σ : L2.St) (H : Hp) (Q : Option Value → Shared → Prop) (E : Value → Shared → Prop), Inv X pins σ H s → (∀ b ∈ fp, FpOk X pins H b) → src H → tn n H s.heap →
    (∀ s', Inv X pins σ H s' → Q none s') → wpAny (model X.prog X.w) A (pyNext (.ref zp)) Q E s
section
variable {X : Cx} {n : Nat} {row : Nat → List V} {zp : Addr} {fp : List Addr} {src : Hp → Prop} {tn : Nat → Hp → Heap → Prop}
/-- what was drawn so far stands as tuples -/
def Drawn' (H : Hp) (row : Nat → List V) (acc : List V) (i : Nat) : Prop := acc.length = i ∧ ∀ j, j < i → ∃ T, acc[j]? = some (.ref T) ∧ H T = some (.tup (row j))
theorem zw_loop (W : ZW X n row zp fp src tn) (hsrc : ∀ H H', src H → (∀ b o u, H b = some (.frz o u) → H' b = some (.frz o u)) → (∀ b xs, H b = some (.tup xs) → H' b = some (.tup xs)) → src H') (hn : n ≤ sizeLine) {A : Around} (hA : A.handled = none) {S : Addr} {res : Value} {pins : List (Addr × Obj)} {σ : L2.St} {R : Result → Shared → Prop} {H0 : Hp}
    (fin : ∀ s' H' acc, Inv X pins σ H' s' → (∀ b o, H0 b = some o → b ≠ S → H' b = some o) → H' S = some (.lst acc) → Drawn' H' row acc n → R (.ok (.ret res)) s') :
    ∀ (k i : Nat) (s : Shared) (H : Hp) (acc : List V), n - i = k → i ≤ n → Inv X pins σ H s → (∀ b ∈ fp, FpOk X pins H b) → src H → tn i H s.heap → H S = some (.lst acc) → (∀ b o, H0 b = some o → b ≠ S → H b = some o) → Drawn' H row acc i →
      codeAny (model X.prog X.w) A (.builtin "list.extend.loop" ⟨[.ref S, .ref zp, res], []⟩) R s := by
  intro k
  induction k with
  | zero =>
    intro i s H acc hk hi I hf hs st hS h0 hd
    have hin : i = n := by omega
    subst hin
    refine codeAny_builtin F.entry_extend_loop ?_
    rw [Around.under_plainId F.plain_extend_loop _]
    show wpAny (model X.prog X.w) A.in1 (pyNext (.ref zp) >>= _) _ _ s
    refine wpAny_bind (W.done A.in1 hA pins s σ H _ _ I hf hs st fun s' I' => ?_)
    exact wpAny_pure (fin s' H acc I' h0 hS hd)
  | succ k ih =>
    intro i s H acc hk hi I hf hs st hS h0 hd
    have hlt : i < n := by omega
    refine codeAny_builtin F.entry_extend_loop ?_
    rw [Around.under_plainId F.plain_extend_loop _]
    show wpAny (model X.prog X.w) A.in1 (pyNext (.ref zp) >>= _) _ _ s
    refine wpAny_bind (W.item A.in1 hA i pins s σ H _ _ hlt I hf hs st fun T s' I' hT hfT st' => ?_)
    have hST : S ≠ T := fun e => by rw [e, hT] at hS; cases hS
    have hS' : upd H T (.tup (row i)) S = some (.lst acc) := by rw [upd_ne hST]; exact hS
    obtain ⟨z, its, c, r, hl, e⟩ := I'.lstM hS'
    show wpAny (model X.prog X.w) A.in1 (updateSeq S (·.push (.ref T)) >>= _) _ _ _
    have hacc : acc.length = i := hd.1
    have rv : Vals (acc ++ [V.ref T]) (its ++ [Value.ref T]) := r.append (.cons rfl .nil)
    have hz : (acc ++ [V.ref T]).length ≤ sizeLine := by rw [List.length_append]; simp; omega
    have I2 := I'.lset (f := (·.push (.ref T))) (its' := its ++ [Value.ref T]) (t' := s'.toks) hS' e (by simp) rv hz
    refine wpAny_bind (wpAny_updateSeq e rfl (wpAny_pure ⟨plainId_quiet F.plain_extend_loop _, ?_⟩) (by show its.toArray.size ≤ _; simp; omega) (by show (its.toArray.push (.ref T)).size ≤ _; simp; omega))
    have tupK : ∀ b xs, upd H T (.tup (row i)) b = some (.tup xs) → upd (upd H T (.tup (row i))) S (.lst (acc ++ [V.ref T])) b = some (.tup xs) := fun b xs q => by
      rw [upd_ne (fun e => by rw [e, hS'] at q; cases q)]; exact q
    have hf' : ∀ b ∈ fp, upd (upd H T (.tup (row i))) S (.lst (acc ++ [V.ref T])) b = none := fun b hb => by
      have hbS : b ≠ S := fun e => by have := (hf b hb).1; rw [e, hS] at this; cases this
      rw [upd_ne hbS, upd_ne (hfT b hb)]; exact (hf b hb).1
    refine ih (i + 1) _ _ _ (by omega) hlt I2 (fun b hb => ⟨hf' b hb, (hf b hb).2⟩) (hsrc _ _ hs (fun b o u q => ?_) fun b xs q => tupK b xs (by rw [upd_ne (ne_of_none q hT)]; exact q)) (W.keep _ _ _ _ _ st' (fun b hb o q => ?_) tupK) upd_same (fun b o q hb => ?_) ⟨by rw [List.length_append, hacc]; rfl, fun j hj => ?_⟩
    · rw [upd_ne (fun e => by rw [e, hS] at q; cases q), upd_ne (ne_of_none q hT)]; exact q
    · have hbS : b ≠ S := fun e => by have := (hf b hb).1; rw [e, hS] at this; cases this
      exact (Heap.get?_update_other _ _ (Ne.symm hbS)).trans q
    · have q' := h0 b o q hb
      rw [upd_ne hb, upd_ne (ne_of_none q' hT)]; exact q'
    · by_cases hji : j < i
      · obtain ⟨U, q1, q2⟩ := hd.2 j hji
        refine ⟨U, ?_, tupK _ _ (by rw [upd_ne (ne_of_none q2 hT)]; exact q2)⟩
        rw [List.getElem?_append_left (by omega)]; exact q1
      · have e2 : j = i := by omega
        subst e2
        refine ⟨T, ?_, tupK _ _ upd_same⟩
        rw [List.getElem?_append_right (by omega), hacc]; simp
/-- list(zip) -/
theorem call_list_zw (W : ZW X n row zp fp src tn) (hsrc : ∀ H H', src H → (∀ b o u, H b = some (.frz o u) → H' b = some (.frz o u)) → (∀ b xs, H b = some (.tup xs) → H' b = some (.tup xs)) → src H') (hn : n ≤ sizeLine) (hA : X.A.handled = none) (hmem : zp ∈ fp) {pins : List (Addr × Obj)} {σ : L2.St} {H : Hp} {s : Shared} {Q : VK}
    (I : Inv X pins σ H s) (hf : ∀ b ∈ fp, FpOk X pins H b) (hs : src H) (st : tn 0 H s.heap)
    (q : ∀ p H' acc, H p = none → (∀ b o, H b = some o → H' b = some o) → H' p = some (.lst acc) → Drawn' H' row acc n → Q (.ref p) H') :
    wpAny (model X.prog X.w) X.A (call (.type "list") [.ref zp]) (EP X pins σ Q) X.xe s := by
  refine callType_codes (Q₁ := fun obj s1 => obj = .ref s.heap.objs.size ∧ s1 = { s with heap := s.heap.push { cls := .type "list", data := .seq #[] } }) F.called_list (F.typeCall_list_1 _) F.entry_list_init (code_list_new _ ⟨rfl, rfl⟩) fun obj s1 h1 => ?_
  obtain ⟨rfl, rfl⟩ := h1
  have hS : (s.heap.push { cls := .type "list", data := .seq #[] }).get? s.heap.objs.size = some { cls := .type "list", data := .seq #[] } := Heap.get?_push_size _ rfl
  refine ⟨⟨_, hS, rfl⟩, F.args_list_init_2 _ _, ?_⟩
  generalize hSg : s.heap.objs.size = S at hS ⊢
  have hSn : H S = none := I.hok.fresh (Nat.le_of_eq hSg)
  have hzS : zp < s.heap.objs.size := by obtain ⟨o, e, _⟩ := W.typ _ _ _ st; exact Heap.lt_size e
  have hSz : S ≠ zp := fun e => by rw [← e, hSg] at hzS; exact Nat.lt_irrefl _ hzS
  show wpAny (model X.prog X.w) X.A.in1.in1 (do let old ← Builtin.List.listItems (.ref S); Builtin.List.listUpdate (.ref S) (fun _ => #[]); letGo old.toList.reverse; Builtin.List.listExtendWith (.ref S) (.ref zp) .none) _ _ _
  refine wpAny_bind ?_
  unfold Builtin.List.listItems
  refine wpAny_bind (wpAny_seqItems hS rfl (wpAny_pure ?_))
  show wpAny (model X.prog X.w) X.A.in1.in1 (updateSeq S (fun _ => #[]) >>= fun _ => letGo (#[] : Array Value).toList.reverse >>= fun _ => Builtin.List.listExtendWith (.ref S) (.ref zp) .none) _ _ _
  refine wpAny_bind (wpAny_updateSeq hS rfl ?_)
  have hS2 := Heap.get?_update_self (Obj.mapSeq (fun _ => (#[] : Array Value))) hS rfl
  generalize hh2 : (s.heap.push { cls := .type "list", data := .seq #[] }).update S (Obj.mapSeq (fun _ => (#[] : Array Value))) = h2 at hS2 ⊢
  have kp2 : ∀ b o, s.heap.get? b = some o → h2.get? b = some o := fun b o e => by
    rw [← hh2]
    exact (Heap.get?_update_other _ _ (fun z => by rw [← z, ← hSg] at e; exact Nat.lt_irrefl _ (Heap.lt_size e))).trans (Heap.get?_push_of_some _ e)
  refine wpAny_bind (wpAny_letGo ?_)
  unfold Builtin.List.listExtendWith
  obtain ⟨oz, hoz, hcz⟩ := W.typ _ _ _ st
  refine wpAny_bind (wpAny_typeOf (T := "zip") ⟨oz, kp2 _ _ hoz, hcz⟩ ?_)
  have b1 : Builtin.List.listSameRef (.ref S) (.ref zp) = false := by simp [Builtin.List.listSameRef, hSz]
  have b2 : (Value.type "zip" == Value.type "list") = false := by decide
  have b3 : (Value.type "zip" == Value.type "tuple") = false := by decide
  simp only [b1, b2, b3, Bool.or_false, Bool.false_eq_true, if_false]
  have st2 : tn 0 H h2 := W.keep _ _ _ _ _ st (fun b _ o e => kp2 b o e) fun _ _ e => e
  refine wpAny_bind (W.self _ H { s with heap := h2 } _ _ st2 ?_)
  refine wpAny_bind (wpAny_holding ?_)
  unfold Builtin.List.listLengthHint
  refine wpAny_bind (wpAny_specialOf (s := { s with heap := h2 }) (T := "zip") ⟨oz, kp2 _ _ hoz, hcz⟩ zip_len0 ?_)
  show wpAny (model X.prog X.w) X.A.in1.in1 (specialOf (Value.ref zp) (Str.ofString "__length_hint__") >>= _) _ _ _
  refine wpAny_bind (wpAny_specialOf (s := { s with heap := h2 }) (T := "zip") ⟨oz, kp2 _ _ hoz, hcz⟩ zip_hint0 (wpAny_pure ?_))
  show wpAny (model X.prog X.w) X.A.in1.in1 (rule "list.extend.makes-room" >>= fun _ => Builtin.List.listTouch (.ref S) >>= fun _ => again (.builtin "list.extend.loop" ⟨[.ref S, .ref zp, .none], []⟩)) _ _ _
  refine wpAny_bind (wpAny_rule (wpAny_bind ?_))
  show wpAny (model X.prog X.w) X.A.in1.in1 (updateSeq S (·.push .none) >>= fun _ => updateSeq S (·.pop)) _ _ _
  refine wpAny_bind (wpAny_updateSeq (s := { s with heap := h2 }) hS2 rfl ?_)
  have hS3 := Heap.get?_update_self (Obj.mapSeq (·.push Value.none)) hS2 rfl
  generalize hh3 : h2.update S (Obj.mapSeq (·.push Value.none)) = h3 at hS3 ⊢
  refine wpAny_updateSeq (s := { s with heap := h3 }) (hz := by seq_fits) hS3 rfl ?_
  have hS4 := Heap.get?_update_self (Obj.mapSeq (·.pop)) hS3 rfl
  generalize hh4 : h3.update S (Obj.mapSeq (·.pop)) = h4 at hS4 ⊢
  have kp4 : ∀ b o, s.heap.get? b = some o → h4.get? b = some o := fun b o e => by
    have hb : S ≠ b := fun z => by rw [← z, ← hSg] at e; exact Nat.lt_irrefl _ (Heap.lt_size e)
    rw [← hh4, ← hh3]
    exact (Heap.get?_update_other _ _ hb).trans ((Heap.get?_update_other _ _ hb).trans (kp2 b o e))
  refine wpAny_pure ⟨plainId_quiet F.plain_extend_loop _, ?_⟩
  have I4 : Inv X pins σ (upd H S (.lst [])) { s with heap := h4 } := I.laid (t' := s.toks) kp4 (Nat.le_of_eq hSg) ⟨Nat.zero_le _, [], _, .nil, hS4⟩
  have hbS : ∀ b ∈ fp, b ≠ S := fun b hb e => by
    obtain ⟨o, ho⟩ := W.obj _ _ _ st b hb
    rw [e, ← hSg] at ho; exact Nat.lt_irrefl _ (Heap.lt_size ho)
  refine zw_loop W hsrc hn (A := X.A.in1) hA (H0 := H) (fun s' H' acc I' k0 hl hd => ⟨rfl, .ref S, H', I', rfl, q S H' acc hSn (fun b o e => k0 b o e (ne_of_none e hSn)) hl hd⟩) n 0 _ (upd H S (.lst [])) [] (by omega) (Nat.zero_le _) I4 (fun b hb => ⟨by rw [upd_ne (hbS b hb)]; exact (hf b hb).1, (hf b hb).2⟩)
    (hsrc _ _ hs (fun b o u e => by rw [upd_ne (ne_of_none e hSn)]; exact e) fun b xs e => by rw [upd_ne (ne_of_none e hSn)]; exact e) (W.keep _ _ _ _ _ st (fun b _ o e => kp4 b o e) fun b xs e => by rw [upd_ne (ne_of_none e hSn)]; exact e) upd_same (fun b o e hb => by rw [upd_ne hb]; exact e) ⟨rfl, fun j hj => nomatch hj⟩
end
end Ev
end

section
set_option Elab.async false
set_option linter.all false
set_option maxRecDepth 100000
set_option maxHeartbeats 4000000
namespace Ev
open PySem PySem.Spec PyProof.Rows L2

section
variable {X : Cx} {zp ti tq j1 j2 j3 a b c : Addr} {xs ys zs : List V} {l1 l2 l3 : Bool}
theorem tup_there {pins : List (Addr × Obj)} {s : Shared} {σ : L2.St} {H : Hp} (I : Inv X pins σ H s) {T : Addr} {vs : List V} (h : H T = some (.tup vs)) : ∃ o, s.heap.get? T = some o := by
  obtain ⟨its, _, ⟨o, e, _⟩, _⟩ := I.tuple (.inl (.inl h))
  exact ⟨o, e⟩
def tnZ2 (zp ti tq j1 j2 a b : Addr) (l1 l2 : Bool) (i : Nat) (H : Hp) (h : Heap) : Prop := IsTupOf2 h ti (.ref j1) (.ref j2) ∧ ItSt h j1 a i l1 ∧ ItSt h j2 b i l2 ∧ (∃ a1 a2, IsTupOf2 h tq a1 a2) ∧
  ((i = 0 ∧ IsZip h zp ti tq .none) ∨ ∃ T fl vs, 0 < i ∧ IsZipHeld h zp ti tq T fl ∧ H T = some (.tup vs))
theorem zw_zip2 (Z : ZipSep2 zp ti tq j1 j2 [j1, a] [j2, b]) (ha : a ≠ j1) (hb : b ≠ j2) : ZW X (min xs.length ys.length) (row2 xs ys) zp [zp, ti, tq, j1, j2] (fun H => SrcR X.K H l1 a xs ∧ SrcR X.K H l2 b ys) (tnZ2 zp ti tq j1 j2 a b l1 l2) where
  obj := fun i H h st c hc => by
    obtain ⟨h1, h2, h3, ⟨a1, a2, h4⟩, h5⟩ := st
    have e' : c = zp ∨ c = ti ∨ c = tq ∨ c = j1 ∨ c = j2 := by simpa using hc
    rcases e' with q | q | q | q | q <;> rw [q]
    · rcases h5 with ⟨_, h5⟩ | ⟨_, _, _, _, h5, _⟩ <;> exact ⟨_, h5⟩
    · exact ⟨_, h1⟩
    · exact ⟨_, h4⟩
    · exact let ⟨o, e, _⟩ := h2.obj; ⟨o, e⟩
    · exact let ⟨o, e, _⟩ := h3.obj; ⟨o, e⟩
  typ := fun i H h st => by
    obtain ⟨_, _, _, _, h5⟩ := st
    rcases h5 with ⟨_, h5⟩ | ⟨_, _, _, _, h5, _⟩ <;> exact ⟨_, h5, rfl⟩
  self := fun A H s Q E st h => by
    obtain ⟨_, _, _, _, h5⟩ := st
    rcases h5 with ⟨_, h5⟩ | ⟨_, _, _, z, _⟩
    · exact wpAny_pyIter_zip h5 h
    · exact absurd z (Nat.lt_irrefl 0)
  keep := fun i H H' h h' st k kt => by
    obtain ⟨h1, h2, h3, ⟨a1, a2, h4⟩, h5⟩ := st
    refine ⟨k ti (by simp) _ h1, h2.at fun o q => k j1 (by simp) o q, h3.at fun o q => k j2 (by simp) o q, ⟨a1, a2, k tq (by simp) _ h4⟩, ?_⟩
    rcases h5 with ⟨e, h5⟩ | ⟨T, fl, vs, e, h5, h6⟩
    · exact .inl ⟨e, k zp (by simp) _ h5⟩
    · exact .inr ⟨T, fl, vs, e, k zp (by simp) _ h5, kt _ _ h6⟩
  item := fun A hA i pins s σ H Q E hi I hf hs st hQ => by
    obtain ⟨h1, h2, h3, ⟨a1, a2, h4⟩, h5⟩ := st
    obtain ⟨its, rv, sq, _⟩ := inv_src I hs.1
    obtain ⟨its2, rv2, sq2, _⟩ := inv_src I hs.2
    have D1 := draws_src (prog := X.prog) (w := X.w) (A := A.in1) hA j1 a ha its.toArray l1
    have D2 := draws_src (prog := X.prog) (w := X.w) (A := A.in1) hA j2 b hb its2.toArray l2
    have n1 : its.toArray.size = xs.length := by simp [rv.length]
    have n2 : its2.toArray.size = ys.length := by simp [rv2.length]
    have q1 : xs[i]? = some (xs[i]'(by omega)) := List.getElem?_eq_getElem _
    have q2 : ys[i]? = some (ys[i]'(by omega)) := List.getElem?_eq_getElem _
    obtain ⟨u, hu, ru⟩ := rv.get q1
    obtain ⟨u2, hu2, ru2⟩ := rv2.get q2
    have hrow : row2 xs ys i = [xs[i]'(by omega), ys[i]'(by omega)] := by unfold row2; rw [q1, q2]
    have lt : ∀ {d o}, s.heap.get? d = some o → d ≠ s.heap.objs.size := fun e => Nat.ne_of_lt (Heap.lt_size e)
    -- the tuple comes
    have fin : ∀ {x1 x2 : Value} {h' : Heap} {tk : Nat}, its.toArray[i]? = some x1 → its2.toArray[i]? = some x2 → IsTupOf2 h' s.heap.objs.size x1 x2 → (∀ d o, d ≠ zp → d ≠ tq → d ≠ j1 → d ≠ j2 → s.heap.get? d = some o → h'.get? d = some o) →
        Inv X pins σ (upd H s.heap.objs.size (.tup (row2 xs ys i))) { s with heap := h', toks := tk } := fun {x1 x2 h' tk} e1 e2 tp kk => by
      have e1' : its[i]? = some x1 := by simpa using e1
      have e2' : its2[i]? = some x2 := by simpa using e2
      rw [hu] at e1'; cases e1'
      rw [hu2] at e2'; cases e2'
      refine I.turnedNew (ch := [zp, ti, tq, j1, j2]) (fun d o hd e => kk d o (fun z => hd (by simp [z])) (fun z => hd (by simp [z])) (fun z => hd (by simp [z])) (fun z => hd (by simp [z])) e) hf (Nat.le_refl _) ⟨by rw [hrow]; show 2 ≤ sizeLine; decide, [u, u2], by rw [hrow]; exact .cons ru (.cons ru2 .nil), ⟨_, tp, rfl, _, rfl⟩⟩
    have hfT : ∀ d ∈ [zp, ti, tq, j1, j2], d ≠ s.heap.objs.size := fun d hd => by
      have e' : d = zp ∨ d = ti ∨ d = tq ∨ d = j1 ∨ d = j2 := by simpa using hd
      rcases e' with q | q | q | q | q <;> rw [q]
      · rcases h5 with ⟨_, h5⟩ | ⟨_, _, _, _, h5, _⟩ <;> exact lt h5
      · exact lt h1
      · exact lt h4
      · obtain ⟨o, e, _⟩ := h2.obj; exact lt e
      · obtain ⟨o, e, _⟩ := h3.obj; exact lt e
    have hfr : H s.heap.objs.size = none := I.hok.fresh (Nat.le_refl _)
    rcases h5 with ⟨e0, h5⟩ | ⟨T, fl, vs, e0, h5, h6⟩
    · refine wpAny_pyNext_zipD2_item Z D1 D2 h5 h1 h4 ⟨h2, sq⟩ ⟨h3, sq2⟩ (by omega) (by omega) fun x1 x2 h' tk p1 p2 hz' htq' s1' s2' tp _ kk => ?_
      exact hQ _ _ (fin p1 p2 tp kk) hfr hfT ⟨kk _ _ Z.TIz Z.TITO Z.TIi1 Z.TIi2 h1, s1'.1, s2'.1, ⟨_, _, htq'⟩, .inr ⟨_, false, _, Nat.succ_pos i, hz', upd_same⟩⟩
    · obtain ⟨ob, hob⟩ := tup_there I h6
      refine nextZ h5 rfl fun EE => zipH2_item Z D1 D2 h5 hob h1 ⟨h2, sq⟩ ⟨h3, sq2⟩ (by omega) (by omega) fun x1 x2 h' tk p1 p2 hz' s1' s2' tp kk => ?_
      exact hQ _ _ (fin p1 p2 tp fun d o c1 _ c3 c4 e => kk d o c1 c3 c4 e) hfr hfT ⟨kk _ _ Z.TIz Z.TIi1 Z.TIi2 h1, s1'.1, s2'.1, ⟨_, _, kk _ _ Z.TOz Z.Ti1 Z.Ti2 h4⟩, .inr ⟨T, true, vs, Nat.succ_pos i, hz', by rw [upd_ne (ne_of_none h6 hfr)]; exact h6⟩⟩
  done := fun A hA pins s σ H Q E I hf hs st hQ => by
    obtain ⟨h1, h2, h3, ⟨a1, a2, h4⟩, h5⟩ := st
    obtain ⟨its, rv, sq, _⟩ := inv_src I hs.1
    obtain ⟨its2, rv2, sq2, _⟩ := inv_src I hs.2
    have D1 := draws_src (prog := X.prog) (w := X.w) (A := A.in1) hA j1 a ha its.toArray l1
    have D2 := draws_src (prog := X.prog) (w := X.w) (A := A.in1) hA j2 b hb its2.toArray l2
    have n1 : its.toArray.size = xs.length := by simp [rv.length]
    have n2 : its2.toArray.size = ys.length := by simp [rv2.length]
    have out : ∀ {h' : Heap} {tk : Nat}, (∀ d o, d ≠ zp → d ≠ tq → d ≠ j1 → d ≠ j2 → s.heap.get? d = some o → h'.get? d = some o) → Inv X pins σ H { s with heap := h', toks := tk } := fun {h' tk} kk =>
      I.turnedL (ch := [zp, ti, tq, j1, j2]) (fun d o hd e => kk d o (fun z => hd (by simp [z])) (fun z => hd (by simp [z])) (fun z => hd (by simp [z])) (fun z => hd (by simp [z])) e) hf
    rcases h5 with ⟨e0, h5⟩ | ⟨T, fl, vs, e0, h5, h6⟩
    · exact wpAny_pyNext_zipD2_end Z D1 D2 h5 h1 h4 ⟨h2, sq⟩ ⟨h3, sq2⟩ (by omega) (by omega) (by omega) fun h' tk kk => hQ _ (out kk)
    · obtain ⟨ob, hob⟩ := tup_there I h6
      exact nextZ_end h5 rfl fun QQ E2 hE => zipH2_end Z D1 D2 h5 hob h1 ⟨h2, sq⟩ ⟨h3, sq2⟩ (by omega) fun h' tk e kk he => hE e _ he (hQ _ (out fun d o c1 _ c3 c4 q => kk d o c1 c3 c4 q))
def tnZ3 (zp ti tq j1 j2 j3 a b c : Addr) (l1 l2 l3 : Bool) (i : Nat) (H : Hp) (h : Heap) : Prop := IsTupOf3 h ti (.ref j1) (.ref j2) (.ref j3) ∧ ItSt h j1 a i l1 ∧ ItSt h j2 b i l2 ∧ ItSt h j3 c i l3 ∧ (∃ a1 a2 a3, IsTupOf3 h tq a1 a2 a3) ∧
  ((i = 0 ∧ IsZip h zp ti tq .none) ∨ ∃ T fl vs, 0 < i ∧ IsZipHeld h zp ti tq T fl ∧ H T = some (.tup vs))
theorem zw_zip3 (Z : ZipSep3 zp ti tq j1 j2 j3 [j1, a] [j2, b] [j3, c]) (ha : a ≠ j1) (hb : b ≠ j2) (hcn : c ≠ j3) : ZW X (min (min xs.length ys.length) zs.length) (row3 xs ys zs) zp [zp, ti, tq, j1, j2, j3] (fun H => SrcR X.K H l1 a xs ∧ SrcR X.K H l2 b ys ∧ SrcR X.K H l3 c zs) (tnZ3 zp ti tq j1 j2 j3 a b c l1 l2 l3) where
  obj := fun i H h st d hd => by
    obtain ⟨h1, h2, h3, h3', ⟨a1, a2, a3, h4⟩, h5⟩ := st
    have e' : d = zp ∨ d = ti ∨ d = tq ∨ d = j1 ∨ d = j2 ∨ d = j3 := by simpa using hd
    rcases e' with q | q | q | q | q | q <;> rw [q]
    · rcases h5 with ⟨_, h5⟩ | ⟨_, _, _, _, h5, _⟩ <;> exact ⟨_, h5⟩
    · exact ⟨_, h1⟩
    · exact ⟨_, h4⟩
    · exact let ⟨o, e, _⟩ := h2.obj; ⟨o, e⟩
    · exact let ⟨o, e, _⟩ := h3.obj; ⟨o, e⟩
    · exact let ⟨o, e, _⟩ := h3'.obj; ⟨o, e⟩
  typ := fun i H h st => by
    obtain ⟨_, _, _, _, _, h5⟩ := st
    rcases h5 with ⟨_, h5⟩ | ⟨_, _, _, _, h5, _⟩ <;> exact ⟨_, h5, rfl⟩
  self := fun A H s Q E st h => by
    obtain ⟨_, _, _, _, _, h5⟩ := st
    rcases h5 with ⟨_, h5⟩ | ⟨_, _, _, z, _⟩
    · exact wpAny_pyIter_zip h5 h
    · exact absurd z (Nat.lt_irrefl 0)
  keep := fun i H H' h h' st k kt => by
    obtain ⟨h1, h2, h3, h3', ⟨a1, a2, a3, h4⟩, h5⟩ := st
    refine ⟨k ti (by simp) _ h1, h2.at fun o q => k j1 (by simp) o q, h3.at fun o q => k j2 (by simp) o q, h3'.at fun o q => k j3 (by simp) o q, ⟨a1, a2, a3, k tq (by simp) _ h4⟩, ?_⟩
    rcases h5 with ⟨e, h5⟩ | ⟨T, fl, vs, e, h5, h6⟩
    · exact .inl ⟨e, k zp (by simp) _ h5⟩
    · exact .inr ⟨T, fl, vs, e, k zp (by simp) _ h5, kt _ _ h6⟩
  item := fun A hA i pins s σ H Q E hi I hf hs st hQ => by
    obtain ⟨h1, h2, h3, h3', ⟨a1, a2, a3, h4⟩, h5⟩ := st
    obtain ⟨its, rv, sq, _⟩ := inv_src I hs.1
    obtain ⟨its2, rv2, sq2, _⟩ := inv_src I hs.2.1
    obtain ⟨its3, rv3, sq3, _⟩ := inv_src I hs.2.2
    have D1 := draws_src (prog := X.prog) (w := X.w) (A := A.in1) hA j1 a ha its.toArray l1
    have D2 := draws_src (prog := X.prog) (w := X.w) (A := A.in1) hA j2 b hb its2.toArray l2
    have D3 := draws_src (prog := X.prog) (w := X.w) (A := A.in1) hA j3 c hcn its3.toArray l3
    have n1 : its.toArray.size = xs.length := by simp [rv.length]
    have n2 : its2.toArray.size = ys.length := by simp [rv2.length]
    have n3 : its3.toArray.size = zs.length := by simp [rv3.length]
    have q1 : xs[i]? = some (xs[i]'(by omega)) := List.getElem?_eq_getElem _
    have q2 : ys[i]? = some (ys[i]'(by omega)) := List.getElem?_eq_getElem _
    have q3 : zs[i]? = some (zs[i]'(by omega)) := List.getElem?_eq_getElem _
    obtain ⟨u, hu, ru⟩ := rv.get q1
    obtain ⟨u2, hu2, ru2⟩ := rv2.get q2
    obtain ⟨u3, hu3, ru3⟩ := rv3.get q3
    have hrow : row3 xs ys zs i = [xs[i]'(by omega), ys[i]'(by omega), zs[i]'(by omega)] := by unfold row3; rw [q1, q2, q3]
    have lt : ∀ {d o}, s.heap.get? d = some o → d ≠ s.heap.objs.size := fun e => Nat.ne_of_lt (Heap.lt_size e)
    have fin : ∀ {x1 x2 x3 : Value} {h' : Heap} {tk : Nat}, its.toArray[i]? = some x1 → its2.toArray[i]? = some x2 → its3.toArray[i]? = some x3 → IsTupOf3 h' s.heap.objs.size x1 x2 x3 → (∀ d o, d ≠ zp → d ≠ tq → d ≠ j1 → d ≠ j2 → d ≠ j3 → s.heap.get? d = some o → h'.get? d = some o) →
        Inv X pins σ (upd H s.heap.objs.size (.tup (row3 xs ys zs i))) { s with heap := h', toks := tk } := fun {x1 x2 x3 h' tk} e1 e2 e3 tp kk => by
      have e1' : its[i]? = some x1 := by simpa using e1
      have e2' : its2[i]? = some x2 := by simpa using e2
      have e3' : its3[i]? = some x3 := by simpa using e3
      rw [hu] at e1'; cases e1'
      rw [hu2] at e2'; cases e2'
      rw [hu3] at e3'; cases e3'
      refine I.turnedNew (ch := [zp, ti, tq, j1, j2, j3]) (fun d o hd e => kk d o (fun z => hd (by simp [z])) (fun z => hd (by simp [z])) (fun z => hd (by simp [z])) (fun z => hd (by simp [z])) (fun z => hd (by simp [z])) e) hf (Nat.le_refl _) ⟨by rw [hrow]; show 3 ≤ sizeLine; decide, [u, u2, u3], by rw [hrow]; exact .cons ru (.cons ru2 (.cons ru3 .nil)), ⟨_, tp, rfl, _, rfl⟩⟩
    have hfT : ∀ d ∈ [zp, ti, tq, j1, j2, j3], d ≠ s.heap.objs.size := fun d hd => by
      have e' : d = zp ∨ d = ti ∨ d = tq ∨ d = j1 ∨ d = j2 ∨ d = j3 := by simpa using hd
      rcases e' with q | q | q | q | q | q <;> rw [q]
      · rcases h5 with ⟨_, h5⟩ | ⟨_, _, _, _, h5, _⟩ <;> exact lt h5
      · exact lt h1
      · exact lt h4
      · obtain ⟨o, e, _⟩ := h2.obj; exact lt e
      · obtain ⟨o, e, _⟩ := h3.obj; exact lt e
      · obtain ⟨o, e, _⟩ := h3'.obj; exact lt e
    have hfr : H s.heap.objs.size = none := I.hok.fresh (Nat.le_refl _)
    rcases h5 with ⟨e0, h5⟩ | ⟨T, fl, vs, e0, h5, h6⟩
    · refine wpAny_pyNext_zipD3_item Z D1 D2 D3 h5 h1 h4 ⟨h2, sq⟩ ⟨h3, sq2⟩ ⟨h3', sq3⟩ (by omega) (by omega) (by omega) fun x1 x2 x3 h' tk p1 p2 p3 hz' htq' s1' s2' s3' tp _ kk => ?_
      exact hQ _ _ (fin p1 p2 p3 tp kk) hfr hfT ⟨kk _ _ Z.TIz Z.TITO Z.TIi1 Z.TIi2 Z.TIi3 h1, s1'.1, s2'.1, s3'.1, ⟨_, _, _, htq'⟩, .inr ⟨_, false, _, Nat.succ_pos i, hz', upd_same⟩⟩
    · obtain ⟨ob, hob⟩ := tup_there I h6
      refine nextZ h5 rfl fun EE => zipH3_item Z D1 D2 D3 h5 hob h1 ⟨h2, sq⟩ ⟨h3, sq2⟩ ⟨h3', sq3⟩ (by omega) (by omega) (by omega) fun x1 x2 x3 h' tk p1 p2 p3 hz' s1' s2' s3' tp kk => ?_
      exact hQ _ _ (fin p1 p2 p3 tp fun d o c1 _ c3 c4 c5 e => kk d o c1 c3 c4 c5 e) hfr hfT ⟨kk _ _ Z.TIz Z.TIi1 Z.TIi2 Z.TIi3 h1, s1'.1, s2'.1, s3'.1, ⟨_, _, _, kk _ _ Z.TOz Z.Ti1 Z.Ti2 Z.Ti3 h4⟩, .inr ⟨T, true, vs, Nat.succ_pos i, hz', by rw [upd_ne (ne_of_none h6 hfr)]; exact h6⟩⟩
  done := fun A hA pins s σ H Q E I hf hs st hQ => by
    obtain ⟨h1, h2, h3, h3', ⟨a1, a2, a3, h4⟩, h5⟩ := st
    obtain ⟨its, rv, sq, _⟩ := inv_src I hs.1
    obtain ⟨its2, rv2, sq2, _⟩ := inv_src I hs.2.1
    obtain ⟨its3, rv3, sq3, _⟩ := inv_src I hs.2.2
    have D1 := draws_src (prog := X.prog) (w := X.w) (A := A.in1) hA j1 a ha its.toArray l1
    have D2 := draws_src (prog := X.prog) (w := X.w) (A := A.in1) hA j2 b hb its2.toArray l2
    have D3 := draws_src (prog := X.prog) (w := X.w) (A := A.in1) hA j3 c hcn its3.toArray l3
    have n1 : its.toArray.size = xs.length := by simp [rv.length]
    have n2 : its2.toArray.size = ys.length := by simp [rv2.length]
    have n3 : its3.toArray.size = zs.length := by simp [rv3.length]
    have out : ∀ {h' : Heap} {tk : Nat}, (∀ d o, d ≠ zp → d ≠ tq → d ≠ j1 → d ≠ j2 → d ≠ j3 → s.heap.get? d = some o → h'.get? d = some o) → Inv X pins σ H { s with heap := h', toks := tk } := fun {h' tk} kk =>
      I.turnedL (ch := [zp, ti, tq, j1, j2, j3]) (fun d o hd e => kk d o (fun z => hd (by simp [z])) (fun z => hd (by simp [z])) (fun z => hd (by simp [z])) (fun z => hd (by simp [z])) (fun z => hd (by simp [z])) e) hf
    rcases h5 with ⟨e0, h5⟩ | ⟨T, fl, vs, e0, h5, h6⟩
    · exact wpAny_pyNext_zipD3_end Z D1 D2 D3 h5 h1 h4 ⟨h2, sq⟩ ⟨h3, sq2⟩ ⟨h3', sq3⟩ (by omega) (by omega) (by omega) (by omega) fun h' tk kk => hQ _ (out kk)
    · obtain ⟨ob, hob⟩ := tup_there I h6
      exact nextZ_end h5 rfl fun QQ E2 hE => zipH3_end Z D1 D2 D3 h5 hob h1 ⟨h2, sq⟩ ⟨h3, sq2⟩ ⟨h3', sq3⟩ (by omega) fun h' tk e kk he => hE e _ he (hQ _ (out fun d o c1 _ c3 c4 c5 q => kk d o c1 c3 c4 c5 q))
end
theorem valsT {a b c : V} {us : List Value} (r : Vals [a, b, c] us) : ∃ v1 v2 v3, us = [v1, v2, v3] ∧ RelV a v1 ∧ RelV b v2 ∧ RelV c v3 := by
  cases r with
  | cons r t =>
    obtain ⟨v2, v3, rfl, q1, q2⟩ := vals2 t
    exact ⟨_, v2, v3, rfl, r, q1, q2⟩
/-! ### list(zip(..)) -/
theorem src_mono {K : PySem.W.Frag} {H H' : Hp} {l : Bool} {a : Addr} {xs : List V} (h : SrcR K H l a xs) (k1 : ∀ b o u, H b = some (.frz o u) → H' b = some (.frz o u)) (k2 : ∀ b ys, H b = some (.tup ys) → H' b = some (.tup ys)) : SrcR K H' l a xs :=
  h.stp (ι := []) (ι' := []) ⟨⟨[], rfl⟩, k2, k1⟩
def tLZ2 (K : PySem.W.Frag) (ta : TA) : TE := fun σ H Q => ta σ H fun vs H1 => ∃ l1 l2 a b xs ys, vs = [.ref a, .ref b] ∧ SrcR K H1 l1 a xs ∧ SrcR K H1 l2 b ys ∧ min xs.length ys.length ≤ sizeLine ∧
  ∀ p H' acc, H1 p = none → Ext H1 H' → H' p = some (.lst acc) → Drawn' H' (row2 xs ys) acc (min xs.length ys.length) → Q (.ref p) H'
def tLZ3 (K : PySem.W.Frag) (ta : TA) : TE := fun σ H Q => ta σ H fun vs H1 => ∃ l1 l2 l3 a b c xs ys zs, vs = [.ref a, .ref b, .ref c] ∧ SrcR K H1 l1 a xs ∧ SrcR K H1 l2 b ys ∧ SrcR K H1 l3 c zs ∧ min (min xs.length ys.length) zs.length ≤ sizeLine ∧
  ∀ p H' acc, H1 p = none → Ext H1 H' → H' p = some (.lst acc) → Drawn' H' (row3 xs ys zs) acc (min (min xs.length ys.length) zs.length) → Q (.ref p) H'
section
variable {X : Cx} {e1 e2 e3 : Expr} {ta : TA} {p p2 pos pos2 : Pos}
theorem pe_lz2 (hc : X.calm = true) (hg : Gl X "list") (hm : X.mg "list" = none) (hg2 : Gl X "zip") (hm2 : X.mg "zip" = none) (ha : PA X [e1, e2] ta) (hs : starEach [e1, e2] X.env = (false, eval e1 X.env) :: starEach [e2] X.env) (hpl : (backTo pos2 (starEach [e2] X.env)).any (·.1) = false) :
    PE X (.Call (.Name "list" p) [.Call (.Name "zip" p2) [e1, e2] [] pos2] [] pos) (tLZ2 X.K ta) := by
  refine ⟨fun pins s σ H Q I h => ?_⟩
  have hz : wpAny (model X.prog X.w) X.A (eval (.Call (.Name "zip" p2) [e1, e2] [] pos2) X.env) (fun v s1 => ∃ zp n row fp src tn H1, v = .ref zp ∧ Inv X pins σ H1 s1 ∧ ZW X n row zp fp src tn ∧ n ≤ sizeLine ∧ zp ∈ fp ∧ (∀ b ∈ fp, FpOk X pins H1 b) ∧ src H1 ∧ tn 0 H1 s1.heap ∧
      (∀ H H', src H → (∀ b o u, H b = some (.frz o u) → H' b = some (.frz o u)) → (∀ b xs, H b = some (.tup xs) → H' b = some (.tup xs)) → src H') ∧ ∀ p H' acc, H1 p = none → Ext H1 H' → H' p = some (.lst acc) → Drawn' H' row acc n → Q (.ref p) H') X.xe s := by
    refine Call_ (ld_blt I hg2 hm2 PyProof.Rows.boot_zip (PyProof.Rows.callWith_type1 (thn (ha.run pos2 pins s σ H _ I h) fun us s1 ⟨vs, H1, I1, r1, q1⟩ => ?_) hs hpl))
    obtain ⟨l1, l2, a, b, xs, ys, ex, hqx, hqy, hsz, q⟩ := q1
    subst ex
    obtain ⟨v1, v2, rfl, rr1, rr2⟩ := vals2 r1
    cases rr1
    cases rr2
    obtain ⟨its, rv, sq1, _⟩ := inv_src I1 hqx
    obtain ⟨its2, rv2, sq2, _⟩ := inv_src I1 hqy
    have la := seqH_lt sq1
    have lb := seqH_lt sq2
    refine zip_begins2 (begins_src a its.toArray l1) (begins_src b its2.toArray l2) sq1 sq2 fun h' hz hTI hTO h1 h2 hsz' hk => ?_
    have I2 : Inv X pins σ H1 { s1 with heap := h' } := I1.kept (t' := s1.toks) hk
    refine ⟨s1.heap.objs.size + 4, _, _, _, _, _, H1, rfl, I2, zw_zip2 (zip_sep2 (N := s1.heap.objs.size) (fp1 := [a]) (fp2 := [b]) (by simpa using la) (by simpa using lb)) (Nat.ne_of_lt la) (Nat.ne_of_lt (Nat.lt_succ_of_lt lb)), hsz, by simp, fun d hd => ?_, ⟨hqx, hqy⟩, ⟨hTI, itObj_st h1, itObj_st h2, ⟨_, _, hTO⟩, .inl ⟨rfl, hz⟩⟩, fun H H' hs k1 k2 => ⟨src_mono hs.1 k1 k2, src_mono hs.2 k1 k2⟩, q⟩
    have e' : d = s1.heap.objs.size + 4 ∨ d = s1.heap.objs.size + 2 ∨ d = s1.heap.objs.size + 3 ∨ d = s1.heap.objs.size ∨ d = s1.heap.objs.size + 1 := by simpa using hd
    have hle : s1.heap.objs.size ≤ d := by
      rcases e' with z | z | z | z | z <;> rw [z] <;> first | exact Nat.le_add_right _ _ | exact Nat.le_refl _
    exact I1.fpOk hle (I1.hok.fresh hle)
  refine Call_ (ld_blt I hg hm boot_list (PyProof.Rows.callWith_type1 (args_cons (thn hz fun v s1 ⟨zp, n, row, fp, src, tn, H1, ev, I1, W, hn, hmem, hf, hs0, st, hmono, q⟩ => args_nil ?_) rfl) rfl))
  subst ev
  exact call_list_zw W hmono hn (I1.ok.hd hc) hmem I1 hf hs0 st q
theorem pe_lz3 (hc : X.calm = true) (hg : Gl X "list") (hm : X.mg "list" = none) (hg2 : Gl X "zip") (hm2 : X.mg "zip" = none) (ha : PA X [e1, e2, e3] ta) (hs : starEach [e1, e2, e3] X.env = (false, eval e1 X.env) :: starEach [e2, e3] X.env) (hpl : (backTo pos2 (starEach [e2, e3] X.env)).any (·.1) = false) :
    PE X (.Call (.Name "list" p) [.Call (.Name "zip" p2) [e1, e2, e3] [] pos2] [] pos) (tLZ3 X.K ta) := by
  refine ⟨fun pins s σ H Q I h => ?_⟩
  have hz : wpAny (model X.prog X.w) X.A (eval (.Call (.Name "zip" p2) [e1, e2, e3] [] pos2) X.env) (fun v s1 => ∃ zp n row fp src tn H1, v = .ref zp ∧ Inv X pins σ H1 s1 ∧ ZW X n row zp fp src tn ∧ n ≤ sizeLine ∧ zp ∈ fp ∧ (∀ b ∈ fp, FpOk X pins H1 b) ∧ src H1 ∧ tn 0 H1 s1.heap ∧
      (∀ H H', src H → (∀ b o u, H b = some (.frz o u) → H' b = some (.frz o u)) → (∀ b xs, H b = some (.tup xs) → H' b = some (.tup xs)) → src H') ∧ ∀ p H' acc, H1 p = none → Ext H1 H' → H' p = some (.lst acc) → Drawn' H' row acc n → Q (.ref p) H') X.xe s := by
    refine Call_ (ld_blt I hg2 hm2 PyProof.Rows.boot_zip (PyProof.Rows.callWith_type1 (thn (ha.run pos2 pins s σ H _ I h) fun us s1 ⟨vs, H1, I1, r1, q1⟩ => ?_) hs hpl))
    obtain ⟨l1, l2, l3, a, b, c, xs, ys, zs, ex, hqx, hqy, hqz, hsz, q⟩ := q1
    subst ex
    obtain ⟨v1, v2, v3, rfl, rr1, rr2, rr3⟩ := valsT r1
    cases rr1
    cases rr2
    cases rr3
    obtain ⟨its, rv, sq1, _⟩ := inv_src I1 hqx
    obtain ⟨its2, rv2, sq2, _⟩ := inv_src I1 hqy
    obtain ⟨its3, rv3, sq3, _⟩ := inv_src I1 hqz
    have la := seqH_lt sq1
    have lb := seqH_lt sq2
    have lc := seqH_lt sq3
    refine zip_begins3 (begins_src a its.toArray l1) (begins_src b its2.toArray l2) (begins_src c its3.toArray l3) sq1 sq2 sq3 fun h' hz hTI hTO h1 h2 h3 hsz' hk => ?_
    have I2 : Inv X pins σ H1 { s1 with heap := h' } := I1.kept (t' := s1.toks) hk
    refine ⟨s1.heap.objs.size + 5, _, _, _, _, _, H1, rfl, I2, zw_zip3 (zip_sep3 (N := s1.heap.objs.size) (fp1 := [a]) (fp2 := [b]) (fp3 := [c]) (by simpa using la) (by simpa using lb) (by simpa using lc)) (Nat.ne_of_lt la) (Nat.ne_of_lt (Nat.lt_succ_of_lt lb)) (Nat.ne_of_lt (Nat.lt_succ_of_lt (Nat.lt_succ_of_lt lc))), hsz, by simp, fun d hd => ?_, ⟨hqx, hqy, hqz⟩, ⟨hTI, itObj_st h1, itObj_st h2, itObj_st h3, ⟨_, _, _, hTO⟩, .inl ⟨rfl, hz⟩⟩, fun H H' hs k1 k2 => ⟨src_mono hs.1 k1 k2, src_mono hs.2.1 k1 k2, src_mono hs.2.2 k1 k2⟩, q⟩
    have e' : d = s1.heap.objs.size + 5 ∨ d = s1.heap.objs.size + 3 ∨ d = s1.heap.objs.size + 4 ∨ d = s1.heap.objs.size ∨ d = s1.heap.objs.size + 1 ∨ d = s1.heap.objs.size + 2 := by simpa using hd
    have hle : s1.heap.objs.size ≤ d := by
      rcases e' with z | z | z | z | z | z <;> rw [z] <;> first | exact Nat.le_add_right _ _ | exact Nat.le_refl _
    exact I1.fpOk hle (I1.hok.fresh hle)
  refine Call_ (ld_blt I hg hm boot_list (PyProof.Rows.callWith_type1 (args_cons (thn hz fun v s1 ⟨zp, n, row, fp, src, tn, H1, ev, I1, W, hn, hmem, hf, hs0, st, hmono, q⟩ => args_nil ?_) rfl) rfl))
  subst ev
  exact call_list_zw W hmono hn (I1.ok.hd hc) hmem I1 hf hs0 st q
end
end Ev
end

section
set_option Elab.async false
set_option linter.all false
set_option maxRecDepth 100000
set_option maxHeartbeats 4000000
namespace Ev
open PySem PySem.Spec PyProof.Rows L2

/-! ### t[::-1] -/
theorem fm_congr {α β : Type} {f k : α → Option β} : ∀ {l : List α}, (∀ m ∈ l, f m = k m) → l.filterMap f = l.filterMap k
  | [], _ => rfl
  | x :: l, h => by
    rw [List.filterMap_cons, List.filterMap_cons, h x List.mem_cons_self, fm_congr (l := l) fun m hm => h m (List.mem_cons_of_mem _ hm)]
theorem fm_all {α : Type} : ∀ (ys : List α), (List.range ys.length).filterMap (fun m => ys[m]?) = ys
  | [] => rfl
  | y :: ys => by
    rw [List.length_cons, List.range_succ_eq_map, List.filterMap_cons]
    simp only [List.getElem?_cons_zero, List.filterMap_map]
    congr 1
    exact fm_all ys
theorem back_pick (xs : Array Value) : ((List.range xs.size).filterMap fun (m : Nat) => xs[(((xs.size : Int) - 1) + (m : Int) * (-1)).toNat]?).toArray = xs.toList.reverse.toArray := by
  congr 1
  have hl : xs.toList.reverse.length = xs.size := by simp
  rw [← fm_all xs.toList.reverse, hl]
  apply fm_congr
  intro m hm
  have hm' : m < xs.size := List.mem_range.mp hm
  have h1 : (((xs.size : Int) - 1) + (m : Int) * (-1)).toNat = xs.size - 1 - m := by omega
  rw [h1, List.getElem?_reverse (by simpa using hm'), Array.length_toList, Array.getElem?_toList]
section
variable {prog : Program} {w : World} {A : Around} {E : Value → Shared → Prop} {s : Shared}
theorem back_applied {sl : Addr} {tk : Tok} {n : Nat} {Q : Int × Int × Nat → Shared → Prop} (hs : s.heap.IsSliceOf sl .none .none (.int (-1) tk)) (h : Q ((n : Int) - 1, -1, n) s) :
    wpAny (model prog w) A (Builtin.Slice.sliceApplied (.ref sl) (pure (n : Int))) Q E s := by
  obtain ⟨os, hos, hcs, hds⟩ := id hs
  unfold Builtin.Slice.sliceApplied Builtin.Slice.sliceFields
  refine wpAny_bind (wpAny_bind (wpAny_field hos hds (x := .none) rfl (wpAny_bind (wpAny_field hos hds (x := .none) rfl (wpAny_bind (wpAny_field hos hds (x := .int (-1) tk) rfl (wpAny_pure ?_)))))))
  refine wpAny_bind (slicePart_int ?_)
  show wpAny (model prog w) A (if ((-1 : Int) == 0) = true then _ else _) _ _ s
  rw [if_neg (by decide)]
  refine wpAny_bind (slicePart_none (wpAny_bind (slicePart_none (wpAny_bind (wpAny_pure ?_)))))
  show wpAny (model prog w) A (pure (((n : Int) - 1), (-1 : Int), Builtin.Slice.slicePlaces ((n : Int) - 1) (-1) (-1))) _ _ s
  have e : Builtin.Slice.slicePlaces ((n : Int) - 1) (-1) (-1) = n := by
    unfold Builtin.Slice.slicePlaces
    rw [if_neg (by decide)]
    split
    · have : ((n : Int) - 1 - (-1) - 1) / (- -1) + 1 = n := by
        rw [show (- -1 : Int) = 1 from rfl, Int.ediv_one]; omega
      rw [this]; simp
    · have : n = 0 := by omega
      subst this; rfl
  rw [e]
  exact wpAny_pure h
theorem getItem_back {t sl : Addr} {items : Array Value} {tk : Tok} {Q : Value → Shared → Prop} (ht : IsTup s.heap t items) (hs : s.heap.IsSliceOf sl .none .none (.int (-1) tk))
    (h : Q (.ref s.heap.objs.size) { s with heap := s.heap.push { cls := .type "tuple", data := .seq items.toList.reverse.toArray } }) (hsz : items.size ≤ sizeLine) : wpAny (model prog w) A (getItem (.ref t) (.ref sl)) Q E s := by
  have htake : sizeOk (.seq items.toList.reverse.toArray) := by
    show items.toList.reverse.toArray.size ≤ sizeLine
    rw [List.size_toArray, List.length_reverse, Array.length_toList]
    exact hsz
  obtain ⟨os, hos, hcs, hds⟩ := id hs
  have hTs : s.TypeIs (.ref sl) "slice" := ⟨os, hos, hcs⟩
  unfold getItem
  try with_reducible refine wpAny_holding ?_
  first | refine wpAny_bind (wpAny_pure ?_) | skip
  refine wpAny_bind (wpAny_sequenceKey ht.typeIs (by decide) (wpAny_bind (wpAny_callSpecial?_slot (name := Str.ofString "__getitem__") ht.typeIs PyProof.Rows.slot_tuple_getitem (wpAny_call_entry PyProof.Rows.slot_tuple_getitem ht.typeIs PyProof.Rows.entry_tuple_getitem ?_ (PyProof.Rows.args_tuple_getitem _ _)))))
  show wpAny (model prog w) _ (Builtin.Tuple.tupleItemsOf (.ref t) >>= _) _ _ s
  refine wpAny_bind (PyProof.Rows.tupleItemsOf_ ht (wpAny_bind (wpAny_typeOf hTs ?_)))
  rw [if_pos (by decide)]
  refine wpAny_bind (back_applied hs ?_)
  have hno : ¬ ((((items.size : Int) - 1) == 0 && (-1 : Int) == 1 && items.size == items.size) = true) := by
    have : ((-1 : Int) == 1) = false := by decide
    rw [this, Bool.and_false, Bool.false_and]
    exact Bool.false_ne_true
  show wpAny (model prog w) _ (if (((items.size : Int) - 1) == 0 && (-1 : Int) == 1 && items.size == items.size) = true then _ else _) _ _ s
  rw [if_neg hno, back_pick]
  first
    | exact wpAny_bind (m := Builtin.Tuple.tupleExact _) (wpAny_newObj_type (wpAny_pure ⟨_, rfl, wpAny_pure h⟩) htake)
    | exact wpAny_bind (m := Builtin.Tuple.tupleExact _) (wpAny_newObj_type (wpAny_bind (wpAny_pure (wpAny_pure ⟨_, rfl, wpAny_pure h⟩))) htake)
    | exact wpAny_bind (wpAny_bind (m := Builtin.Tuple.tupleExact _) (wpAny_newObj_type (wpAny_pure (wpAny_pure ⟨_, rfl, wpAny_pure h⟩)) htake))
end
section
variable {X : Cx} {g : G} {a : Expr} {m : M RV} {pos p2 p3 p4 : Pos} {k1 : Nat}
theorem RDs.rev {K : PySem.W.Frag} {ι : List Addr} {H : Hp} {ds : List D} {vs : List V} (h : RDs K ι H ds vs) : RDs K ι H ds.reverse vs.reverse := h.reverse
theorem pe_revE (hK : g.K = X.K) (ha : PE X a (tE g m)) : PE X (.Subscript a (.Slice none none (some (.UnaryOp .USub (.Constant (.int 1) k1 p4) p3)) p2) pos) (tE g (bnd m fun x => bnd (rsv x) fun p => opt (revop p))) := by
  refine PE.to (t := fun σ H Q => tE g m σ H fun x H1 => ∃ q vs, x = .ref q ∧ SqT X.K H1 q vs ∧ ∀ p, H1 p = none → Q (.ref p) (upd H1 p (.tup vs.reverse))) ⟨fun pins s σ H Q I h => ?_⟩ fun σ H Q ⟨ι, ss, z, ss', rel, e, k⟩ => .here ?_
  · refine Subscript_ (thn (ha.run pins s σ H _ I h) fun v s1 ⟨x, H1, I1, r1, q, vs, ex, hq, hQ⟩ => ?_)
    subst ex
    cases r1
    have hm1 : PE X (.UnaryOp .USub (.Constant (.int 1) k1 p4) p3) (tUn (rU fun i => .int (-i)) (tC (.int 1))) := pe_un un_neg pe_int
    refine wpAny_Slice ?_
    rw [evalPart_none]
    refine wpAny_pure (wpAny_pure ?_)
    rw [evalPart_some]
    refine thn (hm1.run pins s1 σ H1 (fun v H2 => v = .int (-1) ∧ H2 = H1) I1 ⟨1, rfl, rfl, rfl⟩) fun u s2 ⟨y, H2, I2, r2, ey, eH⟩ => ?_
    subst ey eH
    obtain ⟨tk, rfl⟩ := r2
    have I3 : Inv X pins σ H2 { s2 with heap := s2.heap.push { cls := .type "slice", data := .fields #[.none, .none, .int (-1) tk] } } := I2.kept (t' := s2.toks) fun b ob q => Heap.get?_push_of_some _ q
    obtain ⟨its, rv, ht, hz⟩ := I3.tuple hq
    have hlen : its.toArray.size = vs.length := by simp [rv.length]
    show wpAny (model X.prog X.w) X.A (subscriptTail a (.Slice none none (some (.UnaryOp .USub (.Constant (.int 1) k1 p4) p3)) p2) (.ref q) (.ref s2.heap.objs.size)) (EP X pins σ Q) X.xe { s2 with heap := s2.heap.push { cls := .type "slice", data := .fields #[.none, .none, .int (-1) tk] } }
    refine tail_any (ops := [.ref q, .ref s2.heap.objs.size]) ht.typeIs PyProof.Rows.slot_tuple_getitem.lookup (getItem_back ht (Heap.IsSliceOf.new ..) ?_ (by rw [hlen]; exact hz)) (by with_unfolding_all rfl)
    refine ⟨.ref _, _, I3.laid (t' := s2.toks) (o := .tup vs.reverse) (fun b ob q => Heap.get?_push_of_some _ q) (Nat.le_refl _) ?_, rfl, hQ _ (I3.hok.fresh (Nat.le_refl _))⟩
    refine ⟨by rw [List.length_reverse]; exact hz, its.reverse, ?_, ?_⟩
    · exact rv.reverse
    · have := IsTup.new ({ s2 with heap := s2.heap.push { cls := .type "slice", data := .fields #[.none, .none, .int (-1) tk] } } : Shared).heap its.toArray.toList.reverse.toArray
      simpa using this
  · obtain ⟨x, s1, e1, f1⟩ := bnd_some e
    obtain ⟨p, s2, e2, f2⟩ := bnd_some f1
    obtain ⟨h2, rfl⟩ := rsv_some e2
    obtain ⟨h3, rfl⟩ := opt_some f2
    refine ⟨ι, ss, x, _, rel, e1, fun v ι1 H1 rel1 rv1 _ es1 => .here ?_⟩
    have hr := res_rra rel1 rv1 h2
    cases p with
    | d d =>
      cases d with
      | tup ds =>
        cases h3
        obtain ⟨q, vs, rfl, hq, hv⟩ := RD.inv_tup hr
        rw [hK] at hq
        refine ⟨q, vs, rfl, hq, fun p hp => ?_⟩
        have o : Out g.K ι1 H1 (.d (.tup ds.reverse)) (.ref p) (upd H1 p (.tup vs.reverse)) := .tup hp hv.reverse
        exact k _ ι1 _ (rel1.ext o.1) (rel1.out o).1 .d (es1.out o.1)
      | _ => cases h3
    | own so => cases h3
    | rf j so => cases h3
/-! ### list(zip(..)), read -/
theorem RDs.of_get {K : PySem.W.Frag} {ι : List Addr} {H : Hp} : ∀ {ds : List D} {vs : List V}, ds.length = vs.length → (∀ j, j < ds.length → ∃ d v, ds[j]? = some d ∧ vs[j]? = some v ∧ RD K ι H d v) → RDs K ι H ds vs
  | [], [], _, _ => .nil
  | [], _ :: _, h, _ => by cases h
  | _ :: _, [], h, _ => by cases h
  | d :: ds, v :: vs, h, k => by
    obtain ⟨d', v', e1, e2, r⟩ := k 0 (by simp)
    simp at e1 e2
    subst e1 e2
    exact .cons r (RDs.of_get (by simpa using h) fun j hj => by
      obtain ⟨a, b, q1, q2, q3⟩ := k (j + 1) (by simpa using hj)
      exact ⟨a, b, by simpa using q1, by simpa using q2, q3⟩)
/-- the new list of tuples -/
theorem drawn_rds {K : PySem.W.Frag} {ι : List Addr} {H H' : Hp} {row : Nat → List V} {acc : List V} {n : Nat} {ds : List D} (hd : Drawn' H' row acc n) (hl : ds.length = n) (e : Ext H H') (h : ∀ j, j < n → ∃ es, ds[j]? = some (.tup es) ∧ RDs K ι H es (row j)) : RDs K ι H' ds acc :=
  RDs.of_get (by rw [hl, hd.1]) fun j hj => by
    obtain ⟨T, q1, q2⟩ := hd.2 j (by omega)
    obtain ⟨es, q3, q4⟩ := h j (by omega)
    exact ⟨_, _, q3, q1, .tup (.inl (.inl q2)) (q4.mono e.stp)⟩
theorem coll_new {σ : L2.St} {H H1 : Hp} {Q : VK} {ι ι1 : List Addr} {ss s1 ss' : SS} {z : RV} {ds : List D} {n : Nat} {row : Nat → List V} (rel1 : Rel g ι1 s1 σ H1) (es1 : Es ι H (OwnA ss σ) ι1 H1 (OwnA s1 σ)) (hl : ds.length = n)
    (f : (if ds.length ≤ LIM then (if true = true then ret (.new (.lst ds)) else ret (.d (.tup ds))) else fail) s1 = some (z, ss')) (k : ∀ v ι' H', Rel g ι' ss' σ H' → RRV g ι' ss' σ H' z v → NewAt H z v → Es ι H (OwnA ss σ) ι' H' (OwnA ss' σ) → Gh (Q v) H')
    (h : ∀ j, j < n → ∃ es, ds[j]? = some (.tup es) ∧ RDs g.K ι1 H1 es (row j)) : n ≤ sizeLine ∧ ∀ p H' acc, H1 p = none → Ext H1 H' → H' p = some (.lst acc) → Drawn' H' row acc n → Gh (Q (.ref p)) H' := by
  split at f
  · rename_i hlim
    simp only [if_true] at f
    obtain ⟨rfl, rfl⟩ := ret_some f
    refine ⟨by rw [← hl]; exact Nat.le_trans hlim lim_line, fun p H' acc hp e hq hd => ?_⟩
    have o : Out g.K ι1 H1 (.new (.lst ds)) (.ref p) H' := ⟨e, p, rfl, hp, acc, hq, drawn_rds hd hl e h⟩
    exact k _ ι1 _ (rel1.ext e) (rel1.out o).1 (.es es1 (rel1.out o).2) (es1.out e)
  · cases f
theorem pe_lz2E {e1 e2 : Expr} {ms : M (List D)} {p q : Pos} (hK : g.K = X.K) (hc : X.calm = true) (hg : Gl X "list") (hm : X.mg "list" = none) (hg2 : Gl X "zip") (hm2 : X.mg "zip" = none) (ha : PA X [e1, e2] (tDs g ms)) (hs : starEach [e1, e2] X.env = (false, eval e1 X.env) :: starEach [e2] X.env) (hpl : (backTo q (starEach [e2] X.env)).any (·.1) = false) :
    PE X (.Call (.Name "list" p) [.Call (.Name "zip" p2) [e1, e2] [] q] [] pos) (tE g (bnd (lenM 2 ms) fun ds => if ds.length ≤ LIM then (if true = true then ret (.new (.lst ds)) else ret (.d (.tup ds))) else fail)) := (pe_lz2 hc hg hm hg2 hm2 ha hs hpl).to fun σ H Q ⟨ι, ss, z, ss', rel, e, k⟩ => .here (by
  obtain ⟨ds, s1, f0, f1⟩ := bnd_some e
  obtain ⟨as, s2, f2, f3⟩ := bnd_some f0
  split at f3
  · rename_i hl
    obtain ⟨x, y, rfl⟩ : ∃ x y, as = [x, y] := by
      match as, hl with
      | [x, y], _ => exact ⟨x, y, rfl⟩
    obtain ⟨rfl, xs, ys, h1, h2, rfl⟩ := zipM_2 f3
    refine ⟨ι, ss, _, _, rel, f2, fun vs ι1 H1 rel1 rv1 es1 => .here ?_⟩
    obtain ⟨v, ws, rfl, hd, ht⟩ := rv1.inv_cons
    obtain ⟨w, ws, rfl, hd2, ht2⟩ := ht.inv_cons
    cases ht2
    obtain ⟨l1, q1, xs1, rfl, hq1, hr1⟩ := src_of hd h1
    obtain ⟨l2, q2, xs2, rfl, hq2, hr2⟩ := src_of hd2 h2
    rw [hK] at hq1 hq2
    obtain ⟨z1, z2⟩ := coll_new (row := row2 xs1 xs2) (n := min xs1.length xs2.length) rel1 es1 (by rw [zipD_length, hr1.length, hr2.length]) f1 k fun j hj => by
      have g1 : xs1[j]? = some (xs1[j]'(by omega)) := List.getElem?_eq_getElem _
      have g2 : xs2[j]? = some (xs2[j]'(by omega)) := List.getElem?_eq_getElem _
      obtain ⟨d1, k1, k2⟩ := hr1.getV g1
      obtain ⟨d2, k3, k4⟩ := hr2.getV g2
      refine ⟨_, zipD_get k1 k3, ?_⟩
      unfold row2
      rw [g1, g2]
      exact .cons k2 (.cons k4 .nil)
    exact ⟨l1, l2, q1, q2, xs1, xs2, rfl, hq1, hq2, z1, z2⟩
  · cases f3)
theorem pe_lz3E {e1 e2 e3 : Expr} {ms : M (List D)} {p q : Pos} (hK : g.K = X.K) (hc : X.calm = true) (hg : Gl X "list") (hm : X.mg "list" = none) (hg2 : Gl X "zip") (hm2 : X.mg "zip" = none) (ha : PA X [e1, e2, e3] (tDs g ms)) (hs : starEach [e1, e2, e3] X.env = (false, eval e1 X.env) :: starEach [e2, e3] X.env) (hpl : (backTo q (starEach [e2, e3] X.env)).any (·.1) = false) :
    PE X (.Call (.Name "list" p) [.Call (.Name "zip" p2) [e1, e2, e3] [] q] [] pos) (tE g (bnd (lenM 3 ms) fun ds => if ds.length ≤ LIM then (if true = true then ret (.new (.lst ds)) else ret (.d (.tup ds))) else fail)) := (pe_lz3 hc hg hm hg2 hm2 ha hs hpl).to fun σ H Q ⟨ι, ss, z, ss', rel, e, k⟩ => .here (by
  obtain ⟨ds, s1, f0, f1⟩ := bnd_some e
  obtain ⟨as, s2, f2, f3⟩ := bnd_some f0
  split at f3
  · rename_i hl
    obtain ⟨x, y, u, rfl⟩ : ∃ x y u, as = [x, y, u] := by
      match as, hl with
      | [x, y, u], _ => exact ⟨x, y, u, rfl⟩
    obtain ⟨rfl, xs, ys, zs, h1, h2, h3, rfl⟩ := zipM_3 f3
    refine ⟨ι, ss, _, _, rel, f2, fun vs ι1 H1 rel1 rv1 es1 => .here ?_⟩
    obtain ⟨v, ws, rfl, hd, ht⟩ := rv1.inv_cons
    obtain ⟨w, ws, rfl, hd2, ht2⟩ := ht.inv_cons
    obtain ⟨w3, ws, rfl, hd3, ht3⟩ := ht2.inv_cons
    cases ht3
    obtain ⟨l1, q1, xs1, rfl, hq1, hr1⟩ := src_of hd h1
    obtain ⟨l2, q2, xs2, rfl, hq2, hr2⟩ := src_of hd2 h2
    obtain ⟨l3, q3, xs3, rfl, hq3, hr3⟩ := src_of hd3 h3
    rw [hK] at hq1 hq2 hq3
    obtain ⟨z1, z2⟩ := coll_new (row := row3 xs1 xs2 xs3) (n := min (min xs1.length xs2.length) xs3.length) rel1 es1 (by rw [zipD3_length, hr1.length, hr2.length, hr3.length]) f1 k fun j hj => by
      have g1 : xs1[j]? = some (xs1[j]'(by omega)) := List.getElem?_eq_getElem _
      have g2 : xs2[j]? = some (xs2[j]'(by omega)) := List.getElem?_eq_getElem _
      have g3 : xs3[j]? = some (xs3[j]'(by omega)) := List.getElem?_eq_getElem _
      obtain ⟨d1, k1, k2⟩ := hr1.getV g1
      obtain ⟨d2, k3, k4⟩ := hr2.getV g2
      obtain ⟨d3, k5, k6⟩ := hr3.getV g3
      refine ⟨_, zipD3_get k1 k3 k5, ?_⟩
      unfold row3
      rw [g1, g2, g3]
      exact .cons k2 (.cons k4 (.cons k6 .nil))
    exact ⟨l1, l2, l3, q1, q2, q3, xs1, xs2, xs3, rfl, hq1, hq2, hq3, z1, z2⟩
  · cases f3)
end
end Ev
end

section
set_option Elab.async false
set_option linter.all false
set_option maxRecDepth 100000
set_option maxHeartbeats 4000000
namespace Ev
open PySem PySem.Spec PyProof.Rows L2

section
variable {g : G} {Γ : Gam}
theorem ownP_sub {N : List Str} {own : List Nat} {sl : List Nat} (h : sl.all (own.contains ·) = true) (e : (ownP N own).map (·.2) = own) : ∀ j ∈ sl, j ∈ (ownP N own).map (·.2) := fun j hj => by
  rw [e]
  have := List.all_eq_true.mp h j hj
  simpa using this
theorem range_eq (ms : M (List RV)) (k : Nat) (h : ∀ rs ss ss' as, ms ss = some (rs, ss') → resAll ss' rs = some as → as.length = k) : (bnd ms fun rs => bnd (rsvs rs) fun as => opt (rangeI as)) = bnd ms fun rs => bnd (rsvs rs) fun as => if as.length = k then opt (rangeI as) else fail := by
  funext ss
  unfold bnd
  cases e : ms ss with
  | none => rfl
  | some p =>
    obtain ⟨rs, s⟩ := p
    simp only [rsvs]
    cases e2 : resAll s rs with
    | none => rfl
    | some as => simp only [h rs ss s as e e2, if_true]
theorem resAll_length {ss : SS} : ∀ {rs : List RV} {as : List RA}, resAll ss rs = some as → as.length = rs.length
  | [], _, h => by cases h; rfl
  | r :: rs, as, h => by
    unfold resAll at h
    cases q : res ss r with
    | none => rw [q] at h; cases h
    | some a =>
      cases q2 : resAll ss rs with
      | none => rw [q, q2] at h; cases h
      | some as' => rw [q, q2] at h; cases h; simp [resAll_length q2]
theorem evs_length : ∀ {xs : List E} {ss ss' : SS} {rs : List RV}, evs Γ xs ss = some (rs, ss') → rs.length = xs.length
  | [], _, _, _, h => by rw [evs] at h; obtain ⟨rfl, rfl⟩ := ret_some h; rfl
  | x :: xs, _, _, _, h => by
    rw [evs] at h
    obtain ⟨r, s1, e1, f1⟩ := bnd_some h
    obtain ⟨rs, s2, e2, f2⟩ := bnd_some f1
    obtain ⟨rfl, rfl⟩ := ret_some f2
    simp [evs_length e2]
theorem ckRs_length : ∀ {xs : List E} {c : SC} {es : List Expr}, ckRs xs c es = true → es.length = xs.length
  | [], _, es, h => by unfold ckRs at h; simpa using h
  | x :: xs, c, es, h => by
    unfold ckRs at h
    split at h
    · simp only [Bool.and_eq_true] at h
      simp [ckRs_length h.2]
    · cases h
theorem ckDs_cons {x : E} {xs : List E} {c : SC} {es : List Expr} (h : ckDs (x :: xs) c es = true) : (∃ a e p es', x = .star a ∧ es = .Starred e p :: es' ∧ ckE a c e = true ∧ ckDs xs c es' = true) ∨
    ((∀ a, x ≠ .star a) ∧ ∃ e es', es = e :: es' ∧ plainE e = true ∧ ckE x c e = true ∧ ckDs xs c es' = true) := by
  cases x with
  | star a =>
    unfold ckDs at h
    split at h
    · simp only [Bool.and_eq_true] at h
      exact .inl ⟨a, _, _, _, rfl, rfl, h.1, h.2⟩
    · cases h
  | _ =>
    unfold ckDs at h
    split at h
    · simp only [Bool.and_eq_true] at h
      exact .inr ⟨(fun _ e => nomatch e), _, _, rfl, h.1.1, h.1.2, h.2⟩
    · cases h
theorem ckDs_length : ∀ {xs : List E} {c : SC} {es : List Expr}, ckDs xs c es = true → es.length = xs.length
  | [], _, es, h => by unfold ckDs at h; simpa using h
  | x :: xs, c, es, h => by
    rcases ckDs_cons h with ⟨a, e, p, es', _, rfl, _, h⟩ | ⟨_, e, es', rfl, _, _, h⟩ <;> simp [ckDs_length h]

def StarOk (g : G) (Γ : Gam) (c : SC) (X : Cx) (xs : List E) : Prop := ∀ z, xs = [.star z] → ∀ e, ckE z c e = true → PE X e (tE g (ev Γ z))
def OneOk (g : G) (Γ : Gam) (c : SC) (X : Cx) (xs : List E) : Prop := ∀ x, xs = [x] → ∀ e, ckE x c e = true → PE X e (tE g (ev Γ x))
theorem call_case {f : Str} {xs : List E} {c : SC} {e : Expr} (h : ckE (.call f xs) c e = true) (X : Cx) (G : GOk g Γ c X) (hD : ∀ es, ckDs xs c es = true → PA X es (tDs g (evDs Γ xs))) (hS : StarOk g Γ c X xs) : PE X e (tE g (ev Γ (.call f xs))) := by
  unfold ckE at h
  split at h
  · rename_i y p es pos
    simp only [Bool.and_eq_true, decide_eq_true_eq] at h
    obtain ⟨⟨⟨rfl, hg⟩, hxs⟩, hst⟩ := h
    obtain ⟨g1, g2, g3⟩ := G.gl hg
    have e1 : ev Γ (.call y xs) = bnd (evDs Γ xs) (callM (Γ.fn y)) := by rw [ev]; rfl
    rw [e1]
    cases hf : Γ.fn y with
    | none => exact pe_fail (bnd_fail fun _ _ => rfl)
    | some den =>
      have C := G.call y den hf
      split at hst
      · have := ckDs_length hxs
        have hx : xs = [] := List.eq_nil_of_length_eq_zero this.symm
        subst hx
        rw [evDs]
        exact pe_call0E G.K G.gd C g1 g2
      · rename_i a q
        cases xs with
        | nil => unfold ckDs at hxs; cases hxs
        | cons x xs =>
          cases x with
          | star z =>
            unfold ckDs at hxs
            simp only [Bool.and_eq_true] at hxs
            have hl := ckDs_length hxs.2
            have hx : xs = [] := List.eq_nil_of_length_eq_zero hl.symm
            subst hx
            rw [evDs, evDs]
            exact pe_callS1E G.K G.gd C g1 g2 (hS _ rfl _ hxs.1)
          | _ =>
            rcases ckDs_cons hxs with ⟨_, _, _, _, e1, _⟩ | ⟨_, e, es', e1, h1, _⟩
            · cases e1
            · cases e1; cases h1
      · cases es with
        | nil =>
          have hl := ckDs_length hxs
          have hx : xs = [] := List.eq_nil_of_length_eq_zero hl.symm
          subst hx
          rw [evDs]
          exact pe_call0E G.K G.gd C g1 g2
        | cons a es =>
          have ha := hD _ hxs
          simp only [notStars, List.all_cons, Bool.and_eq_true] at hst
          exact pe_callE G.K G.gd C g1 g2 ha (starEach_plain hst.1) (noStars_plain hst.2)
  · cases h
theorem bi_case {f : BI} {xs : List E} {c : SC} {e : Expr} (h : ckE (.bi f xs) c e = true) (X : Cx) (G : GOk g Γ c X) (hR : ∀ es, ckRs xs c es = true → PA X es (tRs g (evs Γ xs))) (hO : OneOk g Γ c X xs) : PE X e (tE g (ev Γ (.bi f xs))) := by
  unfold ckE at h
  split at h
  · rename_i y p es pos
    split at h
    · rename_i t
      split at h
      · rename_i x a ty q
        simp only [Bool.and_eq_true, decide_eq_true_eq] at h
        obtain ⟨⟨⟨⟨⟨rfl, hg⟩, rfl⟩, hg2⟩, hx⟩, hp⟩ := h
        rw [ev]
        have e2 : evs Γ [x] = bnd (ev Γ x) fun r => ret [r] := by rw [evs, evs]; rfl
        rw [e2]
        exact isi_call G hg hg2 (hO _ rfl _ hx) hp
      · cases h
    · rename_i hne
      simp only [Bool.and_eq_true, decide_eq_true_eq] at h
      obtain ⟨⟨⟨⟨rfl, hg⟩, hxs⟩, hp⟩, hne2⟩ := h
      cases es with
      | nil => cases hne2
      | cons a es =>
        rw [ev]
        exact bi_call G (fun t e => hne t e) hg (hR _ hxs) hp
  · cases h
theorem evDs_length : ∀ {xs : List E} {c : SC} {es : List Expr} {ds : List D} {ss ss' : SS}, ckDs xs c es = true → notStars es = true → evDs Γ xs ss = some (ds, ss') → ds.length = es.length
  | [], c, es, ds, ss, ss', h, _, e => by
    have := ckDs_length h
    rw [evDs] at e
    obtain ⟨rfl, rfl⟩ := ret_some e
    simpa using this.symm
  | x :: xs, c, es, ds, ss, ss', h, hp, e => by
    rcases ckDs_cons h with ⟨a, e', p, es', rfl, rfl, h1, h2⟩ | ⟨hn, e', es', rfl, hp', h1, h2⟩
    · simp [notStars, plainE] at hp
    · simp only [notStars, List.all_cons, Bool.and_eq_true] at hp
      rw [evDs_cons hn] at e
      obtain ⟨d, s1, e1, f1⟩ := bnd_some e
      obtain ⟨ds', s2, e2, f2⟩ := bnd_some f1
      obtain ⟨rfl, rfl⟩ := ret_some f2
      simp [evDs_length h2 hp.2 e2]
theorem zip_eq (ms : M (List D)) (k : Nat) (h : ∀ ds ss ss', ms ss = some (ds, ss') → ds.length = k) : bnd ms zipM = lenM k ms := by
  funext ss
  unfold lenM bnd
  cases e : ms ss with
  | none => rfl
  | some p =>
    obtain ⟨ds, s⟩ := p
    simp only [h ds ss s e, if_true]
theorem rgV_RDs {K : PySem.W.Frag} {ι : List Addr} {H : Hp} (a b : Int) : RDs K ι H (rangeD a (b - a).toNat) (rgV a b) := by
  unfold rangeD rgV
  generalize (List.range (b - a).toNat) = l
  induction l with
  | nil => exact .nil
  | cons x l ih => exact .cons (.int _) ih
theorem tT.prg {m : M RV} {a : Expr} (ha : PE X a (tE g m)) : True := trivial
def rgT1 (g : G) (m : M RV) : L2.St → Hp → (Int → Int → Hp → Prop) → Prop := tRg1 (tE g m)
theorem coll_out {t : Bool} {y : Str} {x : Expr} {p pos : Pos} {te : L2.St → Hp → (Int → Int → Hp → Prop) → Prop} (G : GOk g Γ c X) (hg : c.glob (if t = true then "list" else "tuple") = true) (hp : plainE x = true) (he : PRg X x te) :
    PE X (.Call (.Name (if t = true then "list" else "tuple") p) [x] [] pos) (if t = true then tLstRg te else tTupRg te) := by
  cases t with
  | true =>
    obtain ⟨g1, g2, g3⟩ := G.gl hg
    exact pe_listRg G.calm g1 (G.blt _ (by decide +kernel)) he (starEach_plain hp)
  | false =>
    obtain ⟨g1, g2, g3⟩ := G.gl hg
    exact pe_tupRg G.calm g1 (G.blt _ (by decide +kernel)) he (starEach_plain hp)
theorem coll_fin {t : Bool} {σ : L2.St} {H : Hp} {Q : VK} {ι ι1 : List Addr} {ss s1 ss' : SS} {i j : Int} {H1 : Hp} {z : RV} (rel1 : Rel g ι1 s1 σ H1) (es1 : Es ι H (OwnA ss σ) ι1 H1 (OwnA s1 σ)) (hl : (j - i).toNat ≤ LIM)
    (f : (if t = true then ret (.new (.lst (rangeD i (j - i).toNat))) else ret (.d (.tup (rangeD i (j - i).toNat)))) s1 = some (z, ss')) (k : ∀ v ι' H', Rel g ι' ss' σ H' → RRV g ι' ss' σ H' z v → NewAt H z v → Es ι H (OwnA ss σ) ι' H' (OwnA ss' σ) → Gh (Q v) H') :
    (if t = true then ∀ q, H1 q = none → Gh (Q (.ref q)) (upd H1 q (.lst (rgV i j))) else ∀ q, H1 q = none → Gh (Q (.ref q)) (upd H1 q (.tup (rgV i j)))) := by
  cases t with
  | true =>
    simp only [if_true] at f ⊢
    obtain ⟨rfl, rfl⟩ := ret_some f
    intro q hq
    have o : Out g.K ι1 H1 (.new (.lst (rangeD i (j - i).toNat))) (.ref q) (upd H1 q (.lst (rgV i j))) := .lst hq (rgV_RDs i j)
    exact k _ ι1 _ (rel1.ext o.1) (rel1.out o).1 (.es es1 (rel1.out o).2) (es1.out o.1)
  | false =>
    simp only [Bool.false_eq_true, if_false] at f ⊢
    obtain ⟨rfl, rfl⟩ := ret_some f
    intro q hq
    have o : Out g.K ι1 H1 (.d (.tup (rangeD i (j - i).toNat))) (.ref q) (upd H1 q (.tup (rgV i j))) := .tup hq (rgV_RDs i j)
    exact k _ ι1 _ (rel1.ext o.1) (rel1.out o).1 .d (es1.out o.1)
theorem lim24 : LIM ≤ 2 ^ 24 := by decide
theorem coll_range1 {t : Bool} {a : E} {x : Expr} {p p2 pos pos2 : Pos} (G : GOk g Γ c X) (hg : c.glob (if t = true then "list" else "tuple") = true) (k1 : Gl X "range") (ha : PE X x (tE g (ev Γ a))) (hp : plainE (.Call (.Name "range" p2) [x] [] pos2) = true) (hp1 : plainE x = true) :
    PE X (.Call (.Name (if t = true then "list" else "tuple") p) [.Call (.Name "range" p2) [x] [] pos2] [] pos) (tE g (ev Γ (.coll t (.range [a])))) := by
  have key := coll_out (t := t) (y := "") (p := p) (pos := pos) G hg hp (prg_1 (p := p2) (pos := pos2) k1 (G.blt _ (by decide +kernel)) ha (starEach_plain hp1))
  refine key.to fun σ H Q ⟨ι, ss, z, ss', rel, e, k⟩ => .here ?_
  rw [ev, evI, evs, evs] at e
  obtain ⟨ds, s1, e1, f1⟩ := bnd_some e
  obtain ⟨rs, s2, e2, f2⟩ := bnd_some e1
  obtain ⟨as, s3, e3, f3⟩ := bnd_some f2
  obtain ⟨r, s4, e4, f4⟩ := bnd_some e2
  obtain ⟨r0, s5, e5, f5⟩ := bnd_some f4
  obtain ⟨rfl, rfl⟩ := ret_some e5
  obtain ⟨rfl, rfl⟩ := ret_some f5
  obtain ⟨h3, rfl⟩ := rsvs_some e3
  obtain ⟨h5, rfl⟩ := opt_some f3
  have core : (tE g (ev Γ a)) σ H fun v H1 => ∃ n, v = .int n ∧ (RgOk 0 n ∧ (if t = true then ∀ q, H1 q = none → Gh (Q (.ref q)) (upd H1 q (.lst (rgV 0 n))) else ∀ q, H1 q = none → Gh (Q (.ref q)) (upd H1 q (.tup (rgV 0 n))))) := by
    refine ⟨ι, ss, r, _, rel, e4, fun v ι1 H1 rel1 rv1 _ es1 => .here ?_⟩
    have hr := resAll_rra rel1 (.cons rv1 .nil) h3
    unfold rangeI at h5
    split at h5
    · rename_i j
      split at h5
      · rename_i hj
        cases h5
        obtain ⟨w, ew, hw⟩ := pair1 hr
        cases ew
        obtain ⟨j1, j2⟩ := small62_of hj
        split at f1
        · rename_i hl
          rw [rangeD_length] at hl
          have e0 : j.toNat = (j - 0).toNat := by rw [Int.sub_zero]
          refine ⟨j, RD.inv_int hw, ⟨by decide, by decide, j1, j2, by rw [Int.sub_zero]; exact Nat.le_trans hl lim24⟩, ?_⟩
          rw [e0] at f1 hl
          exact coll_fin rel1 es1 hl f1 k
        · cases f1
      · cases h5
    · have := hr.length; simp at this
    · cases h5
  cases t with
  | true => exact core
  | false => exact core
theorem coll_range2 {t : Bool} {a b : E} {x y : Expr} {p p2 pos pos2 : Pos} (G : GOk g Γ c X) (hg : c.glob (if t = true then "list" else "tuple") = true) (k1 : Gl X "range") (ha : PE X x (tE g (ev Γ a))) (hb : PE X y (tE g (ev Γ b))) (hp : plainE (.Call (.Name "range" p2) [x, y] [] pos2) = true) (hp1 : plainE x = true) (hp2 : plainE y = true) :
    PE X (.Call (.Name (if t = true then "list" else "tuple") p) [.Call (.Name "range" p2) [x, y] [] pos2] [] pos) (tE g (ev Γ (.coll t (.range [a, b])))) := by
  have hs2 := starEach_plain (env := X.env) (es := []) hp2
  have key := coll_out (t := t) (y := "") (p := p) (pos := pos) G hg hp (prg_2 (p := p2) (pos := pos2) k1 (G.blt _ (by decide +kernel)) ha hb (starEach_plain hp1) hs2 (noStars_plain (by simp only [notStars, List.all_cons, List.all_nil, Bool.and_true]; exact hp2)))
  refine key.to fun σ H Q ⟨ι, ss, z, ss', rel, e, k⟩ => .here ?_
  rw [ev, evI, evs, evs, evs] at e
  obtain ⟨ds, s1, e1, f1⟩ := bnd_some e
  obtain ⟨rs, s2, e2, f2⟩ := bnd_some e1
  obtain ⟨as, s3, e3, f3⟩ := bnd_some f2
  obtain ⟨r, s4, e4, f4⟩ := bnd_some e2
  obtain ⟨r0, s5, e5, f5⟩ := bnd_some f4
  obtain ⟨r', s6, e6, f6⟩ := bnd_some e5
  obtain ⟨r1, s7, e7, f7⟩ := bnd_some f6
  obtain ⟨rfl, rfl⟩ := ret_some e7
  obtain ⟨rfl, rfl⟩ := ret_some f7
  obtain ⟨rfl, rfl⟩ := ret_some f5
  obtain ⟨h3, rfl⟩ := rsvs_some e3
  obtain ⟨h5, rfl⟩ := opt_some f3
  have core : (tE g (ev Γ a)) σ H fun v H1 => (tE g (ev Γ b)) σ H1 fun w H2 => ∃ m n, v = .int m ∧ w = .int n ∧ (RgOk m n ∧ (if t = true then ∀ q, H2 q = none → Gh (Q (.ref q)) (upd H2 q (.lst (rgV m n))) else ∀ q, H2 q = none → Gh (Q (.ref q)) (upd H2 q (.tup (rgV m n))))) := by
    refine ⟨ι, ss, r, _, rel, e4, fun v ι1 H1 rel1 rv1 _ es1 => .here ⟨ι1, s4, r', _, rel1, e6, fun w ι2 H2 rel2 rv2 _ es2 => .here ?_⟩⟩
    have hr := resAll_rra rel2 (.cons (rv1.es es2) (.cons rv2 .nil)) h3
    unfold rangeI at h5
    split at h5
    · have := hr.length; simp at this
    · rename_i i j
      split at h5
      · rename_i hj
        cases h5
        obtain ⟨v1, w1, ew, hv, hw⟩ := pair2 hr
        cases ew
        simp only [Bool.and_eq_true] at hj
        obtain ⟨j1, j2⟩ := small62_of hj.1
        obtain ⟨j3, j4⟩ := small62_of hj.2
        split at f1
        · rename_i hl
          rw [rangeD_length] at hl
          exact ⟨i, j, RD.inv_int hv, RD.inv_int hw, ⟨j1, j2, j3, j4, Nat.le_trans hl lim24⟩, coll_fin rel2 (es1.trans es2) hl f1 k⟩
        · cases f1
      · cases h5
    · cases h5
  cases t with
  | true => exact core
  | false => exact core
theorem coll_zip {xs : List E} {es : List Expr} {p p2 pos pos2 : Pos} (G : GOk g Γ c X) (g1 : Gl X "list") (k1 : Gl X "zip") (hxs : ckDs xs c es = true) (hst : notStars es = true) (hl : es.length = 2 ∨ es.length = 3) (ha : PA X es (tDs g (evDs Γ xs))) :
    PE X (.Call (.Name "list" p) [.Call (.Name "zip" p2) es [] pos2] [] pos) (tE g (ev Γ (.coll true (.zip xs)))) := by
  have hml : X.mg "list" = none := G.blt _ (by decide +kernel)
  have hmz : X.mg "zip" = none := G.blt _ (by decide +kernel)
  have e1 : evI Γ (.zip xs) = bnd (evDs Γ xs) zipM := by rw [evI]; rfl
  rw [ev, e1, zip_eq (evDs Γ xs) es.length fun ds ss ss' e => evDs_length hxs hst e]
  cases es with
  | nil => simp at hl
  | cons a es =>
    cases es with
    | nil => simp at hl
    | cons b es =>
      simp only [notStars, List.all_cons, Bool.and_eq_true] at hst
      cases es with
      | nil => exact pe_lz2E G.K G.calm g1 hml k1 hmz ha (starEach_plain hst.1) (noStars_plain (by simp only [notStars, List.all_cons, Bool.and_eq_true]; exact hst.2))
      | cons d es =>
        have he : es = [] := List.eq_nil_of_length_eq_zero (by simp only [List.length_cons] at hl; omega)
        subst he
        exact pe_lz3E G.K G.calm g1 hml k1 hmz ha (starEach_plain hst.1) (noStars_plain (by have := hst.2; simp only [List.all_cons, Bool.and_eq_true] at this; simp only [notStars, List.all_cons, Bool.and_eq_true]; exact this))
theorem ckTl_plain {t : T} {ts : List T} {c : SC} {es : List Expr} (h : ckTl (t :: ts) c es = true) : ∃ e es', es = e :: es' ∧ plainE e = true ∧ ckT t c e = true ∧ ckTl ts c es' = true := by
  unfold ckTl at h
  split at h
  · simp only [Bool.and_eq_true] at h
    exact ⟨_, _, rfl, h.1.1, h.1.2, h.2⟩
  · cases h
theorem ckTl_each : ∀ {ts : List T} {c : SC} {es : List Expr} {env : Env}, ckTl ts c es = true → (assignEach es env).length = ts.length ∧ (assignEach es env).findIdx? (·.1) = none
  | [], c, es, env, h => by
    unfold ckTl at h
    cases es with
    | nil => exact ⟨rfl, rfl⟩
    | cons e es => cases h
  | t :: ts, c, es, env, h => by
    obtain ⟨e, es', rfl, hp, _, h2⟩ := ckTl_plain h
    obtain ⟨h3, h4⟩ := ckTl_each (env := env) h2
    rw [asgEach_plain hp]
    exact ⟨by simp [h3], by simp [List.findIdx?_cons, h4]⟩
mutual
theorem ev_ok : ∀ (ir : E) (c : SC) (e : Expr), ckE ir c e = true → ∀ X, GOk g Γ c X → PE X e (tE g (ev Γ ir))
  | .c d, c, e, h, X, G => by
    unfold ckE at h
    split at h
    · obtain ⟨v, h1, h2⟩ := ckC_ok h
      exact pe_cE h1 h2
    · cases h
  | .v i, c, e, h, X, G => by
    unfold ckE at h
    split at h
    · obtain ⟨h1, h2, h3, h4⟩ := G.vis h
      exact pe_vE (pe_var h1 h2 h3 h4)
    · cases h
  | .g x, c, e, h, X, G => by
    unfold ckE at h
    split at h
    · simp only [Bool.and_eq_true, decide_eq_true_eq] at h
      obtain ⟨rfl, hg⟩ := h
      obtain ⟨g1, g2, g3⟩ := G.gl hg
      rw [ev]
      cases hc : Γ.con _ with
      | none => exact pe_fail fun ss => rfl
      | some d =>
        obtain ⟨v, u, h1, h2, h3⟩ := G.con _ d hc
        exact pe_cE (pe_glob g1 h1 h2 g2) h3
    · cases h
  | .bin o a b, c, e, h, X, G => by
    unfold ckE at h
    split at h
    · simp only [Bool.and_eq_true, decide_eq_true_eq] at h
      obtain ⟨⟨rfl, ha⟩, hb⟩ := h
      rw [ev]
      exact pe_binE G.K _ (ev_ok a c _ ha X G) (ev_ok b c _ hb X G)
    · cases h
  | .neg a, c, e, h, X, G => by
    unfold ckE at h
    split at h
    · rw [ev]
      exact pe_negE (ev_ok a c _ h X G)
    · cases h
  | .not a, c, e, h, X, G => by
    unfold ckE at h
    split at h
    · rw [ev]
      exact pe_notE G.K (ev_ok a c _ h X G)
    · cases h
  | .and a b, c, e, h, X, G => by
    unfold ckE at h
    split at h
    · simp only [Bool.and_eq_true] at h
      rw [ev]
      exact pe_andE (ev_ok a c _ h.1 X G) (pe_one (ev_ok b c _ h.2 X G))
    · simp only [Bool.and_eq_true] at h
      rw [ev]
      exact pe_andE (ev_ok a c _ h.1 X G) (ev_ok b c _ h.2 X G)
    · cases h
  | .or a b, c, e, h, X, G => by
    unfold ckE at h
    split at h
    · simp only [Bool.and_eq_true] at h
      rw [ev]
      exact pe_orE (ev_ok a c _ h.1 X G) (pe_one (ev_ok b c _ h.2 X G))
    · simp only [Bool.and_eq_true] at h
      rw [ev]
      exact pe_orE (ev_ok a c _ h.1 X G) (ev_ok b c _ h.2 X G)
    · cases h
  | .cmp o a b, c, e, h, X, G => by
    unfold ckE at h
    split at h
    · simp only [Bool.and_eq_true, decide_eq_true_eq] at h
      obtain ⟨⟨⟨rfl, ha⟩, hb⟩, hp⟩ := h
      rw [ev]
      exact pe_cmpE G.K (by have := G.un; omega) _ (ev_ok a c _ ha X G) (ev_ok b c _ hb X G) (marks_plain hp)
    · cases h
  | .chn o p a b d, c, e, h, X, G => by
    unfold ckE at h
    split at h
    · simp only [Bool.and_eq_true, decide_eq_true_eq] at h
      obtain ⟨⟨⟨⟨⟨rfl, rfl⟩, ha⟩, hb⟩, hd⟩, hp⟩ := h
      rw [ev]
      exact pe_chnE G.K (by have := G.un; omega) _ _ (ev_ok a c _ ha X G) (ev_ok b c _ hb X G) (ev_ok d c _ hd X G) (last_plain hp)
    · cases h
  | .ite t a b, c, e, h, X, G => by
    unfold ckE at h
    split at h
    · simp only [Bool.and_eq_true] at h
      rw [ev]
      exact pe_iteE (evT_ok t c _ h.1.1 X G) (ev_ok a c _ h.1.2 X G) (ev_ok b c _ h.2 X G)
    · cases h
  | .tup xs, c, e, h, X, G => by
    unfold ckE at h
    split at h
    · rw [ev]
      exact pe_tupE (evDs_ok xs c _ h X G)
    · cases h
  | .lst xs, c, e, h, X, G => by
    unfold ckE at h
    split at h
    · rw [ev]
      exact pe_lstE (evDs_ok xs c _ h X G)
    · cases h
  | .star _, c, e, h, X, G => by unfold ckE at h; cases h
  | .idx a b, c, e, h, X, G => by
    unfold ckE at h
    split at h
    · simp only [Bool.and_eq_true] at h
      rw [ev]
      exact pe_idxE G.K (ev_ok a c _ h.1.1 X G) (ev_ok b c _ h.1.2 X G) (ix_plain h.2)
    · cases h
  | .slc a lo hi, c, e, h, X, G => by
    unfold ckE at h
    split at h
    · rename_i x l u p1 p2
      simp only [Bool.and_eq_true] at h
      obtain ⟨⟨ha, hl⟩, hu⟩ := h
      rw [ev]
      refine pe_slcE G.K (ev_ok a c _ ha X G) ?_ ?_
      · cases l with
        | none =>
          cases lo <;> first | exact po_na | cases hl
        | some l =>
          refine po_E (fun e => ?_) (ev_ok lo c _ hl X G)
          subst e; unfold ckE at hl; cases hl
      · cases u with
        | none =>
          cases hi <;> first | exact po_na | cases hu
        | some u =>
          refine po_E (fun e => ?_) (ev_ok hi c _ hu X G)
          subst e; unfold ckE at hu; cases hu
    · cases h
  | .na, c, e, h, X, G => by unfold ckE at h; cases h
  | .call f xs, c, e, h, X, G => call_case h X G (fun es h => evDs_ok xs c es h X G) (match xs with
    | [] => fun _ e => nomatch e
    | _ :: _ :: _ => fun _ e => nomatch e
    | [x] => match x with
      | .star z => fun _ ez e h => by cases ez; exact ev_ok z c e h X G
      | .c _ | .v _ | .g _ | .bin .. | .neg _ | .not _ | .and .. | .or .. | .cmp .. | .chn .. | .ite .. | .tup _ | .lst _ | .idx .. | .slc .. | .na | .call .. | .bi .. | .mt .. | .lc .. | .heap _ | .coll .. | .rev _ => fun _ ea => nomatch ea)
  | .bi f xs, c, e, h, X, G => bi_case h X G (fun es h => evs_ok xs c es h X G) (match xs with
    | [] => fun _ e => nomatch e
    | _ :: _ :: _ => fun _ e => nomatch e
    | [x] => fun _ ez e h => by cases ez; exact ev_ok x c e h X G)
  | .mt m o xs, c, e, h, X, G => by
    unfold ckE at h
    split at h
    · rename_i x nm apos es pos
      simp only [Bool.and_eq_true, decide_eq_true_eq, Bool.not_eq_true'] at h
      obtain ⟨⟨⟨⟨⟨⟨⟨rfl, ho⟩, hc⟩, hxs⟩, hst⟩, hlen⟩, hline⟩, hm⟩ := h
      have e1 : ev Γ (.mt m o xs) = bnd (ev Γ o) fun r => bnd (kindM m r) fun _ => bnd (evDs Γ xs) fun ds => mtM m r ds := by rw [ev]; rfl
      rw [e1]
      have hm' : m.basic = true := by cases m <;> first | rfl | cases hm
      cases es with
      | nil =>
        have hl := ckDs_length hxs
        have hx : xs = [] := List.eq_nil_of_length_eq_zero hl.symm
        subst hx
        rw [evDs]
        exact mt_call0 G hm' (ev_ok o c _ ho X G) hc hline
      | cons a es => exact mt_call G hm' (ev_ok o c _ ho X G) hc (evDs_ok xs c _ hxs X G) hst hlen hline
    · cases h
  | .lc own t it ifs elt, c, e, h, X, G => by
    unfold ckE at h
    split at h
    · rename_i el tg iter fs z scope pos
      simp only [Bool.and_eq_true, decide_eq_true_eq] at h
      obtain ⟨⟨⟨⟨⟨⟨⟨⟨⟨rfl, hown⟩, hblk⟩, hi⟩, hpi⟩, ht⟩, hel⟩, hts⟩, hfl⟩, hsl⟩ := h
      have e1 : ev Γ (.lc own t it ifs elt) = lcM own (evI Γ it) (turnM (asgT Γ t) (evTs Γ ifs) (bnd (ev Γ elt) esc)) := by
        rw [ev]
        unfold lcM turnM
        simp only [bnd_assoc]
        all_goals rfl
      rw [e1]
      have ok : BlkOk X.N X.env.scope scope (ownP c.N own) := by rw [G.N, G.sc]; exact blkOk_by hblk
      have key := pe_lcE (g := g) (pos := pos) (own := ownP c.N own) (elt := el) (tg := tg) (iter := iter) (ifs := fs) G.calm (by rw [G.N]; exact G.nd) (evI_ok it c tg iter hi X G) ok (fun s H C cl fp => asgT_ok t (c.blk scope) tg ht _ (G.blk s H scope C cl fp)) (fun s H C cl fp => evTs_ok ifs (c.blk scope) fs hts hfl _ (G.blk s H scope C cl fp))
        (fun s H C cl fp => pe_escE (ev_ok elt (c.blk scope) el hel _ (G.blk s H scope C cl fp))) (fold_plain hpi) (ownP_sub hsl hown)
      rw [hown] at key
      exact key
    · cases h
  | .heap a, c, e, h, X, G => by
    unfold ckE at h
    have e1 : ev Γ (.heap a) = bnd (ev Γ a) heapM := by
      rw [ev]
      rfl
    rw [e1]
    exact pe_heapE (ev_ok a c _ h X G)
  | .coll t it, c, e, h, X, G => by
    unfold ckE at h
    split at h
    · rename_i y p x pos
      simp only [Bool.and_eq_true, decide_eq_true_eq] at h
      obtain ⟨⟨⟨rfl, hg⟩, hp⟩, hc⟩ := h
      obtain ⟨g1, g2, g3⟩ := G.gl hg
      cases it with
      | range xs =>
        unfold ckC at hc
        split at hc
        · rename_i y2 p2 es pos2
          split at hc
          · rename_i a x1
            simp only [Bool.and_eq_true, decide_eq_true_eq] at hc
            obtain ⟨⟨⟨rfl, hg2⟩, ha⟩, hp1⟩ := hc
            obtain ⟨k1, k2, k3⟩ := G.gl hg2
            exact coll_range1 G hg k1 (ev_ok a c _ ha X G) hp hp1
          · rename_i a b x1 z1
            simp only [Bool.and_eq_true, decide_eq_true_eq] at hc
            obtain ⟨⟨⟨⟨⟨rfl, hg2⟩, ha⟩, hb⟩, hp1⟩, hp2⟩ := hc
            obtain ⟨k1, k2, k3⟩ := G.gl hg2
            exact coll_range2 G hg k1 (ev_ok a c _ ha X G) (ev_ok b c _ hb X G) hp hp1 hp2
          · cases hc
        · cases hc
      | of a => unfold ckC at hc; cases hc
      | enum a => unfold ckC at hc; cases hc
      | zip xs =>
        have hD := fun es h => evDs_ok xs c es h X G
        unfold ckC at hc
        split at hc
        · rename_i y2 p2 es pos2
          simp only [Bool.and_eq_true, decide_eq_true_eq] at hc
          obtain ⟨⟨⟨⟨⟨rfl, rfl⟩, hg2⟩, hxs⟩, hst⟩, hl⟩ := hc
          obtain ⟨k1, k2, k3⟩ := G.gl hg2
          exact coll_zip G g1 k1 hxs hst hl (hD es hxs)
        · cases hc
    · cases h
  | .rev a, c, e, h, X, G => by
    unfold ckE at h
    split at h
    · rw [ev]
      exact pe_revE G.K (ev_ok a c _ h X G)
    · cases h
theorem evT_ok : ∀ (ir : E) (c : SC) (e : Expr), ckE ir c e = true → ∀ X, GOk g Γ c X → PT X e (tT g (evT Γ ir))
  | .c d, c, e, h, X, G => by
    unfold ckE at h
    split at h
    · obtain ⟨v, h1, h2⟩ := ckC_ok h
      rw [evT]
      exact pt_truE G.K (pe_cE h1 h2) (isTrue_plain' trivial)
    · cases h
  | .v i, c, e, h, X, G => by
    unfold ckE at h
    split at h
    · obtain ⟨h1, h2, h3, h4⟩ := G.vis h
      rw [evT]
      exact pt_truE G.K (pe_vE (pe_var h1 h2 h3 h4)) (isTrue_plain' trivial)
    · cases h
  | .not a, c, e, h, X, G => by
    unfold ckE at h
    split at h
    · rw [evT]
      exact pt_notE (evT_ok a c _ h X G)
    · cases h
  | .and a b, c, e, h, X, G => by
    unfold ckE at h
    split at h
    · simp only [Bool.and_eq_true] at h
      rw [evT]
      exact pt_andE (evT_ok a c _ h.1 X G) (pt_and1 (evT_ok b c _ h.2 X G))
    · simp only [Bool.and_eq_true] at h
      rw [evT]
      exact pt_andE (evT_ok a c _ h.1 X G) (evT_ok b c _ h.2 X G)
    · cases h
  | .or a b, c, e, h, X, G => by
    unfold ckE at h
    split at h
    · simp only [Bool.and_eq_true] at h
      rw [evT]
      exact pt_orE (evT_ok a c _ h.1 X G) (pt_or1 (evT_ok b c _ h.2 X G))
    · simp only [Bool.and_eq_true] at h
      rw [evT]
      exact pt_orE (evT_ok a c _ h.1 X G) (evT_ok b c _ h.2 X G)
    · cases h
  | .cmp o a b, c, e, h, X, G => by
    unfold ckE at h
    split at h
    · simp only [Bool.and_eq_true, decide_eq_true_eq] at h
      obtain ⟨⟨⟨rfl, ha⟩, hb⟩, hp⟩ := h
      rw [evT]
      exact pt_cmpE G.K (by have := G.un; omega) _ (ev_ok a c _ ha X G) (ev_ok b c _ hb X G) (marks_plain hp)
    · cases h
  | .chn o p a b d, c, e, h, X, G => by
    unfold ckE at h
    split at h
    · simp only [Bool.and_eq_true, decide_eq_true_eq] at h
      obtain ⟨⟨⟨⟨⟨rfl, rfl⟩, ha⟩, hb⟩, hd⟩, hp⟩ := h
      rw [evT]
      exact pt_chnE G.K (by have := G.un; omega) _ _ (ev_ok a c _ ha X G) (ev_ok b c _ hb X G) (ev_ok d c _ hd X G) (last_plain hp)
    · cases h
  | .ite t a b, c, e, h, X, G => by
    unfold ckE at h
    split at h
    · simp only [Bool.and_eq_true] at h
      rw [evT]
      exact pt_iteE (evT_ok t c _ h.1.1 X G) (evT_ok a c _ h.1.2 X G) (evT_ok b c _ h.2 X G)
    · cases h
  | .call f xs, c, e, h, X, G => by
    have key := call_case h X G (fun es h => evDs_ok xs c es h X G) (match xs with
      | [] => fun _ e => nomatch e
      | _ :: _ :: _ => fun _ e => nomatch e
      | [x] => match x with
        | .star z => fun _ ez e h => by cases ez; exact ev_ok z c e h X G
        | .c _ | .v _ | .g _ | .bin .. | .neg _ | .not _ | .and .. | .or .. | .cmp .. | .chn .. | .ite .. | .tup _ | .lst _ | .idx .. | .slc .. | .na | .call .. | .bi .. | .mt .. | .lc .. | .heap _ | .coll .. | .rev _ => fun _ ea => nomatch ea)
    have e1 : evT Γ (.call f xs) = bnd (ev Γ (.call f xs)) fun x => bnd (rsv x) fun p => opt (truth p) := by
      rw [evT, ev, bnd_assoc]
    rw [e1]
    unfold ckE at h
    split at h
    · exact pt_truE G.K key (isTrue_plain' trivial)
    · cases h
  | .bi f xs, c, e, h, X, G => by
    have key := bi_case h X G (fun es h => evs_ok xs c es h X G) (match xs with
      | [] => fun _ e => nomatch e
      | _ :: _ :: _ => fun _ e => nomatch e
      | [x] => fun _ ez e h => by cases ez; exact ev_ok x c e h X G)
    have e1 : evT Γ (.bi f xs) = bnd (ev Γ (.bi f xs)) fun x => bnd (rsv x) fun p => opt (truth p) := by
      rw [evT, ev]; simp only [bnd_assoc]
    rw [e1]
    unfold ckE at h
    split at h
    · exact pt_truE G.K key (isTrue_plain' trivial)
    · cases h
  | .g _, _, _, _, _, _ => pt_fail fun _ => rfl
  | .bin .., _, _, _, _, _ => pt_fail fun _ => rfl
  | .neg .., _, _, _, _, _ => pt_fail fun _ => rfl
  | .tup .., _, _, _, _, _ => pt_fail fun _ => rfl
  | .lst .., _, _, _, _, _ => pt_fail fun _ => rfl
  | .star .., _, _, _, _, _ => pt_fail fun _ => rfl
  | .idx .., _, _, _, _, _ => pt_fail fun _ => rfl
  | .slc .., _, _, _, _, _ => pt_fail fun _ => rfl
  | .na, _, _, _, _, _ => pt_fail fun _ => rfl
  | .mt .., _, _, _, _, _ => pt_fail fun _ => rfl
  | .lc .., _, _, _, _, _ => pt_fail fun _ => rfl
  | .heap .., _, _, _, _, _ => pt_fail fun _ => rfl
  | .coll .., _, _, _, _, _ => pt_fail fun _ => rfl
  | .rev .., _, _, _, _, _ => pt_fail fun _ => rfl
theorem evDs_ok : ∀ (xs : List E) (c : SC) (es : List Expr), ckDs xs c es = true → ∀ X, GOk g Γ c X → PA X es (tDs g (evDs Γ xs))
  | [], c, es, h, X, G => by
    unfold ckDs at h
    cases es with
    | nil => rw [evDs]; exact pa_nilD
    | cons e es => cases h
  | x :: xs, c, es, h, X, G => by
    have hx := fun e h => ev_ok x c e h X G
    have hxs := fun es h => evDs_ok xs c es h X G
    have hz : ∀ a, x = .star a → ∀ e, ckE a c e = true → PE X e (tE g (ev Γ a)) := match x with
      | .star z => fun a ea e h => by cases ea; exact ev_ok z c e h X G
      | .c _ | .v _ | .g _ | .bin .. | .neg _ | .not _ | .and .. | .or .. | .cmp .. | .chn .. | .ite .. | .tup _ | .lst _ | .idx .. | .slc .. | .na | .call .. | .bi .. | .mt .. | .lc .. | .heap _ | .coll .. | .rev _ => fun a ea => nomatch ea
    rcases ckDs_cons h with ⟨a, e, p, es', rfl, rfl, h1, h2⟩ | ⟨hn, e, es', rfl, hp, h1, h2⟩
    · rw [evDs]
      exact pa_starD G.K (hz a rfl e h1) (hxs es' h2)
    · rw [evDs_cons hn]
      exact pa_consD (pe_escE (hx e h1)) (hxs es' h2) (starEach_plain hp)
theorem evs_ok : ∀ (xs : List E) (c : SC) (es : List Expr), ckRs xs c es = true → ∀ X, GOk g Γ c X → PA X es (tRs g (evs Γ xs))
  | [], c, es, h, X, G => by
    unfold ckRs at h
    cases es with
    | nil => rw [evs]; exact pa_nilR
    | cons e es => cases h
  | x :: xs, c, es, h, X, G => by
    unfold ckRs at h
    split at h
    · simp only [Bool.and_eq_true] at h
      rw [evs]
      exact pa_consR (ev_ok x c _ h.1.2 X G) (evs_ok xs c _ h.2 X G) (starEach_plain h.1.1)
    · cases h
theorem evTs_ok : ∀ (xs : List E) (c : SC) (es : List Expr), ckTs xs c es = true → es.length ≤ 1 → ∀ X, GOk g Γ c X → PTs X es (tT g (evTs Γ xs))
  | [], c, es, h, hl, X, G => by
    unfold ckTs at h
    cases es with
    | nil =>
      rw [evTs]
      exact pts_nil.to fun σ H Q ⟨ι, ss, z, ss', rel, e, k⟩ => .here (by obtain ⟨rfl, rfl⟩ := ret_some e; exact k ι H rel .refl)
    | cons e es => cases h
  | x :: xs, c, es, h, hl, X, G => by
    unfold ckTs at h
    split at h
    · rename_i e es'
      simp only [Bool.and_eq_true] at h
      have he : es' = [] := List.eq_nil_of_length_eq_zero (by simpa using hl)
      subst he
      have hx : xs = [] := by
        have h2 := h.2
        cases xs with
        | nil => rfl
        | cons y ys => unfold ckTs at h2; cases h2
      subst hx
      rw [evTs, evTs, bnd_ite_ret]
      exact pts_one (evT_ok x c _ h.1 X G)
    · cases h
theorem evI_ok : ∀ (it : I) (c : SC) (tg e : Expr), ckI it c tg e = true → ∀ X, GOk g Γ c X → PI X tg e (tI g (evI Γ it))
  | .of a, c, tg, e, h, X, G => by
    unfold ckI at h
    have e1 : evI Γ (.of a) = bnd (bnd (ev Γ a) esc) ofM := by rw [evI, bnd_assoc]; rfl
    rw [e1]
    exact pi_ofE G.K (pe_escE (ev_ok a c _ h X G))
  | .range xs, c, tg, e, h, X, G => by
    unfold ckI at h
    split at h
    · rename_i y p es pos
      simp only [Bool.and_eq_true, decide_eq_true_eq] at h
      obtain ⟨⟨⟨⟨rfl, hg⟩, hxs⟩, hst⟩, hl⟩ := h
      obtain ⟨g1, g2, g3⟩ := G.gl hg
      have hm : X.mg "range" = none := G.blt _ (by decide +kernel)
      have ha := evs_ok xs c es hxs X G
      have hlen := ckRs_length hxs
      rw [evI]
      cases es with
      | nil => simp at hl
      | cons a es =>
        cases es with
        | nil =>
          rw [range_eq (evs Γ xs) 1 (fun rs ss ss' as e1 e2 => by rw [resAll_length e2, evs_length e1, ← hlen]; rfl)]
          simp only [notStars, List.all_cons, Bool.and_eq_true] at hst
          exact pi_range1E g1 hm ha (starEach_plain hst.1)
        | cons b es =>
          have he : es = [] := List.eq_nil_of_length_eq_zero (by simp only [List.length_cons] at hl; omega)
          subst he
          rw [range_eq (evs Γ xs) 2 (fun rs ss ss' as e1 e2 => by rw [resAll_length e2, evs_length e1, ← hlen]; rfl)]
          simp only [notStars, List.all_cons, Bool.and_eq_true] at hst
          have hs2 := starEach_plain (env := X.env) (es := []) hst.2.1
          exact pi_range2E g1 hm ha ((starEach_plain hst.1).trans (by rw [hs2]; rfl)) hs2
    · cases h
  | .enum a, c, tg, e, h, X, G => by
    unfold ckI at h
    split at h
    · simp only [Bool.and_eq_true, decide_eq_true_eq] at h
      obtain ⟨⟨⟨rfl, hg⟩, ha⟩, hp⟩ := h
      obtain ⟨g1, g2, g3⟩ := G.gl hg
      have e1 : evI Γ (.enum a) = bnd (bnd (ev Γ a) esc) enM := by rw [evI, bnd_assoc]; rfl
      rw [e1]
      exact pi_enumE G.K g1 (G.blt _ (by decide +kernel)) (pe_escE (ev_ok a c _ ha X G)) (starEach_plain hp)
    · cases h
  | .zip xs, c, tg, e, h, X, G => by
    unfold ckI at h
    split at h
    · rename_i y p es pos el k tp
      simp only [Bool.and_eq_true, decide_eq_true_eq] at h
      obtain ⟨⟨⟨⟨rfl, hg⟩, hxs⟩, hst⟩, hl⟩ := h
      obtain ⟨g1, g2, g3⟩ := G.gl hg
      have hm : X.mg "zip" = none := G.blt _ (by decide +kernel)
      have ha := evDs_ok xs c es hxs X G
      have hlen := ckDs_length hxs
      have e1 : evI Γ (.zip xs) = bnd (evDs Γ xs) zipM := by rw [evI]; rfl
      rw [e1, zip_eq (evDs Γ xs) es.length fun ds ss ss' e => evDs_length hxs hst e]
      cases es with
      | nil => simp at hl
      | cons a es =>
        cases es with
        | nil => simp at hl
        | cons b es =>
          simp only [notStars, List.all_cons, Bool.and_eq_true] at hst
          cases es with
          | nil => exact pi_zip2E G.K g1 hm ha (starEach_plain hst.1) (noStars_plain (by simp only [notStars, List.all_cons, Bool.and_eq_true]; exact hst.2))
          | cons d es =>
            have he : es = [] := List.eq_nil_of_length_eq_zero (by simp only [List.length_cons] at hl; omega)
            subst he
            exact pi_zip3E G.K g1 hm ha (starEach_plain hst.1) (noStars_plain (by have := hst.2; simp only [List.all_cons, Bool.and_eq_true] at this; simp only [notStars, List.all_cons, Bool.and_eq_true]; exact this))
    · cases h
theorem asgT_ok : ∀ (t : T) (c : SC) (e : Expr), ckT t c e = true → ∀ X, GOk g Γ c X → PG X e (tG g (T.slots t) (asgT Γ t))
  | .v i, c, e, h, X, G => by
    unfold ckT at h
    split at h
    · obtain ⟨h1, h2, h3⟩ := G.loc h
      exact pg_vE (by rw [G.N]; exact G.nd) h1 h2 h3
    · cases h
  | .tup ts, c, e, h, X, G => by
    unfold ckT at h
    split at h
    · obtain ⟨h1, h2⟩ := ckTl_each (env := X.env) h
      exact pg_tupE G.K G.calm (asgTs_ok ts c _ h X G) h1 h2
    · cases h
  | .idx a b, c, e, h, X, G => by
    unfold ckT at h
    split at h
    · simp only [Bool.and_eq_true] at h
      exact pg_idxE G.K (ev_ok a c _ h.1.1 X G) (ev_ok b c _ h.1.2 X G) (asgSub_plain h.2)
    · cases h
theorem asgTs_ok : ∀ (t : List T) (c : SC) (es : List Expr), ckTl t c es = true → ∀ X, GOk g Γ c X → PGs X es (tGs g (T.slotsL t) t.length (asgTs Γ t))
  | [], c, es, h, X, G => by
    unfold ckTl at h
    cases es with
    | nil => exact pgs_nilE
    | cons e es => cases h
  | t :: ts, c, es, h, X, G => by
    have h1 := fun e h => asgT_ok t c e h X G
    have h2 := fun es h => asgTs_ok ts c es h X G
    obtain ⟨e, es', rfl, hp, q1, q2⟩ := ckTl_plain h
    rw [asgTs_eq]
    exact pgs_consE (h1 e q1) (h2 es' q2) (by rw [asgEach_plain hp]; rfl)
end
end
end Ev
end

section
set_option Elab.async false
set_option linter.all false
set_option maxRecDepth 100000
set_option maxHeartbeats 4000000
namespace Ev
open PySem PySem.Spec PyProof.Rows L2

/-! ### statements run -/
inductive Fl where
  | nx | brk | cnt | ret (x : RV)
deriving Inhabited
def loopFor (asg : D → M Unit) (body : M Fl) : List D → M Fl
  | [] => ret .nx
  | x :: xs => bnd (asg x) fun _ => bnd body fun fl => match fl with
    | .nx => loopFor asg body xs
    | .cnt => loopFor asg body xs
    | .brk => ret .nx
    | .ret x => ret (.ret x)
def loopWhl (c : M Bool) (body : M Fl) : Nat → M Fl
  | 0 => fail
  | n + 1 => bnd c fun k => if k = true then bnd body fun fl => match fl with
    | .nx => loopWhl c body n
    | .cnt => loopWhl c body n
    | .brk => ret .nx
    | .ret x => ret (.ret x) else ret .nx
def ownM (i : Nat) (r : RV) : M Fl := match r with
  | .new so => bnd (setV i (.own so)) fun _ => ret .nx
  | _ => fail
/-- what a slot is to hold -/
def asEV (b : Bool) (r : RV) : M EV := match b, r with
  | true, .new so => ret (.own so)
  | true, _ => fail
  | false, r => bnd (esc r) fun d => ret (.d d)
def par2 (i j : Nat) (bi bj : Bool) (m n : M RV) : M Fl := bnd m fun r1 => bnd n fun r2 => bnd (asEV bi r1) fun e1 => bnd (asEV bj r2) fun e2 => bnd (setV i e1) fun _ => bnd (setV j e2) fun _ => ret .nx
mutual
def exec (Γ : Gam) (n : Nat) : S → M Fl
  | .asg t e => bnd (ev Γ e) fun r => bnd (esc r) fun d => bnd (asgT Γ t d) fun _ => ret .nx
  | .own i e => bnd (ev Γ e) fun r => ownM i r
  | .par is es => match is, es with
    | [(i, bi), (j, bj)], [a, b] => par2 i j bi bj (ev Γ a) (ev Γ b)
    | _, _ => fail
  | .aug _ _ _ => fail
  | .ex e => bnd (ev Γ e) fun _ => ret .nx
  | .ret e => bnd (ev Γ e) fun r => ret (.ret r)
  | .retN => ret (.ret (.d .non))
  | .iff c a b => bnd (evT Γ c) fun k => if k = true then execs Γ n a else execs Γ n b
  | .for t it body => bnd (evI Γ it) fun items => loopFor (asgT Γ t) (execs Γ n body) items
  | .whl c body => loopWhl (evT Γ c) (execs Γ n body) n
  | .pass => ret .nx
  | .brk => ret .brk
  | .cnt => ret .cnt
  | .nev => fail
def execs (Γ : Gam) (n : Nat) : List S → M Fl
  | [] => ret .nx
  | s :: r => bnd (exec Γ n s) fun fl => match fl with
    | .nx => execs Γ n r
    | fl => ret fl
end

/-! ### readings -/
def FlE (g : G) (D : Ends) (ι : List Addr) (ss : SS) (σ : L2.St) (H : Hp) : Fl → Prop
  | .nx => Gh (D.nx σ) H
  | .brk => Gh (D.bk σ) H
  | .cnt => Gh (D.ct σ) H
  | .ret x => ∀ v, RRV g ι ss σ H x v → Gh (D.rt v) H
def tS (g : G) (m : M Fl) : TS := fun D σ H => ∃ ι ss fl ss', Rel g ι ss σ H ∧ m ss = some (fl, ss') ∧ ∀ σ' ι' H', Rel g ι' ss' σ' H' → Stp ι H ι' H' → FlE g D ι' ss' σ' H' fl
theorem FlE.gh {g : G} {D : Ends} {ι : List Addr} {ss : SS} {σ : L2.St} {H : Hp} {fl : Fl} (h : FlE g D ι ss σ H fl) : FlE g (ghD D) ι ss σ H fl := by
  cases fl with
  | nx => exact .here h
  | brk => exact .here h
  | cnt => exact .here h
  | ret x => exact fun v hv => .here (h v hv)
theorem Gh.join {Q : Hp → Prop} {H : Hp} (h : Gh (fun H => Gh Q H) H) : Gh Q H := h.bind fun _ q => q

section
variable {X : Cx} {g : G} {a b c tg : Expr} {es : List Expr} {pos : Pos} {m n l : M RV} {md : M D} {ms : M (List D)} {mt : M Bool} {st : Stmt} {sts : List Stmt} {mf mf2 : M Fl}
/-- as a value: what comes behind the ghost step -/
theorem esc_step {ι : List Addr} {ss ss' : SS} {σ : L2.St} {H : Hp} {r : RV} {v : V} {d : D} (rel : Rel g ι ss σ H) (rv : RRV g ι ss σ H r v) (e : esc r ss = some (d, ss')) :
    Gh (fun H' => Rel g ι ss' σ H' ∧ RD g.K ι H' d v ∧ Stp ι H ι H' ∧ (∀ q, OwnA ss' σ q → OwnA ss σ q) ∧ ∀ r2 v2, RRV g ι ss σ H r2 v2 → (∀ so so2, r = .new so → r2 = .new so2 → v2 ≠ v) → RRV g ι ss' σ H' r2 v2) H := by
  cases r with
  | d x =>
    obtain ⟨rfl, rfl⟩ := ret_some e
    exact .here ⟨rel, rv, .refl, fun _ q => q, fun _ _ h _ => h⟩
  | slot i =>
    have rv : σ[i]? = some (some v) := rv
    have e : (match ss.env[i]? with
      | some (some (.own (.lst ds))) => some (D.lst ds, (⟨ss.env.set i (some (.d (.lst ds))), ss.st⟩ : SS))
      | some (some (.d x)) => some (x, ss)
      | _ => none) = some (d, ss') := e
    split at e
    · rename_i ds hs
      cases e
      obtain ⟨p, h1, ⟨vs, h2, h3⟩, h4, h5⟩ := rel.own i _ hs
      rw [rv] at h1; cases h1
      refine .frz p vs h2 fun o => .here ?_
      have hop : Open (H p) := by rw [h2]; exact Open.lst
      have hstp : Stp ι H ι (upd H p (.frz o (.lst vs))) := Stp.op hop
      have hrd : RD g.K ι (upd H p (.frz o (.lst vs))) (.lst ds) (.ref p) := .lst ⟨o, upd_same⟩ (h3.mono hstp)
      have hlt : i < ss.env.length := (List.getElem?_eq_some_iff.mp hs).1
      have how : ∀ q, OwnA ⟨ss.env.set i (some (.d (.lst ds))), ss.st⟩ σ q → OwnA ss σ q := fun b hb => by
        obtain ⟨j, so, q1, q2⟩ := hb
        by_cases hj : i = j
        · subst hj
          have q1 : (ss.env.set i (some (.d (.lst ds))))[i]? = some (some (EV.own so)) := q1
          rw [List.getElem?_set_self hlt] at q1
          cases q1
        · have q1 : (ss.env.set i (some (.d (.lst ds))))[j]? = some (some (EV.own so)) := q1
          rw [List.getElem?_set_ne hj] at q1
          exact ⟨j, so, q1, q2⟩
      refine ⟨rel.setOwn (ev := .d (.lst ds)) hs rv hop hrd, hrd, hstp, how, fun r2 v2 h _ => ?_⟩
      cases r2 with
      | d x => exact RD.mono hstp h
      | slot j => exact h
      | new so =>
        obtain ⟨q, e1, e2, e3, e4, e5⟩ := h
        have hq : q ≠ p := fun e => e5 (by rw [e]; exact ⟨i, _, hs, rv⟩)
        exact ⟨q, e1, e2.mono hstp (fun u hu => by rw [upd_ne hq]; exact hu), e3, e4, fun z => e5 (how q z)⟩
    · rename_i x hs
      cases e
      obtain ⟨w, h1, h2⟩ := rel.dat i _ hs
      rw [rv] at h1; cases h1
      exact .here ⟨rel, h2, .refl, fun _ q => q, fun _ _ h _ => h⟩
    · cases e
  | new so =>
    cases so with
    | lst ds =>
      obtain ⟨rfl, rfl⟩ := ret_some e
      obtain ⟨p, rfl, ⟨vs, h2, h3⟩, h4, h5, h6⟩ := rv
      refine .frz p vs h2 fun o => .here ?_
      have hop : Open (H p) := by rw [h2]; exact Open.lst
      have hstp : Stp ι H ι (upd H p (.frz o (.lst vs))) := Stp.op hop
      have hrd : RD g.K ι (upd H p (.frz o (.lst vs))) (.lst ds) (.ref p) := .lst ⟨o, upd_same⟩ (h3.mono hstp)
      refine ⟨rel.freeze h2 h4 h5 h6 o, hrd, hstp, fun _ q => q, fun r2 v2 h hne => ?_⟩
      cases r2 with
      | d x => exact RD.mono hstp h
      | slot j => exact h
      | new so =>
        obtain ⟨q, e1, e2, e3, e4, e5⟩ := h
        have hq : q ≠ p := fun e => hne _ _ rfl rfl (by rw [e1, e])
        exact ⟨q, e1, e2.mono hstp (fun u hu => by rw [upd_ne hq]; exact hu), e3, e4, e5⟩
    | fz ds => cases e
    | dK ds => cases e
    | dT ds => cases e
/-! ### names stored -/
theorem ps_ownE {i : Nat} (h : PS X st (tAsg (tE g m) (gName i))) : PS X st (tS g (bnd m fun r => ownM i r)) := h.to fun D σ H ⟨ι, ss, fl, ss', rel, e, k⟩ => .here (by
  obtain ⟨r, s1, e1, f1⟩ := bnd_some e
  refine ⟨ι, ss, r, s1, rel, e1, fun v ι1 H1 rel1 rv1 _ es1 => ?_⟩
  cases r with
  | new so =>
    obtain ⟨u, s2, e2, f2⟩ := bnd_some (m := setV i (.own so)) f1
    obtain ⟨rfl, rfl⟩ := ret_some f2
    have e2 : (if i < s1.env.length then some ((), (⟨s1.env.set i (some (.own so)), s1.st⟩ : SS)) else none) = some (u, ss') := e2
    split at e2
    · rename_i hlt
      cases e2
      obtain ⟨p, rfl, h2⟩ := rv1
      exact .here (k (σ.set i (some (.ref p))) ι1 H1 (rel1.store (ev := .own so) (by rw [← rel1.len]; exact hlt) ⟨p, rfl, h2⟩) es1.stp)
    · cases e2
  | d x => cases f1
  | slot j => cases f1)
theorem ps_setE {i : Nat} (h : PS X st (tAsg (tE g m) (gName i))) : PS X st (tS g (bnd m fun r => bnd (esc r) fun d => bnd (setV i (.d d)) fun _ => ret .nx)) := h.to fun D σ H ⟨ι, ss, fl, ss', rel, e, k⟩ => .here (by
  obtain ⟨r, s1, e1, f1⟩ := bnd_some e
  obtain ⟨d, s2, e2, f2⟩ := bnd_some f1
  obtain ⟨u, s3, e3, f3⟩ := bnd_some f2
  obtain ⟨rfl, rfl⟩ := ret_some f3
  refine ⟨ι, ss, r, s1, rel, e1, fun v ι1 H1 rel1 rv1 _ es1 => ?_⟩
  refine (esc_step rel1 rv1 e2).mono fun H2 ⟨rel2, hd, hs, _, _⟩ => ?_
  have e3 : (if i < s2.env.length then some ((), (⟨s2.env.set i (some (.d d)), s2.st⟩ : SS)) else none) = some (u, ss') := e3
  split at e3
  · rename_i hlt
    cases e3
    exact k (σ.set i (some v)) ι1 H2 (rel2.store (ev := .d d) (by rw [← rel2.len]; exact hlt) hd) (es1.stp.trans hs)
  · cases e3)
/-- any target -/
theorem ps_asgE {sl : List Nat} {asg : D → M Unit} (h : PS X st (tAsg (tD g (bnd m esc)) (tG g sl asg))) : PS X st (tS g (bnd m fun r => bnd (esc r) fun d => bnd (asg d) fun _ => ret .nx)) := h.to fun D σ H ⟨ι, ss, fl, ss', rel, e, k⟩ => .here (by
  obtain ⟨r, s1, e1, f1⟩ := bnd_some e
  obtain ⟨d, s2, e2, f2⟩ := bnd_some f1
  obtain ⟨u, s3, e3, f3⟩ := bnd_some f2
  obtain ⟨rfl, rfl⟩ := ret_some f3
  refine ⟨ι, ss, d, s2, rel, by rw [bnd_of e1]; exact e2, fun v ι1 H1 rel1 rv1 es1 => .here ⟨ι1, s2, d, _, rel1, rv1, e3, fun σ' ι2 H2 rel2 _ _ es2 => ?_⟩⟩
  exact .here (k σ' ι2 H2 rel2 (es1.stp.trans es2.stp)))
theorem store_ev {ι : List Addr} {ss : SS} {σ : L2.St} {H : Hp} {i : Nat} {ev : EV} {v : V} (rel : Rel g ι ss σ H) (hi : i < ss.env.length) (h : match ev with
    | .own so => RRV g ι ss σ H (.new so) v
    | .d x => RD g.K ι H x v) : Rel g ι ⟨ss.env.set i (some ev), ss.st⟩ (σ.set i (some v)) H := by
  cases ev with
  | own so => exact rel.store (ev := .own so) (by rw [← rel.len]; exact hi) (by obtain ⟨p, rfl, h⟩ := h; exact ⟨p, rfl, h⟩)
  | d x => exact rel.store (ev := .d x) (by rw [← rel.len]; exact hi) h
/-- what is to be held, as it stands -/
def EVR (g : G) (ι : List Addr) (ss : SS) (σ : L2.St) (H : Hp) (ev : EV) (v : V) : Prop := match ev with
  | .own so => RRV g ι ss σ H (.new so) v
  | .d x => RD g.K ι H x v
theorem asEV_step {ι : List Addr} {ss ss' : SS} {σ : L2.St} {H : Hp} {bb : Bool} {r : RV} {v : V} {ev : EV} (rel : Rel g ι ss σ H) (rv : RRV g ι ss σ H r v) (e : asEV bb r ss = some (ev, ss')) :
    Gh (fun H' => Rel g ι ss' σ H' ∧ EVR g ι ss' σ H' ev v ∧ Stp ι H ι H' ∧ (∀ so, ev = .own so → ∃ so', r = .new so') ∧ ∀ r2 v2, RRV g ι ss σ H r2 v2 → (∀ so so2, r = .new so → r2 = .new so2 → v2 ≠ v) → RRV g ι ss' σ H' r2 v2) H := by
  cases bb with
  | true =>
    cases r with
    | new so =>
      obtain ⟨rfl, rfl⟩ := ret_some e
      exact .here ⟨rel, rv, .refl, fun so' _ => ⟨so, rfl⟩, fun _ _ h _ => h⟩
    | d x => cases e
    | slot i => cases e
  | false =>
    have e : bnd (esc r) (fun d => ret (EV.d d)) ss = some (ev, ss') := by cases r <;> exact e
    obtain ⟨d, s1, e1, f1⟩ := bnd_some e
    obtain ⟨rfl, rfl⟩ := ret_some f1
    exact (esc_step rel rv e1).mono fun H' ⟨h1, h2, h3, h4, h5⟩ => ⟨h1, h2, h3, (fun so e => nomatch e), h5⟩
theorem ps_par2E {i j : Nat} {bi bj : Bool} (hij : i ≠ j) (h : PS X st (tPar i j (tCons (tE g m) (tCons (tE g n) tNil)))) : PS X st (tS g (par2 i j bi bj m n)) := h.to fun D σ H ⟨ι, ss, fl, ss', rel, e, k⟩ => .here (by
  obtain ⟨r1, s1, e1, f1⟩ := bnd_some e
  obtain ⟨r2, s2, e2, f2⟩ := bnd_some f1
  obtain ⟨x1, s3, e3, f3⟩ := bnd_some f2
  obtain ⟨x2, s4, e4, f4⟩ := bnd_some f3
  obtain ⟨u1, s5, e5, f5⟩ := bnd_some f4
  obtain ⟨u2, s6, e6, f6⟩ := bnd_some f5
  obtain ⟨rfl, rfl⟩ := ret_some f6
  refine ⟨ι, ss, r1, s1, rel, e1, fun v ι1 H1 rel1 rv1 _ es1 => .here ⟨ι1, s1, r2, s2, rel1, e2, fun w ι2 H2 rel2 rv2 na2 es2 => ?_⟩⟩
  have rv1' := rv1.es es2
  have hne : ∀ so so2, r1 = .new so → r2 = .new so2 → w ≠ v := fun so so2 q1 q2 e => by
    subst q1 q2
    obtain ⟨p1, rfl, h1, _⟩ := rv1
    obtain ⟨o, ho⟩ := h1.there
    rw [na2 so2 p1 rfl e] at ho; cases ho
  refine (asEV_step rel2 rv1' e3).bind fun H3 ⟨rel3, ev1, st3, ow1, keep3⟩ => ?_
  have rv2' := keep3 r2 w rv2 hne
  refine (asEV_step rel3 rv2' e4).mono fun H4 ⟨rel4, ev2, st4, ow2, keep4⟩ => ?_
  have e5 : (if i < s4.env.length then some ((), (⟨s4.env.set i (some x1), s4.st⟩ : SS)) else none) = some (u1, s5) := e5
  split at e5
  · rename_i hi
    cases e5
    have e6 : (if j < (s4.env.set i (some x1)).length then some ((), (⟨(s4.env.set i (some x1)).set j (some x2), s4.st⟩ : SS)) else none) = some (u2, ss') := e6
    split at e6
    · rename_i hj
      cases e6
      have ev1' : EVR g ι2 s4 σ H4 x1 v := by
        cases x1 with
        | d x => exact RD.mono st4 ev1
        | own so =>
          obtain ⟨so', q⟩ := ow1 so rfl
          exact keep4 (.new so) v ev1 fun so1 so2 q1 _ e => hne so' so1 q q1 e.symm
      refine ⟨v, w, rfl, k _ ι2 H4 ?_ ((es1.stp.trans es2.stp).trans (st3.trans st4))⟩
      have relA := store_ev rel4 hi ev1'
      refine store_ev relA hj ?_
      cases x2 with
      | d x => exact ev2
      | own so2 =>
        obtain ⟨p2, q1, q2, q3, q4, q5⟩ := ev2
        refine ⟨p2, q1, q2, q3, q4, fun z => ?_⟩
        obtain ⟨t, so3, z1, z2⟩ := z
        have z1 : (s4.env.set i (some x1))[t]? = some (some (EV.own so3)) := z1
        by_cases ht : i = t
        · subst ht
          rw [List.getElem?_set_self hi] at z1
          rw [List.getElem?_set_self (by rw [← rel4.len]; exact hi)] at z2
          cases z1
          obtain ⟨so4, q⟩ := ow1 so3 rfl
          obtain ⟨so5, q'⟩ := ow2 so2 rfl
          refine hne so4 so5 q q' ?_
          rw [q1]
          cases z2; rfl
        · rw [List.getElem?_set_ne ht] at z1 z2
          exact q5 ⟨t, so3, z1, z2⟩
    · cases e6
  · cases e5)
/-! ### small statements -/
theorem ps_exE (h : PS X st (tDrop (tE g m))) : PS X st (tS g (bnd m fun _ => ret .nx)) := h.to fun D σ H ⟨ι, ss, fl, ss', rel, e, k⟩ => .here (by
  obtain ⟨r, s1, e1, f1⟩ := bnd_some e
  obtain ⟨rfl, rfl⟩ := ret_some f1
  exact ⟨ι, ss, r, _, rel, e1, fun v ι1 H1 rel1 _ _ es1 => .here (k σ ι1 H1 rel1 es1.stp)⟩)
theorem ps_retE (h : PE X a (tE g m)) : PS X (.Return (some a) pos) (tS g (bnd m fun r => ret (.ret r))) := (ps_ret h).to fun D σ H ⟨ι, ss, fl, ss', rel, e, k⟩ => .here (by
  obtain ⟨r, s1, e1, f1⟩ := bnd_some e
  obtain ⟨rfl, rfl⟩ := ret_some f1
  exact ⟨ι, ss, r, _, rel, e1, fun v ι1 H1 rel1 rv1 _ es1 => .here (k σ ι1 H1 rel1 es1.stp v rv1)⟩)
theorem ps_retNE : PS X (.Return none pos) (tS g (ret (.ret (.d .non)))) := ps_retN.to fun D σ H ⟨ι, ss, fl, ss', rel, e, k⟩ => .here (by
  obtain ⟨rfl, rfl⟩ := ret_some e
  exact k σ ι H rel .refl .non .non)
theorem ps_passE : PS X (.Pass pos) (tS g (ret .nx)) := ps_pass.to fun D σ H ⟨ι, ss, fl, ss', rel, e, k⟩ => .here (by
  obtain ⟨rfl, rfl⟩ := ret_some e
  exact k σ ι H rel .refl)
theorem ps_breakE : PS X (.Break pos) (tS g (ret .brk)) := ps_break.to fun D σ H ⟨ι, ss, fl, ss', rel, e, k⟩ => .here (by
  obtain ⟨rfl, rfl⟩ := ret_some e
  exact k σ ι H rel .refl)
theorem ps_contE : PS X (.Continue pos) (tS g (ret .cnt)) := ps_continue.to fun D σ H ⟨ι, ss, fl, ss', rel, e, k⟩ => .here (by
  obtain ⟨rfl, rfl⟩ := ret_some e
  exact k σ ι H rel .refl)
theorem ps_failE (h : ∀ ss, mf ss = none) : PS X st (tS g mf) := ⟨fun _ _ _ _ _ _ ⟨_, ss, _, _, _, e, _⟩ => by rw [h ss] at e; cases e⟩
/-! ### in a row -/
def seqM (m n : M Fl) : M Fl := bnd m fun fl => match fl with
  | .nx => n
  | fl => ret fl
theorem pss_nilE : PSs X [] (tS g (ret .nx)) := pss_nil.to fun D σ H ⟨ι, ss, fl, ss', rel, e, k⟩ => .here (by
  obtain ⟨rfl, rfl⟩ := ret_some e
  exact k σ ι H rel .refl)
theorem FlE.stop {D : Ends} {ι : List Addr} {ss : SS} {σ : L2.St} {H : Hp} {fl : Fl} {N : L2.St → Hp → Prop} (hn : fl ≠ .nx) (h : FlE g D ι ss σ H fl) : FlE g { D with nx := N } ι ss σ H fl := by
  cases fl with
  | nx => exact absurd rfl hn
  | brk => exact h
  | cnt => exact h
  | ret x => exact h
theorem pss_consE (h1 : PS X st (tS g mf)) (h2 : PSs X sts (tS g mf2)) : PSs X (st :: sts) (tS g (seqM mf mf2)) := (pss_cons h1 h2).to fun D σ H ⟨ι, ss, fl, ss', rel, e, k⟩ => .here (by
  obtain ⟨f, s1, e1, f1⟩ := bnd_some e
  refine ⟨ι, ss, f, s1, rel, e1, fun σ1 ι1 H1 rel1 st1 => ?_⟩
  cases f with
  | nx => exact .here ⟨ι1, s1, fl, ss', rel1, f1, fun σ2 ι2 H2 rel2 st2 => (k σ2 ι2 H2 rel2 (st1.trans st2)).gh⟩
  | brk => obtain ⟨rfl, rfl⟩ := ret_some f1; exact .here (k σ1 ι1 H1 rel1 st1)
  | cnt => obtain ⟨rfl, rfl⟩ := ret_some f1; exact .here (k σ1 ι1 H1 rel1 st1)
  | ret x => obtain ⟨rfl, rfl⟩ := ret_some f1; exact fun v hv => .here (k σ1 ι1 H1 rel1 st1 v hv))
theorem ps_ifE {xs ys : List Stmt} (hc : PT X c (tT g mt)) (ha : PSs X xs (tS g mf)) (hb : PSs X ys (tS g mf2)) : PS X (.If c xs ys pos) (tS g (bnd mt fun k => if k = true then mf else mf2)) := (ps_if hc ha hb).to fun D σ H ⟨ι, ss, fl, ss', rel, e, k⟩ => .here (by
  obtain ⟨t, s1, e1, f1⟩ := bnd_some e
  refine ⟨ι, ss, t, s1, rel, e1, fun ι1 H1 rel1 es1 => .here ?_⟩
  cases t with
  | true => exact ⟨ι1, s1, fl, ss', rel1, f1, fun σ2 ι2 H2 rel2 st2 => (k σ2 ι2 H2 rel2 (es1.stp.trans st2)).gh⟩
  | false => exact ⟨ι1, s1, fl, ss', rel1, f1, fun σ2 ι2 H2 rel2 st2 => (k σ2 ι2 H2 rel2 (es1.stp.trans st2)).gh⟩)
/-! ### loops -/
theorem loopFor_cons {asg : D → M Unit} {body : M Fl} {x : D} {xs : List D} {ss sE : SS} {fl : Fl} (h : loopFor asg body (x :: xs) ss = some (fl, sE)) :
    ∃ s1 f s2, asg x ss = some ((), s1) ∧ body s1 = some (f, s2) ∧ match f with
      | .nx => loopFor asg body xs s2 = some (fl, sE)
      | .cnt => loopFor asg body xs s2 = some (fl, sE)
      | .brk => fl = .nx ∧ sE = s2
      | .ret x => fl = .ret x ∧ sE = s2 := by
  rw [loopFor] at h
  obtain ⟨u, s1, e1, f1⟩ := bnd_some h
  obtain ⟨f, s2, e2, f2⟩ := bnd_some f1
  refine ⟨s1, f, s2, e1, e2, ?_⟩
  cases f with
  | nx => exact f2
  | cnt => exact f2
  | brk => obtain ⟨rfl, rfl⟩ := ret_some f2; exact ⟨rfl, rfl⟩
  | ret x => obtain ⟨rfl, rfl⟩ := ret_some f2; exact ⟨rfl, rfl⟩
theorem ps_forE {sl : List Nat} {mi : M (List D)} {asg : D → M Unit} {iter : Expr} {body : List Stmt} (hx : X.xe = fun _ _ => False) (hc : X.calm = true) (hi : PI X tg iter (tI g mi)) (hg : PG X tg (tG g sl asg)) (hb : PSs X body (tS g mf)) (hs : ∀ x, foldedSetIterable iter X.env x = pure x) :
    PS X (.For tg iter body [] pos) (tS g (bnd mi fun items => loopFor asg mf items)) := (ps_for (by rw [hx]; exact PassesOwn.never) hc hi hg hb hs).to fun D σ H ⟨ι, ss, fl, ss', rel, e, k⟩ => .here (by
  obtain ⟨items, s1, e1, f1⟩ := bnd_some e
  refine ⟨ι, ss, items, s1, rel, e1, fun J ι1 H1 rel1 wk es1 => .here ?_⟩
  refine ⟨fun i m σ H => ∃ ιi ssi, m = items.length - i ∧ i ≤ items.length ∧ Rel g ιi ssi σ H ∧ Stp ι1 H1 ιi H ∧ loopFor asg mf (items.drop i) ssi = some (fl, ss'), ⟨items.length, ι1, s1, by simp, Nat.zero_le _, rel1, .refl, f1⟩, ?_⟩
  rintro i m σi Hi ⟨ιi, ssi, rfl, hle, reli, sti, hl⟩
  by_cases hlt : i < items.length
  · refine .inr ⟨wk.go i ιi Hi sti hlt, fun σ' H' => ∃ ιi ssi, i + 1 ≤ items.length ∧ Rel g ιi ssi σ' H' ∧ Stp ι1 H1 ιi H' ∧ loopFor asg mf (items.drop (i + 1)) ssi = some (fl, ss'), fun σ' H' ⟨a, b, q⟩ => ⟨items.length - (i + 1), by omega, a, b, rfl, q⟩, fun x H2 hy => ?_⟩
    obtain ⟨d, hd, ext, rd⟩ := wk.yld i ιi Hi x H2 sti hlt hy
    rw [List.drop_eq_getElem_cons hlt] at hl
    have hd' : items[i] = d := by rw [List.getElem?_eq_getElem hlt] at hd; exact Option.some.inj hd
    rw [hd'] at hl
    obtain ⟨s2, f, s3, ea, eb, hrest⟩ := loopFor_cons hl
    refine ⟨ιi, ssi, d, s2, reli.ext ext, rd, ea, fun σ3 ι3 H3 rel3 _ _ es3 => .here ⟨ι3, s2, f, s3, rel3, eb, fun σ4 ι4 H4 rel4 st4 => ?_⟩⟩
    have tot : Stp ι1 H1 ι4 H4 := (sti.trans ext.stp).trans (es3.stp.trans st4)
    cases f with
    | nx => exact .here ⟨ι4, s3, hlt, rel4, tot, hrest⟩
    | cnt => exact .here ⟨ι4, s3, hlt, rel4, tot, hrest⟩
    | brk => obtain ⟨rfl, rfl⟩ := hrest; exact .here (k σ4 ι4 H4 rel4 (es1.stp.trans tot))
    | ret x => obtain ⟨rfl, rfl⟩ := hrest; exact fun v hv => .here (k σ4 ι4 H4 rel4 (es1.stp.trans tot) v hv)
  · have hie : i = items.length := by omega
    subst hie
    rw [List.drop_length, loopFor] at hl
    obtain ⟨rfl, rfl⟩ := ret_some hl
    exact .inl ⟨wk.stop ιi Hi sti, k σi ιi Hi reli (es1.stp.trans sti)⟩)
theorem ps_whlE {fuel : Nat} {body : List Stmt} (hx : X.xe = fun _ _ => False) (hc : PT X c (tT g mt)) (hb : PSs X body (tS g mf)) : PS X (.While c body [] pos) (tS g (loopWhl mt mf fuel)) := (ps_while (by rw [hx]; exact PassesOwn.never) hc hb).to fun D σ H ⟨ι, ss, fl, ss', rel, e, k⟩ => .here (by
  refine ⟨fun m σ' H' => ∃ ι' s', Rel g ι' s' σ' H' ∧ Stp ι H ι' H' ∧ loopWhl mt mf m s' = some (fl, ss'), ⟨fuel, ι, ss, rel, .refl, e⟩, ?_⟩
  rintro m σ1 H1 ⟨ι1, s1, rel1, st1, e1⟩
  cases m with
  | zero => cases e1
  | succ m =>
    rw [loopWhl] at e1
    obtain ⟨t, s2, e2, f2⟩ := bnd_some e1
    refine ⟨ι1, s1, t, s2, rel1, e2, fun ι2 H2 rel2 es2 => .here ?_⟩
    cases t with
    | false =>
      obtain ⟨rfl, rfl⟩ := ret_some f2
      exact k σ1 ι2 H2 rel2 (st1.trans es2.stp)
    | true =>
      obtain ⟨f, s3, e3, f3⟩ := bnd_some (m := mf) f2
      refine ⟨fun σ' H' => ∃ ι' s', Rel g ι' s' σ' H' ∧ Stp ι H ι' H' ∧ loopWhl mt mf m s' = some (fl, ss'), fun σ' H' q => ⟨m, Nat.lt_succ_self m, q⟩, ι2, s2, f, s3, rel2, e3, fun σ3 ι3 H3 rel3 st3 => ?_⟩
      have tot : Stp ι H ι3 H3 := (st1.trans es2.stp).trans st3
      cases f with
      | nx => exact .here ⟨ι3, s3, rel3, tot, f3⟩
      | cnt => exact .here ⟨ι3, s3, rel3, tot, f3⟩
      | brk => obtain ⟨rfl, rfl⟩ := ret_some f3; exact .here (k σ3 ι3 H3 rel3 tot)
      | ret x => obtain ⟨rfl, rfl⟩ := ret_some f3; exact fun v hv => .here (k σ3 ι3 H3 rel3 tot v hv))
end
end Ev
end

section
set_option Elab.async false
set_option linter.all false
set_option maxRecDepth 100000
set_option maxHeartbeats 4000000
namespace Ev
open PySem PySem.Spec PyProof.Rows L2

def noSD : Expr → Bool
  | .SetComp .. | .DictComp .. => false
  | _ => true
def noLC : Expr → Bool
  | .SetComp .. | .DictComp .. | .ListComp .. => false
  | _ => true
def SC.isLocal (c : SC) (x : Str) : Bool := decide (c.sc.names.lookup x = some .local)
/-- whether the comprehension's variables are let go behind the store -/
def swOf (c : SC) (e : Expr) (x : Str) (py : Pos) : Bool := match e with
  | .ListComp _ _ scope p => c.isLocal x && py.line == p.line && !(scope.names.any fun (n, k) => n == x && (k == .local || k == .cell))
  | _ => false
def namesOf (c : SC) (ts : List Expr) : List Str := ts.filterMap fun
  | .Name id pos => if c.isLocal id && pos.line == (ts.head?.map (·.pos.line)).getD 0 then some id else none
  | _ => none
def swNone (c : SC) (tg e : Expr) : Bool := match tg, e with
  | .Tuple ts _ _, .Tuple vs _ _ => !(ts.length == 2 || ts.length == 3) || vs.length != ts.length || (namesOf c ts).length != ts.length
  | .List _ _, _ => false
  | _, _ => true
theorem swaps_eq {c : SC} {e : Expr} {x : Str} {py : Pos} {l : Nat} {env : Env} (h : noSD e = true) (hk : env.scope.kind = .function) (hs : env.scope = c.sc) : swapsWith e (some (.Name x py)) l env = pure (swOf c e x py) := by
  have hb : env.blockKind = .function := by unfold Env.blockKind; rw [hk]; rfl
  cases e with
  | ListComp el gs scope p =>
    unfold swapsWith swOf
    simp only [hb, Expr.pos]
    have e1 : (env.kindOf x == some NameKind.local) = c.isLocal x := by
      unfold Env.kindOf SC.isLocal
      rw [hs]
      cases q : c.sc.names.lookup x with
      | none => rfl
      | some k => cases k <;> rfl
    rw [e1]
    simp
  | SetComp => cases h
  | DictComp => cases h
  | _ => rfl
theorem swaps_none {e : Expr} {l : Nat} {env : Env} (h : noLC e = true) : swapsWith e none l env = pure false := by
  cases e <;> first | rfl | cases h
theorem sole_tup {es : List Expr} {k : Nat} {p : Pos} {e : Expr} {l : Nat} {env : Env} : swapsWithSole [.Tuple es k p] e l env = pure false := by
  cases e <;> rfl
theorem sole_sub {x y : Expr} {p : Pos} {e : Expr} {l : Nat} {env : Env} : swapsWithSole [.Subscript x y p] e l env = pure false := by
  cases e <;> rfl
theorem kind_local {c : SC} {env : Env} (hs : env.scope = c.sc) (x : Str) : (env.kindOf x == some NameKind.local) = c.isLocal x := by
  unfold Env.kindOf SC.isLocal
  rw [hs]
  cases q : c.sc.names.lookup x with
  | none => rfl
  | some k => cases k <;> rfl
theorem stores_none {c : SC} {tg e : Expr} {env : Env} (h : swNone c tg e = true) (hk : env.scope.kind = .function) (hs : env.scope = c.sc) : swappedStores [tg] e env = pure none := by
  have hb : env.blockKind = .function := by unfold Env.blockKind; rw [hk]; rfl
  cases tg with
  | Tuple ts k p =>
    cases e with
    | Tuple vs k2 p2 =>
      unfold swNone at h
      simp only [Bool.or_eq_true, Bool.not_eq_true'] at h
      have hn : (ts.filterMap fun
          | .Name id pos => if env.kindOf id == some .local && pos.line == (ts.head?.map (·.pos.line)).getD 0 then some id else none
          | _ => none) = namesOf c ts := by
        unfold namesOf
        simp only [kind_local hs]
      unfold swappedStores
      simp only [hb]
      erw [hn]
      split
      · rfl
      · split
        · rfl
        · split
          · rfl
          · rename_i n1 n2 n3
            exfalso
            simp only [Bool.or_eq_true, not_or] at n1 n3
            rcases h with (h | h) | h
            · exact n1.1.1 (by rw [h]; rfl)
            · exact n1.1.2 h
            · exact n3.1 h
    | _ => rfl
  | List ts p => cases h
  | _ => rfl

/-- two plain local names, not all constants -/
def swTwo (c : SC) (x y : Str) (px py : Pos) (a b : Expr) : Bool := c.isLocal x && c.isLocal y && px.line == py.line && !decide (x = y) && plainE a && plainE b && !([a, b].all (foldedForSure 8)) && !([a, b].all (constantsAlone 8))
theorem stores_two {c : SC} {x y : Str} {px py p p2 : Pos} {k k2 : Nat} {a b : Expr} {env : Env} (h : swTwo c x y px py a b = true) (hk : env.scope.kind = .function) (hs : env.scope = c.sc) :
    swappedStores [.Tuple [.Name x px, .Name y py] k p] (.Tuple [a, b] k2 p2) env = pure (some [x, y]) := by
  have hb : env.blockKind = .function := by unfold Env.blockKind; rw [hk]; rfl
  unfold swTwo at h
  simp only [Bool.and_eq_true, Bool.not_eq_true', decide_eq_false_iff_not] at h
  obtain ⟨⟨⟨⟨⟨⟨⟨h1, h2⟩, h3⟩, h4⟩, h5⟩, h6⟩, h7⟩, h8⟩ := h
  have h3 : px.line = py.line := by simpa using h3
  unfold swappedStores
  simp only [hb, kind_local hs, h1, h2, h7, h8, List.filterMap_cons, List.filterMap_nil, List.head?_cons, Option.map_some, Option.getD_some, Expr.pos, h3, List.length_cons, List.length_nil]
  have hst : ([a, b].any fun x => match x with
    | .Starred .. => true
    | _ => false) = false := by
    cases a <;> first | (cases h5; done) | (cases b <;> first | (cases h6; done) | rfl)
  erw [hst]
  have hd : ([x, y].eraseDups).length = 2 := by
    have : (y == x) = false := by simpa using fun e => h4 e.symm
    simp [List.eraseDups_cons, this]
  simp [hd]
end Ev
end

section
set_option Elab.async false
set_option linter.all false
set_option maxRecDepth 100000
set_option maxHeartbeats 4000000
namespace Ev
open PySem PySem.Spec PyProof.Rows L2

mutual
def ckS : S → SC → Stmt → Bool
  | .asg t e, c, s => match s with
    | .Assign [tg] ex _ => noSD ex && ckE e c ex && (match t, tg with
      | .v i, .Name x _ => c.store i x
      | .v _, _ => false
      | .tup ts, .Tuple es k p => ckT (.tup ts) c (.Tuple es k p) && swNone c (.Tuple es k p) ex
      | .idx a b, .Subscript x y p => ckT (.idx a b) c (.Subscript x y p)
      | _, _ => false)
    | _ => false
  | .own i e, c, s => match s with
    | .Assign [.Name x _] ex _ => noSD ex && ckE e c ex && c.store i x
    | _ => false
  | .par is es, c, s => match is, es, s with
    | [(i, _), (j, _)], [a, b], .Assign [.Tuple [.Name x px, .Name y py] _ _] (.Tuple [ea, eb] _ _) _ => decide (c.N[i]? = some x) && decide (c.N[j]? = some y) && !decide (i = j) && swTwo c x y px py ea eb && ckE a c ea && ckE b c eb
    | _, _, _ => false
  | .aug _ _ _, _, _ => false
  | .ex e, c, s => match s with
    | .Expr ex _ => ckE e c ex && noLC ex
    | _ => false
  | .ret e, c, s => match s with
    | .Return (some ex) _ => ckE e c ex
    | _ => false
  | .retN, _, s => match s with
    | .Return none _ => true
    | _ => false
  | .iff t a b, c, s => match s with
    | .If e xs ys _ => ckE t c e && ckSs a c xs && ckSs b c ys
    | _ => false
  | .for t it body, c, s => match s with
    | .For tg iter xs [] _ => ckI it c tg iter && plainE iter && ckT t c tg && ckSs body c xs
    | _ => false
  | .whl t body, c, s => match s with
    | .While e xs [] _ => ckE t c e && ckSs body c xs
    | _ => false
  | .pass, _, s => match s with
    | .Pass _ => true
    | _ => false
  | .brk, _, s => match s with
    | .Break _ => true
    | _ => false
  | .cnt, _, s => match s with
    | .Continue _ => true
    | _ => false
  | .nev, _, _ => true
def ckSs : List S → SC → List Stmt → Bool
  | [], _, sts => sts.isEmpty
  | s :: ss, c, sts => match sts with
    | st :: sts => ckS s c st && ckSs ss c sts
    | _ => false
end

structure GS (g : G) (Γ : Gam) (c : SC) (X : Cx) : Prop extends GOk g Γ c X where
  kind : c.sc.kind = .function
  xe : X.xe = fun _ _ => False
section
variable {g : G} {Γ : Gam} {c : SC} {X : Cx}
theorem heap_of {m : M RV} {σ : L2.St} {H : Hp} {Q : VK} (h : tE g (bnd m heapM) σ H Q) : tE g m σ H fun v H' => Gh (Q v) H' := by
  obtain ⟨ι, ss, z, ss', rel, e, k⟩ := h
  obtain ⟨x, s1, e1, f1⟩ := bnd_some e
  refine ⟨ι, ss, x, _, rel, e1, fun v ι1 H1 rel1 rv1 na1 es1 => .here ?_⟩
  cases x with
  | d d => cases f1
  | slot i => cases f1
  | new so =>
    obtain ⟨p, rfl, h2, h3, h4, h5⟩ := rv1
    have hn : H p = none := na1 _ p rfl rfl
    cases f1
    refine k _ (ι1 ++ [p]) H1 (rel1.push h2 h3 h4 h5) (.ref (by rw [rel1.slen]; simp)) .d ⟨es1.stp.trans ⟨⟨[p], rfl⟩, fun _ _ h => h, fun _ _ _ h => h⟩, fun b hb => ?_, es1.kp, es1.ow, es1.dom⟩
    rcases List.mem_append.mp hb with hb | hb
    · exact es1.fr b hb
    · have eb : b = p := by simpa using hb
      rw [eb]; exact .inr hn
theorem tE.gh {m : M RV} {σ : L2.St} {H : Hp} {Q Q' : VK} (h : tE g m σ H Q) (f : ∀ v H, Q v H → Gh (Q' v) H) : tE g m σ H Q' := by
  obtain ⟨ι, ss, z, ss', rel, e, k⟩ := h
  exact ⟨ι, ss, z, ss', rel, e, fun v ι' H' a b c d => (k v ι' H' a b c d).bind fun H q => f v H q⟩
theorem name_swap (G : GS g Γ c X) {i : Nat} {x : Str} (hst : c.store i x = true) {el : Expr} {gs : List Comprehension} {scope : Scope} {p py pos : Pos} (hsw : swOf c (.ListComp el gs scope p) x py = true) :
    ∀ (ir : E), ckE ir c (.ListComp el gs scope p) = true → PS X (.Assign [.Name x py] (.ListComp el gs scope p) pos) (tAsg (tE g (ev Γ ir)) (gName i))
  | .heap a, h => by
    unfold ckE at h
    have e1 : ev Γ (.heap a) = bnd (ev Γ a) heapM := by rw [ev]; rfl
    rw [e1]
    exact (name_swap G hst hsw a h).to fun D σ H q => .here (heap_of q)
  | .lc own t it ifs elt, h => by
    obtain ⟨h1, h2, h3⟩ := G.loc hst
    have hk : X.env.scope.kind = .function := by rw [G.sc]; exact G.kind
    have hN : X.N.Nodup := by rw [G.N]; exact G.nd
    have hloc : X.env.scope.names.lookup x = some .local := by
      unfold swOf at hsw
      simp only [Bool.and_eq_true] at hsw
      rw [G.sc]
      exact of_decide_eq_true hsw.1.1
    unfold ckE at h
    split at h
    · rename_i el' tg iter fs z scope' pos' heq
      cases heq
      simp only [Bool.and_eq_true, decide_eq_true_eq] at h
      obtain ⟨⟨⟨⟨⟨⟨⟨⟨⟨rfl, hown⟩, hblk⟩, hi⟩, hpi⟩, ht⟩, hel⟩, hts⟩, hfl⟩, hsl⟩ := h
      have e1 : ev Γ (.lc own t it ifs elt) = lcM own (evI Γ it) (turnM (asgT Γ t) (evTs Γ ifs) (bnd (ev Γ elt) esc)) := by
        rw [ev]
        unfold lcM turnM
        simp only [bnd_assoc]
        all_goals rfl
      rw [e1]
      have ok : BlkOk X.N X.env.scope scope (ownP c.N own) := by rw [G.N, G.sc]; exact blkOk_by hblk
      have key := ps_setLc (py := py) (spos := pos) (elt := el) (tg := tg) (iter := iter) (ifs := fs) G.calm hN h1 hloc (by rw [swaps_eq (c := c) rfl hk G.sc, hsw]) (evI_ok it c tg iter hi X G.toGOk) ok (fun s H C cl fp => asgT_ok t (c.blk scope) tg ht _ (G.toGOk.blk s H scope C cl fp)) (fun s H C cl fp => evTs_ok ifs (c.blk scope) fs hts hfl _ (G.toGOk.blk s H scope C cl fp))
        (fun s H C cl fp => pe_escE (ev_ok elt (c.blk scope) el hel _ (G.toGOk.blk s H scope C cl fp))) (fold_plain hpi)
      have sub := ownP_sub hsl hown
      rw [hown] at key sub
      exact key.to fun D σ H q => .here (tLc_of sub q)
    · cases h
  | .c _, h => by unfold ckE at h; cases h
  | .v _, h => by unfold ckE at h; cases h
  | .g _, h => by unfold ckE at h; cases h
  | .bin .., h => by unfold ckE at h; cases h
  | .neg _, h => by unfold ckE at h; cases h
  | .not _, h => by unfold ckE at h; cases h
  | .and .., h => by unfold ckE at h; cases h
  | .or .., h => by unfold ckE at h; cases h
  | .cmp .., h => by unfold ckE at h; cases h
  | .chn .., h => by unfold ckE at h; cases h
  | .ite .., h => by unfold ckE at h; cases h
  | .tup _, h => by unfold ckE at h; cases h
  | .lst _, h => by unfold ckE at h; cases h
  | .star _, h => by unfold ckE at h; cases h
  | .idx .., h => by unfold ckE at h; cases h
  | .slc .., h => by unfold ckE at h; cases h
  | .na, h => by unfold ckE at h; cases h
  | .call .., h => by unfold ckE at h; cases h
  | .bi .., h => by unfold ckE at h; cases h
  | .mt .., h => by unfold ckE at h; cases h
  | .coll .., h => by unfold ckE at h; cases h
  | .rev .., h => by unfold ckE at h; cases h
/-- name = an expression, the name's variables let go as they are -/
theorem name_set (G : GS g Γ c X) {i : Nat} {x : Str} (hst : c.store i x = true) {ex : Expr} {py pos : Pos} (hsd : noSD ex = true) (ir : E) (h : ckE ir c ex = true) : PS X (.Assign [.Name x py] ex pos) (tAsg (tE g (ev Γ ir)) (gName i)) := by
  obtain ⟨h1, h2, h3⟩ := G.loc hst
  have hk : X.env.scope.kind = .function := by rw [G.sc]; exact G.kind
  have hN : X.N.Nodup := by rw [G.N]; exact G.nd
  by_cases hsw : swOf c ex x py = true
  · cases ex with
    | ListComp el gs scope p => exact name_swap G hst hsw ir h
    | _ => cases hsw
  · have hsw' : swOf c ex x py = false := by simpa using hsw
    exact ps_set hN h1 h2 (ev_ok ir c ex h X G.toGOk) (by rw [swaps_eq hsd hk G.sc, hsw']) h3
theorem isLocal_of {x : Str} (h : c.isLocal x = true) : c.sc.names.lookup x = some .local := of_decide_eq_true h
theorem isLoc (G : GS g Γ c X) {x : Str} (h : c.isLocal x = true) : X.env.scope.names.lookup x = some .local := by rw [G.sc]; exact isLocal_of h

mutual
theorem exec_ok (fuel : Nat) : ∀ (ir : S) (c : SC) (s : Stmt), ckS ir c s = true → ∀ X, GS g Γ c X → PS X s (tS g (exec Γ fuel ir))
  | .asg t e, c, s, h, X, G => by
    have hk : X.env.scope.kind = .function := by rw [G.sc]; exact G.kind
    unfold ckS at h
    split at h
    · rename_i tg ex pos
      simp only [Bool.and_eq_true] at h
      obtain ⟨⟨hsd, hex⟩, h⟩ := h
      have he := pe_escE (ev_ok e c ex hex X G.toGOk)
      split at h
      · rename_i i x py
        exact ps_setE (name_set G h hsd e hex)
      · cases h
      · rename_i ts es k p
        simp only [Bool.and_eq_true] at h
        exact ps_asgE (ps_asg he (asgT_ok (.tup ts) c _ h.1 X G.toGOk) sole_tup (stores_none h.2 hk G.sc))
      · rename_i a b x y p
        exact ps_asgE (ps_asg he (asgT_ok (.idx a b) c _ h X G.toGOk) sole_sub (stores_none (c := c) rfl hk G.sc))
      · cases h
    · cases h
  | .own i e, c, s, h, X, G => by
    unfold ckS at h
    split at h
    · simp only [Bool.and_eq_true] at h
      exact ps_ownE (name_set G h.2 h.1.1 e h.1.2)
    · cases h
  | .par is es, c, s, h, X, G => by
    have hk : X.env.scope.kind = .function := by rw [G.sc]; exact G.kind
    unfold ckS at h
    split at h
    · rename_i i bi j bj a b x px y py k p ea eb k2 p2 pos
      simp only [Bool.and_eq_true, decide_eq_true_eq, Bool.not_eq_true', decide_eq_false_iff_not] at h
      obtain ⟨⟨⟨⟨⟨hi, hj⟩, hij⟩, hsw⟩, ha⟩, hb⟩ := h
      have hsw2 := hsw
      unfold swTwo at hsw2
      simp only [Bool.and_eq_true] at hsw2
      obtain ⟨⟨⟨⟨⟨⟨⟨l1, l2⟩, _⟩, _⟩, p1⟩, p2'⟩, _⟩, _⟩ := hsw2
      rw [exec]
      exact ps_par2E hij (ps_par G.calm (by rw [G.N]; exact G.nd) (by rw [G.N]; exact hi) (by rw [G.N]; exact hj) hij (isLoc G l1) (isLoc G l2) (pa_cons (ev_ok a c ea ha X G.toGOk) (pa_cons (ev_ok b c eb hb X G.toGOk) pa_nil (starEach_plain p2')) (starEach_plain p1)) (stores_two hsw hk G.sc))
    · cases h
  | .aug _ _ _, c, s, h, X, G => by unfold ckS at h; cases h
  | .ex e, c, s, h, X, G => by
    unfold ckS at h
    split at h
    · simp only [Bool.and_eq_true] at h
      rw [exec]
      exact ps_exE (ps_expr (ev_ok e c _ h.1 X G.toGOk) (swaps_none h.2))
    · cases h
  | .ret e, c, s, h, X, G => by
    unfold ckS at h
    split at h
    · rw [exec]
      exact ps_retE (ev_ok e c _ h X G.toGOk)
    · cases h
  | .retN, c, s, h, X, G => by
    unfold ckS at h
    split at h
    · exact ps_retNE
    · cases h
  | .iff t a b, c, s, h, X, G => by
    unfold ckS at h
    split at h
    · simp only [Bool.and_eq_true] at h
      rw [exec]
      exact ps_ifE (evT_ok t c _ h.1.1 X G.toGOk) (execs_ok fuel a c _ h.1.2 X G) (execs_ok fuel b c _ h.2 X G)
    · cases h
  | .for t it body, c, s, h, X, G => by
    unfold ckS at h
    split at h
    · simp only [Bool.and_eq_true] at h
      rw [exec]
      exact ps_forE G.xe G.calm (evI_ok it c _ _ h.1.1.1 X G.toGOk) (asgT_ok t c _ h.1.2 X G.toGOk) (execs_ok fuel body c _ h.2 X G) (fold_plain h.1.1.2)
    · cases h
  | .whl t body, c, s, h, X, G => by
    unfold ckS at h
    split at h
    · simp only [Bool.and_eq_true] at h
      rw [exec]
      exact ps_whlE G.xe (evT_ok t c _ h.1 X G.toGOk) (execs_ok fuel body c _ h.2 X G)
    · cases h
  | .pass, c, s, h, X, G => by
    unfold ckS at h
    split at h
    · exact ps_passE
    · cases h
  | .brk, c, s, h, X, G => by
    unfold ckS at h
    split at h
    · exact ps_breakE
    · cases h
  | .cnt, c, s, h, X, G => by
    unfold ckS at h
    split at h
    · exact ps_contE
    · cases h
  | .nev, c, s, h, X, G => ps_failE fun _ => rfl
theorem execs_ok (fuel : Nat) : ∀ (ir : List S) (c : SC) (s : List Stmt), ckSs ir c s = true → ∀ X, GS g Γ c X → PSs X s (tS g (execs Γ fuel ir))
  | [], c, s, h, X, G => by
    unfold ckSs at h
    cases s with
    | nil => exact pss_nilE
    | cons e es => cases h
  | s :: r, c, sts, h, X, G => by
    unfold ckSs at h
    split at h
    · simp only [Bool.and_eq_true] at h
      rw [execs]
      exact pss_consE (exec_ok fuel s c _ h.1 X G) (execs_ok fuel r c _ h.2 X G)
    · cases h
end
end
end Ev
end

section
set_option Elab.async false
set_option linter.all false
set_option maxRecDepth 100000
set_option maxHeartbeats 4000000
namespace Ev
open PySem PySem.Spec PyProof.Rows L2

mutual
/-- its references lie below n -/
def D.low (n : Nat) : D → Bool
  | .ref k => decide (k < n)
  | .tup xs => D.lows n xs
  | .lst xs => D.lows n xs
  | _ => true
def D.lows (n : Nat) : List D → Bool
  | [] => true
  | x :: xs => D.low n x && D.lows n xs
end
def SO.below (n : Nat) : SO → Bool
  | .lst ds => D.lows n ds
  | .fz ds => D.lows n ds
  | .dK kvs => kvs.all fun p => D.low n p.2
  | .dT kvs => kvs.all fun p => D.low n p.2
def closed (n : Nat) (r : RV) (st : List SO) : Bool := (match r with
  | .d x => D.low n x
  | .new so => so.below n
  | .slot _ => false) && (st.take n).all (SO.below n)
section
variable {K : PySem.W.Frag} {ι e : List Addr} {H : Hp}
mutual
theorem RD.cut : ∀ {d : D} {v : V}, RD K (ι ++ e) H d v → D.low ι.length d = true → RD K ι H d v
  | _, _, .non, _ => .non
  | _, _, .bl b, _ => .bl b
  | _, _, .int i, _ => .int i
  | _, _, .str x, _ => .str x
  | _, _, .tup h r, b => .tup h (RDs.cut r (by simpa [D.low] using b))
  | _, _, .lst h r, b => .lst h (RDs.cut r (by simpa [D.low] using b))
  | _, _, .ref h, b => .ref (by
    have hk := of_decide_eq_true (by simpa only [D.low] using b)
    rwa [List.getElem?_append_left hk] at h)
theorem RDs.cut : ∀ {ds : List D} {vs : List V}, RDs K (ι ++ e) H ds vs → D.lows ι.length ds = true → RDs K ι H ds vs
  | _, _, .nil, _ => .nil
  | _, _, .cons h r, b => by
    simp only [D.lows, Bool.and_eq_true] at b
    exact .cons (RD.cut h b.1) (RDs.cut r b.2)
end
theorem RKs.cut {κ : Type} : ∀ {l : List (κ × D)} {m : List (κ × V)}, RKs K (ι ++ e) H l m → (l.all fun p => D.low ι.length p.2) = true → RKs K ι H l m
  | _, _, .nil, _ => .nil
  | _, _, .cons h r, b => by
    simp only [List.all_cons, Bool.and_eq_true] at b
    exact .cons ⟨h.1, h.2.cut b.1⟩ (RKs.cut r b.2)
theorem SoR.cut {a : Addr} : ∀ {so : SO}, SoR K (ι ++ e) H a so → so.below ι.length = true → SoR K ι H a so
  | .lst _, ⟨vs, h, r⟩, b => ⟨vs, h, r.cut b⟩
  | .fz _, ⟨o, vs, h, r⟩, b => ⟨o, vs, h, r.cut b⟩
  | .dK _, ⟨m, h, r⟩, b => ⟨m, h, r.cut b⟩
  | .dT _, ⟨m, h, r⟩, b => ⟨m, h, r.cut b⟩
end

/-! ### a def's body, run -/
def exitF (n : Nat) (fl : Fl) (ss : SS) : Option (RV × List SO) :=
  match (match fl with
    | .nx => some (RV.d .non)
    | .ret (.d x) => some (.d x)
    | .ret (.new so) => some (.new so)
    | .ret (.slot i) => (match ss.env[i]? with
      | some (some (.own so)) => some (.new so)
      | some (some (.d x)) => some (.d x)
      | _ => none)
    | _ => none) with
  | some r => some (r, if closed n r ss.st = true then ss.st.take n else ss.st)
  | none => none
def entry (N : List Str) (ds : List D) (st : List SO) : SS := ⟨ds.map (fun d => some (.d d)) ++ List.replicate (N.length - ds.length) none, st⟩
def runDef (Γ : Gam) (fuel : Nat) (N : List Str) (ir : List S) : Den := fun ds st => match execs Γ fuel ir (entry N ds st) with
  | some (fl, ss) => exitF st.length fl ss
  | none => none
def bltNames : List Str := ["len", "sum", "min", "max", "all", "any", "sorted", "tuple", "list", "int", "abs", "repr", "str", "dict", "isinstance", "bool", "range", "enumerate", "zip", "set"]

section
variable {P : Program} {w : World} {K : PySem.W.Frag} {mg : Str → Option Value} {base : Heap} {k : Nat} {Γ : Gam}
theorem Fnd.mono {j : Nat} {f : Addr} {fd : FuncData} {ps : List Str} {sp : Spd} (F : Fnd P w K mg base j f fd ps sp) (h : j ≤ k) : Fnd P w K mg base k f fd ps sp :=
  ⟨F.len, fun A outer s H args us vs Q hr => F.run A outer s H args us vs Q (hr.mono h)⟩
/-- the defs that may be called -/
def FnT (P : Program) (w : World) (K : PySem.W.Frag) (mg : Str → Option Value) (base : Heap) (k : Nat) (Γ : Gam) : Prop :=
  ∀ x den, Γ.fn x = some den → ∃ f fd ps, Fnd P w K mg base k f fd ps (spD K den) ∧ mg x = some (.ref f) ∧ PySem.W.keepIn K (.ref f) = true ∧ Binds K fd ps []
def ConT (K : PySem.W.Frag) (mg : Str → Option Value) (Γ : Gam) : Prop := ∀ x d, Γ.con x = some d → ∃ v u, mg x = some u ∧ RelV v u ∧ ∀ ι H, RD K ι H d v
theorem start_rel {N : List Str} {ι : List Addr} {H : Hp} {ds : List D} {vs : List V} {st : List SO} (r : RDs K ι H ds vs) (s : StR K ι H st) (nd : ι.Nodup) : Rel ⟨K, ι, H⟩ ι (entry N ds st) (start N vs) H := by
  have hl := r.length
  have inv : ∀ {i : Nat} {ev : EV}, (entry N ds st).env[i]? = some (some ev) → ∃ d, ds[i]? = some d ∧ ev = .d d := fun {i ev} h => by
    unfold entry at h
    by_cases hi : i < ds.length
    · rw [List.getElem?_append_left (by simpa using hi), List.getElem?_map] at h
      cases q : ds[i]? with
      | none => rw [q] at h; cases h
      | some d => rw [q] at h; cases h; exact ⟨d, rfl, rfl⟩
    · rw [List.getElem?_append_right (by simpa using hi), List.getElem?_replicate] at h
      split at h <;> cases h
  refine ⟨?_, fun i d h => ?_, fun i so h => ?_, fun i j a so so' h => ?_, s.1, s.2, nd, .refl⟩
  · unfold entry L2.start; simp [hl]
  · obtain ⟨d', h1, h2⟩ := inv h
    cases h2
    obtain ⟨v, q1, q2⟩ := r.get h1
    refine ⟨v, ?_, q2⟩
    unfold L2.start
    have hi : i < vs.length := (List.getElem?_eq_some_iff.mp q1).1
    rw [List.getElem?_append_left (by simpa using hi), List.getElem?_map, q1]; rfl
  · obtain ⟨_, _, h2⟩ := inv h; cases h2
  · obtain ⟨_, _, h2⟩ := inv h; cases h2
/-- out of the body -/
theorem exit_ok {ι ι' : List Addr} {H H' : Hp} {st st' : List SO} {ss : SS} {σ : L2.St} {fl : Fl} {x : RV} {Q : VK} (hst : st.length = ι.length) (rel : Rel ⟨K, ι, H⟩ ι' ss σ H') (e : exitF st.length fl ss = some (x, st'))
    (k : ∀ v ι' H', Frm ι H ι' H' → StR K ι' H' st' → ι'.Nodup → RV0 K H ι' H' x v → Gh (Q v) H') : FlE ⟨K, ι, H⟩ { nx := fun _ H' => Q .non H', rt := Q } ι' ss σ H' fl := by
  -- a value that leaves
  have fin : ∀ {r : RV} {v : V}, x = r → st' = (if closed st.length r ss.st = true then ss.st.take st.length else ss.st) → RV0 K H ι' H' r v → Gh (Q v) H' := fun {r v} ex es rv => by
    subst ex
    by_cases hc : closed st.length x ss.st = true
    · rw [if_pos hc] at es
      subst es
      obtain ⟨ex, he⟩ := rel.frm.stp.pre
      have he : ι' = ι ++ ex := he
      subst he
      unfold closed at hc
      simp only [Bool.and_eq_true] at hc
      obtain ⟨c1, c2⟩ := hc
      have hlen : ι.length ≤ ss.st.length := by rw [rel.slen]; simp
      have hnd : ι.Nodup := (List.nodup_append.mp rel.nd).1
      have f := rel.frm
      refine k v ι H' ⟨⟨⟨[], by simp⟩, f.stp.tup, f.stp.frz⟩, fun a h => .inl h, f.keep⟩ ⟨by rw [List.length_take, hst]; omega, fun j so hj => ?_⟩ hnd ?_
      · have hjl : j < st.length := by
          have := (List.getElem?_eq_some_iff.mp hj).1
          rw [List.length_take] at this; omega
        rw [List.getElem?_take_of_lt hjl] at hj
        obtain ⟨a, h1, h2⟩ := rel.sto j so hj
        rw [List.getElem?_append_left (by omega)] at h1
        refine ⟨a, h1, SoR.cut h2 ?_⟩
        rw [← hst]
        exact List.all_eq_true.mp c2 so (List.mem_of_getElem? (by rw [List.getElem?_take_of_lt hjl]; exact hj))
      · cases x with
        | d x => exact RD.cut rv (by rw [← hst]; exact c1)
        | new so =>
          obtain ⟨a, h1, h2, h3, h4⟩ := rv
          exact ⟨a, h1, SoR.cut h2 (by rw [← hst]; exact c1), fun z => h3 (List.mem_append_left _ z), h4⟩
        | slot i => exact rv
    · rw [if_neg hc] at es
      subst es
      exact k v ι' H' rel.frm ⟨rel.slen, rel.sto⟩ rel.nd rv
  cases fl with
  | nx => cases e; exact fin rfl rfl (.non)
  | brk => cases e
  | cnt => cases e
  | ret r =>
    intro v hv
    cases r with
    | d d => cases e; exact fin rfl rfl hv
    | new so =>
      cases e
      obtain ⟨a, h1, h2, h3, h4, _⟩ := hv
      exact fin rfl rfl ⟨a, h1, h2, h3, h4⟩
    | slot i =>
      have hv : σ[i]? = some (some v) := hv
      unfold exitF at e
      cases q : ss.env[i]? with
      | none => simp only [q] at e; cases e
      | some o =>
        cases o with
        | none => simp only [q] at e; cases e
        | some ev =>
          cases ev with
          | d d =>
            simp only [q] at e
            cases e
            obtain ⟨u, h1, h2⟩ := rel.dat i d q
            rw [hv] at h1; cases h1
            exact fin (r := .d d) rfl rfl h2
          | own so =>
            simp only [q] at e
            cases e
            obtain ⟨a, h1, h2, h3, h4⟩ := rel.own i so q
            rw [hv] at h1; cases h1
            exact fin (r := .new so) rfl rfl ⟨a, rfl, h2, h3, h4⟩
/-- a def of the text keeps its promise -/
theorem fnd_of {f : Addr} {fd : FuncData} {x qual : Str} {params : Arguments} {body : List Stmt} {scope : Scope} {N ps : List Str} {ir : List S} {den : Den} (T : FnT P w K mg base k Γ) (F : FunD K x qual params body scope [] [] f fd)
    (S : FnScope N ps scope) (hck : ckSs ir ⟨N, scope, none⟩ body = true) (hblt : ∀ y ∈ bltNames, mg y = none) (hcon : ConT K mg Γ)
    (hden : ∀ ds st r, den ds st = some r → ds.length = ps.length ∧ ∃ fuel, runDef Γ fuel N ir ds st = some r) : Fnd P w K mg base (k + 1) f fd ps (spD K den) := by
  obtain ⟨oc, od, dV, kV, doc, pm, an, cdv, ct, osl, rfl, lk, hcd, _, _⟩ := F.ex
  have len : ∀ vs H Q, spD K den vs H Q → vs.length = ps.length := fun vs H Q ⟨ι, ds, st, r, st', h1, _, _, h4, _⟩ => by
    rw [← h1.length]; exact (hden ds st _ h4).1
  refine ⟨len, fun A outer s H args us vs Q hr hgd e0 hb rvs hsp => ?_⟩
  have hKs : K.In s.heap := e0.mod.kin.keeps fun b o q => (e0.bs b o q).1
  have hlim : s.heap.NoLimit := e0.mod.nolimit.keeps fun b o q => (e0.bs b o q).1
  have hps : ∀ y ∈ ps.zip us, scope.names.lookup y.1 = some .local ∨ (scope.names.lookup y.1 = some .cell ∧ ((cellsFrom (s.heap.objs.size + 1) scope.names []).lookup y.1).isSome = true) := fun y hy => by
    rcases S.par y.1 (List.of_mem_zip (a := y.1) (b := y.2) hy).1 with q | q
    · exact .inl q
    · exact .inr ⟨q, PySem.W.cellsFrom_some _ _ _ (.inl q)⟩
  refine codeAny_call_function hr.depth (hKs _ _ lk) rfl S.co S.gen rfl (PySem.W.codeRec_of hKs hcd) (hb _ _ _ _ (wpAny_newFunctionEnv_cells S.kind hps fun env he s1 x1 => ?_))
  subst he
  refine ⟨hlim.keeps x1.toInCall.keep, codeAny_func ?_⟩
  have hr' := hr.deeper (envOfC qual scope s.heap.objs.size f cdv)
  have I : Inv (cxOf CX0 P w K mg base N qual scope f cdv A outer s H E0) [] (start N vs) H s1 := inv_start S hr.hd e0 (len vs H Q hsp) rvs x1
  obtain ⟨ι, ds, st, r, st', h1, h2, h3, h4, h5⟩ := hsp
  obtain ⟨hdl, fuel, hrun⟩ := hden ds st _ h4
  have GX : GS ⟨K, ι, H⟩ Γ ⟨N, scope, none⟩ (cxOf CX0 P w K mg base N qual scope f cdv A outer s H E0).nox :=
    { calm := rfl, N := rfl, nd := S.nd, sc := rfl, fn := fun _ => rfl, K := rfl, gd := hgd, un := by
        have := hr'.un
        show (A.deeper (envOfC qual scope s.heap.objs.size f cdv)).units + 100 < cLine
        omega
      blt := hblt, con := hcon, call := fun y dn hy => by
        obtain ⟨f', fd', ps', F', m', k', b'⟩ := T y dn hy
        exact ⟨k, f', fd', ps', F', hr', m', k', b'⟩
      kind := S.kind, xe := rfl }
  have body_ok := (execs_ok fuel ir ⟨N, scope, none⟩ body hck _ GX).nox
  unfold runDef at hrun
  cases q : execs Γ fuel ir (entry N ds st) with
  | none => rw [q] at hrun; cases hrun
  | some p =>
    obtain ⟨fl, ssE⟩ := p
    rw [q] at hrun
    have hrun : exitF st.length fl ssE = some (r, st') := hrun
    have go := body_ok.run [] s1 (start N vs) H { nx := fun _ H' => Q .non H', rt := Q } I ⟨ι, entry N ds st, fl, ssE, start_rel h1 h2 h3, q, fun σ' ι' H' rel' _ => exit_ok h2.1 rel' hrun h5⟩
    have back : ∀ {σ' : L2.St} {H' : Hp} {v : V} {u : Value} {s' : Shared}, Inv (cxOf CX0 P w K mg base N qual scope f cdv A outer s H E0) [] σ' H' s' → RelV v u → Q v H' → CE outer P w H s Q u s' := fun {σ' H' v u s'} J rv q => ⟨v, H', J.os, J.bare, J.base, J.hok, rv, q⟩
    refine wpAny_mono go (fun fl' s' hs => ?_) fun e s' hs => ?_
    · cases fl' with
      | ret u =>
        obtain ⟨v, σ', H', J, rv, q⟩ := hs
        exact ⟨u, rfl, back J rv q⟩
      | next =>
        obtain ⟨σ', H', J, q⟩ := hs
        exact ⟨.none, rfl, back (v := V.non) J rfl q⟩
      | brk => obtain ⟨_, _, _, q⟩ := hs; exact False.elim q
      | cont => obtain ⟨_, _, _, q⟩ := hs; exact False.elim q
    · exact wpAny_mono hs (fun _ _ z => False.elim z) fun _ _ z => False.elim z
end
end Ev
end

section
set_option Elab.async false
set_option linter.all false
set_option maxRecDepth 100000
set_option maxHeartbeats 4000000
namespace Ev
open PySem PySem.Spec PyProof.Rows L2

/-- a def of n parameters -/
def denR (n : Nat) (d : Den) : Den := fun ds st => if ds.length = n then d ds st else none
theorem denR_ok {Γ : Gam} {fuel : Nat} {N ps : List Str} {ir : List S} (ds : List D) (st : List SO) (r : RV × List SO) (h : denR ps.length (runDef Γ fuel N ir) ds st = some r) : ds.length = ps.length ∧ ∃ fuel, runDef Γ fuel N ir ds st = some r := by
  unfold denR at h
  split at h
  · rename_i hl; exact ⟨hl, fuel, h⟩
  · cases h
theorem denR_of {Γ : Gam} {n fuel : Nat} {N ps : List Str} {ir : List S} {den : Den} (e : den = denR n (runDef Γ fuel N ir)) (hn : ps.length = n) (ds : List D) (st : List SO) (r : RV × List SO) (h : den ds st = some r) : ds.length = ps.length ∧ ∃ fuel, runDef Γ fuel N ir ds st = some r := by
  subst e
  subst hn
  exact denR_ok ds st r h
def Gam.add (Γ : Gam) (x : Str) (den : Den) : Gam := ⟨fun y => if y = x then some den else Γ.fn y, Γ.con⟩
section
variable {P : Program} {w : World} {K : PySem.W.Frag} {mg : Str → Option Value} {base : Heap} {k : Nat} {Γ : Gam}
theorem FnT.nil {con : Str → Option D} : FnT P w K mg base 0 ⟨fun _ => none, con⟩ := fun _ _ h => nomatch h
theorem FnT.add {f : Addr} {fd : FuncData} {x : Str} {ps : List Str} {den : Den} (T : FnT P w K mg base k Γ) (F : Fnd P w K mg base (k + 1) f fd ps (spD K den)) (hm : mg x = some (.ref f)) (hk : PySem.W.keepIn K (.ref f) = true) (hb : Binds K fd ps []) :
    FnT P w K mg base (k + 1) (Γ.add x den) := fun y dn h => by
  have h2 : (if y = x then some den else Γ.fn y) = some dn := h
  clear h
  by_cases e : y = x
  · rw [if_pos e] at h2
    rw [e, ← Option.some.inj h2]
    exact ⟨f, fd, ps, F, hm, hk, hb⟩
  · rw [if_neg e] at h2
    obtain ⟨f', fd', ps', F', q⟩ := T y dn h2
    exact ⟨f', fd', ps', F'.mono (Nat.le_succ k), q⟩
/-- the law's def called from outside, on a script of ints -/
theorem law_run {mb : Str → Option Value} {fa a : Addr} {fd : FuncData} {x : Str} {den : Den} {t : Shared} {vs : List Value} {ns : List Int} (hK : K.In t.heap) (hG : t.heap.Ns mainGlobals mg) (hB : t.heap.Ns builtinsNs mb) (hBB : ∀ y : Str, y ≠ "__name__" → mb y = bootBuiltins y)
    (hL : t.heap.NoLimit) (hg : t.gens = #[]) (ha : t.heap.get? a = some { cls := .type "list", data := .seq vs.toArray }) (hi : IntsAre vs ns) (hz : ns.length ≤ sizeLine) (hr : Room k callerA) (hno : ∀ o, K.lookup a = some o → o.cls ≠ .type "list")
    (F : ∀ base : Heap, K.In base → base.Ns mainGlobals mg → Fnd P w K mg base k fa fd [x] (spD K den)) (hbd : ∀ (s : Shared) (u : Value), BindsTo s fd ⟨[u], []⟩ [(x, u)]) (hden : ∃ st', den [.lst (ns.map .int)] [] = some (.d (.bl true), st')) :
    codeAny (model P w) callerA (.call (.ref fa) ⟨[.ref a], []⟩) (fun r s' => r = .ok (.ret (.bool true)) ∧ OldK t.heap s'.heap ∧ s'.os = t.os ∧ AllBare s'.gens) t := by
  have rv := vals_ints hi
  have hka : K.lookup a = none := by
    cases q : K.lookup a with
    | none => rfl
    | some o =>
      have e := hK a o q
      rw [ha] at e
      cases e
      exact absurd rfl (hno _ q)
  -- only the script is known, and it stands still
  let ob : Obj := { cls := .type "list", data := .seq vs.toArray }
  let T : Hp := fun b => if b = a then some (.frz ob (.lst (ns.map V.int))) else none
  have Ta : T a = some (.frz ob (.lst (ns.map V.int))) := if_pos rfl
  have Tn : ∀ {b}, b ≠ a → T b = none := fun h => if_neg h
  have Ti : ∀ {b u}, T b = some u → b = a ∧ u = .frz ob (.lst (ns.map V.int)) := fun {b u} e => by
    by_cases z : b = a
    · subst z; rw [Ta] at e; cases e; exact ⟨rfl, rfl⟩
    · rw [Tn z] at e; cases e
  have hok : HOk P w T t.heap := fun b u e => by
    obtain ⟨rfl, rfl⟩ := Ti e
    exact ⟨ha, by rw [List.length_map]; exact hz, vs, _, rv, ha⟩
  have see : ∀ {b o}, t.heap.get? b = some o → b ≠ a → (hidT t.heap T).get? b = some o := fun e n => hidT_get e (Tn n)
  have ns' : ∀ {b m}, t.heap.Ns b m → (hidT t.heap T).Ns b m := fun {b m} ⟨o, es, ep, e, d, r⟩ => ⟨o, es, ep, see e (fun z => by
    subst z
    rw [ha] at e; cases e
    have d' : Data.seq vs.toArray _ = Data.dict es ep := d
    cases d'), d, r⟩
  have kin : K.In (hidT t.heap T) := fun b o e => see (hK b o e) fun z => by subst z; rw [hka] at e; cases e
  have e0 : Env0 P w K mg (hidT t.heap T) callerA [] t T :=
    ⟨rfl, ⟨kin, ns' hG, ⟨mb, ns' hB, hBB⟩, let ⟨mc, h1, h2⟩ := hL; ⟨mc, ns' h1, h2⟩⟩, fun b o e => of_hidT e, Nat.le_of_eq (hidT_size _ _), trivial, (fun b hb => nomatch hb), hok, .of_eq hg⟩
  have hints : ∀ (ns : List Int), RDs K [] T (ns.map .int) (ns.map V.int) := fun ns => by
    induction ns with
    | nil => exact .nil
    | cons n r ih => exact .cons (.int n) ih
  obtain ⟨st', hd⟩ := hden
  refine codeAny_mono ((F _ kin (ns' hG)).run callerA [] t T ⟨[.ref a], []⟩ [.ref a] [.ref a] (fun v _ => v = .bl true) hr rfl e0 (hbd t (.ref a)) (.cons rfl .nil)
    ⟨[], [.lst (ns.map .int)], [], .d (.bl true), st', .cons (.lst ⟨ob, Ta⟩ (hints ns)) .nil, ⟨rfl, (fun k so h => nomatch h)⟩, .nil, hd, fun v ι' H' _ _ _ rvv => .here (RD.inv_bl rvv)⟩) fun r s' ⟨u, er, v, H', os, bare, un, hok', r', q⟩ => ?_
  subst q
  obtain rfl : u = Value.bool true := r'
  refine ⟨er, OldK.of_keep fun b o e => ?_, os, bare⟩
  by_cases z : b = a
  · subst z
    obtain ⟨e1, _⟩ := hok' b _ (un.frzs b ob _ Ta)
    rw [ha] at e; cases e
    exact e1
  · exact un.keep b o e (Tn z) (fun z => nomatch z) (fun z => nomatch z)
end

/-! ### the head: facts by names, and no list among the module's own things -/
def notLst (o : Obj) : Bool := match o.cls with
  | .type n => !(n == "list")
  | _ => true
def noLst (K : PySem.W.Frag) : Bool := K.all fun p => notLst p.2
theorem look_mem {a : Addr} {o : Obj} : ∀ {K : PySem.W.Frag}, K.lookup a = some o → (a, o) ∈ K
  | [], h => nomatch h
  | (b, p) :: K, h => by
    rw [List.lookup_cons] at h
    cases q : a == b with
    | true => rw [q] at h; cases h; rw [beq_iff_eq.mp q]; exact List.mem_cons_self
    | false => rw [q] at h; exact List.mem_cons_of_mem _ (look_mem h)
theorem noLst_ok {K : PySem.W.Frag} (h : noLst K = true) {a : Addr} {o : Obj} (e : K.lookup a = some o) : o.cls ≠ .type "list" := fun q => by
  have := List.all_eq_true.mp h (a, o) (look_mem e)
  have h2 : notLst o = true := this
  unfold notLst at h2
  rw [q] at h2
  cases h2
def obsL (n : Nat) (fa : List He.Fa) (fn : List He.DefD) (g : Addr → Option Obj) : He.AlD × Bool := (He.obsDG n fa fn g, noLst (He.frG g (He.asD g n)))
def hookL (n : Nat) (fa : List He.Fa) (fn : List He.DefD) : PySem.W.Hook where
  α := He.AlD × Bool
  obs := fun s => obsL n fa fn s.heap.get?
  val := fun _ => (He.valD fn, true)
  says := fun _ h => ∃ K : PySem.W.Frag, K.In h ∧ He.SaysD fa fn K ∧ noLst K = true
  of := fun _ _ e => ⟨_, He.frG_in, congrArg (fun z : He.AlD × Bool => z.1) e, congrArg (fun z : He.AlD × Bool => z.2) e⟩
  keeps := fun _ _ _ ⟨K, hK, c⟩ k => ⟨K, PySem.W.Frag.In.keeps hK k, c⟩
theorem obsL_eq {n : Nat} {fa : List He.Fa} {fn : List He.DefD} {g : Addr → Option Obj} {s : Shared} (h : ∀ a, g a = s.heap.get? a) : obsL n fa fn g = (hookL n fa fn).obs s := by
  have e : g = s.heap.get? := funext h
  rw [e]; rfl
/-- the law's end over a head by facts -/
theorem walk_run {l : PySem.W.OpenLaw} {n k : Nat} {q : Program} {loose : List Str} {XP : (Str → Option Value) → Heap → Prop} {YP : World → Heap → Prop} {d : DefRec} {x : Str} (hn : l.most = some n) (hn2 : n ≤ sizeLine) (hdf : d.params.defaults = []) (hr : Room k callerA)
    (F : ∀ (w : World) (mg : Str → Option Value) (fa : Addr) (h : Heap), YP w h → h.Ns mainGlobals mg → mg d.name = some (.ref fa) →
      ∃ (K : PySem.W.Frag) (fd : FuncData) (den : Den), K.In h ∧ noLst K = true ∧ (∀ (s : Shared) (u : Value), BindsTo s fd ⟨[u], []⟩ [(x, u)]) ∧
        (∀ ns : List Int, ns.length ≤ n → ∃ st', den [.lst (ns.map .int)] [] = some (.d (.bl true), st')) ∧
        ∀ base : Heap, K.In base → base.Ns mainGlobals mg → Fnd l.prog w K mg base k fa fd [x] (spD K den)) :
    PySem.W.WalkO q loose XP YP l.row.toRowW d [] (fun f vs => PySem.call f vs) := by
  refine Att.attach_call hn hdf fun w s0 t mg mb fa o pm cd doc a vs ns G Y ho hd hcd hmg hobj hints hlen hg => ?_
  obtain ⟨K, fd, den, hK, hnl, hb, hden, hF⟩ := F w mg fa _ Y G.T.g hmg
  exact law_run hK G.T.g G.T.b G.T.builtins G.T.nolimit hg hobj hints (Nat.le_trans hlen hn2) hr (fun o e => noLst_ok hnl e) hF hb (hden ns hlen)
end Ev
end

section
set_option Elab.async false
set_option linter.all false
set_option maxRecDepth 100000
set_option maxHeartbeats 4000000
namespace Ev
open PySem

/-! ### the evaluator run by hand -/
theorem bnd_ret {α β : Type} (a : α) (f : α → M β) : bnd (ret a) f = f a := rfl
theorem bnd_opt_some {α β : Type} {o : Option α} {a : α} (f : α → M β) (ss : SS) (h : o = some a) : bnd (opt o) f ss = f a ss := by subst h; rfl
/-- a comprehension whose turns leave everything as it was -/
theorem loopLc_all {own : List Nat} {body : D → M (Option D)} {ss : SS} {f : D → Option D} : ∀ {items acc : List D}, (∀ x ∈ items, ∃ s2, body x ss = some (f x, s2) ∧ (⟨wipeE s2.env own, s2.st⟩ : SS) = ss) → acc.length + items.length ≤ LIM →
    loopLc own body items acc ss = some (acc ++ items.filterMap f, ss)
  | [], acc, _, _ => by simp [loopLc, ret]
  | x :: xs, acc, h, hl => by
    obtain ⟨s2, e1, e2⟩ := h x List.mem_cons_self
    have hl' : acc.length + (xs.length + 1) ≤ LIM := by simpa using hl
    rw [loopLc, bnd_of e1]
    show bnd (fun ss => some ((), ⟨wipeE ss.env own, ss.st⟩)) _ s2 = _
    rw [bnd_of (a := ()) (s1 := ss) (by rw [← e2])]
    cases q : f x with
    | none =>
      rw [List.filterMap_cons_none q]
      exact loopLc_all (fun y hy => h y (List.mem_cons_of_mem _ hy)) (by omega)
    | some d =>
      rw [List.filterMap_cons_some q]
      show (if acc.length < LIM then loopLc own body xs (acc ++ [d]) else fail) ss = _
      rw [if_pos (by omega), loopLc_all (fun y hy => h y (List.mem_cons_of_mem _ hy)) (by simp; omega)]
      simp
/-- a loop by its states -/
theorem loopFor_by {asg : D → M Unit} {body : M Fl} (P : Nat → SS → Prop) : ∀ {items : List D} {k : Nat} {ss : SS}, P k ss → (∀ i x s, items[i]? = some x → P (k + i) s → ∃ s1 s2 f, asg x s = some ((), s1) ∧ body s1 = some (f, s2) ∧ (f = .nx ∨ f = .cnt) ∧ P (k + i + 1) s2) →
    ∃ s', loopFor asg body items ss = some (.nx, s') ∧ P (k + items.length) s'
  | [], k, ss, h, _ => ⟨ss, rfl, h⟩
  | x :: xs, k, ss, h, st => by
    obtain ⟨s1, s2, f, e1, e2, hf, hp⟩ := st 0 x ss rfl h
    have ih := loopFor_by P (items := xs) (k := k + 1) hp fun i y s hy hs => by
      have := st (i + 1) y s (by simpa using hy) (by rw [show k + (i + 1) = k + 1 + i by omega]; exact hs)
      rw [show k + (i + 1) + 1 = k + 1 + i + 1 by omega] at this
      exact this
    obtain ⟨s', e3, h3⟩ := ih
    refine ⟨s', ?_, by rw [List.length_cons, show k + (xs.length + 1) = k + 1 + xs.length by omega]; exact h3⟩
    rw [loopFor, bnd_of e1]
    show bnd body _ s1 = _
    rw [bnd_of e2]
    rcases hf with rfl | rfl <;> exact e3
end Ev
namespace Ev
open PySem
/-! ### a def's end -/
theorem take_self (st : List SO) : List.take st.length st = st := List.take_length
theorem exit_d (st : List SO) (env : List (Option EV)) (x : D) : exitF st.length (.ret (.d x)) ⟨env, st⟩ = some (.d x, st) := by
  show some (RV.d x, if _ then List.take st.length st else st) = _
  rw [take_self]; split <;> rfl
theorem exit_new (st : List SO) (env : List (Option EV)) (x : SO) : exitF st.length (.ret (.new x)) ⟨env, st⟩ = some (.new x, st) := by
  show some (RV.new x, if _ then List.take st.length st else st) = _
  rw [take_self]; split <;> rfl
theorem exit_nx (st : List SO) (env : List (Option EV)) : exitF st.length .nx ⟨env, st⟩ = some (.d .non, st) := by
  show some (RV.d .non, if _ then List.take st.length st else st) = _
  rw [take_self]; split <;> rfl
theorem exit_own (st : List SO) (env : List (Option EV)) (i : Nat) (x : SO) (h : env[i]? = some (some (.own x))) : exitF st.length (.ret (.slot i)) ⟨env, st⟩ = some (.new x, st) := by
  unfold exitF
  simp only [h]
  rw [take_self]; split <;> rfl
theorem run_of {Γ : Gam} {n fuel : Nat} {N : List Str} {ir : List S} {ds : List D} {st : List SO} {fl : Fl} {ss : SS} {r : RV × List SO} (h : execs Γ fuel ir (entry N ds st) = some (fl, ss)) (he : exitF st.length fl ss = some r) (hn : ds.length = n) : denR n (runDef Γ fuel N ir) ds st = some r := by
  unfold denR runDef
  rw [if_pos hn, h]
  exact he
end Ev

namespace Ev
open PySem
section
variable (Γ : Gam) (n : Nat)
/-! ### one step of each -/
theorem ev_c (x : D) : ev Γ (.c x) = ret (.d x) := Eq.trans rfl rfl
theorem ev_v (i : Nat) : ev Γ (.v i) = getV i := Eq.trans rfl rfl
theorem ev_g (x : Str) : ev Γ (.g x) = opt ((Γ.con x).map .d) := Eq.trans rfl rfl
theorem ev_bin (o : Operator) (a b : E) : ev Γ (.bin o a b) = bnd (ev Γ a) fun x => bnd (ev Γ b) fun y => bnd (rsv x) fun p => bnd (rsv y) fun q => opt (binop o p q) := Eq.trans rfl rfl
theorem ev_neg (a : E) : ev Γ (.neg a) = bnd (ev Γ a) fun x => match x with
    | .d (.int i) => ret (.d (.int (-i)))
    | _ => fail := Eq.trans rfl rfl
theorem ev_not (a : E) : ev Γ (.not a) = bnd (ev Γ a) fun x => bnd (rsv x) fun p => bnd (opt (truth p)) fun b => ret (.d (.bl (!b))) := Eq.trans rfl rfl
theorem ev_and (a b : E) : ev Γ (.and a b) = bnd (ev Γ a) fun x => match x with
    | .d (.bl true) => ev Γ b
    | .d (.bl false) => ret (.d (.bl false))
    | _ => fail := Eq.trans rfl rfl
theorem ev_or (a b : E) : ev Γ (.or a b) = bnd (ev Γ a) fun x => match x with
    | .d (.bl true) => ret (.d (.bl true))
    | .d (.bl false) => ev Γ b
    | _ => fail := Eq.trans rfl rfl
theorem ev_cmp (o : CmpOp) (a b : E) : ev Γ (.cmp o a b) = bnd (ev Γ a) fun x => bnd (ev Γ b) fun y => bnd (rsv x) fun p => bnd (rsv y) fun q => bnd (opt (cmpop o p q)) fun k => ret (.d (.bl k)) := Eq.trans rfl rfl
theorem ev_chn (o p : CmpOp) (a b c : E) : ev Γ (.chn o p a b c) = bnd (ev Γ a) fun x => bnd (ev Γ b) fun y => bnd (rsv x) fun x' => bnd (rsv y) fun y' => bnd (opt (cmpop o x' y')) fun k =>
      if k = true then bnd (ev Γ c) fun z => bnd (rsv y) fun y'' => bnd (rsv z) fun z' => bnd (opt (cmpop p y'' z')) fun k => ret (.d (.bl k)) else ret (.d (.bl false)) := Eq.trans rfl rfl
theorem ev_ite (t a b : E) : ev Γ (.ite t a b) = bnd (evT Γ t) fun k => if k = true then ev Γ a else ev Γ b := Eq.trans rfl rfl
theorem ev_tup (xs : List E) : ev Γ (.tup xs) = bnd (evDs Γ xs) fun ds => if ds.length ≤ LIM then ret (.d (.tup ds)) else fail := Eq.trans rfl rfl
theorem ev_lst (xs : List E) : ev Γ (.lst xs) = bnd (evDs Γ xs) fun ds => if ds.length ≤ LIM then ret (.new (.lst ds)) else fail := Eq.trans rfl rfl
theorem ev_idx (a b : E) : ev Γ (.idx a b) = bnd (ev Γ a) fun x => bnd (ev Γ b) fun y => bnd (rsv x) fun p => bnd (rsv y) fun q => bnd (opt (idxop p q)) fun d => ret (.d d) := Eq.trans rfl rfl
theorem ev_slc (a lo hi : E) : ev Γ (.slc a lo hi) = bnd (ev Γ a) fun x => bnd (partI lo (ev Γ lo)) fun l => bnd (partI hi (ev Γ hi)) fun h => bnd (rsv x) fun p => opt (slcop p l h) := Eq.trans rfl rfl
theorem ev_call (f : Str) (xs : List E) : ev Γ (.call f xs) = bnd (evDs Γ xs) (callM (Γ.fn f)) := Eq.trans rfl rfl
theorem ev_bi (f : BI) (xs : List E) : ev Γ (.bi f xs) = bnd (evs Γ xs) fun rs => bnd (rsvs rs) fun as => opt (biop f as) := Eq.trans rfl rfl
theorem ev_mt (m : MI) (o : E) (xs : List E) : ev Γ (.mt m o xs) = bnd (ev Γ o) fun r => bnd (kindM m r) fun _ => bnd (evDs Γ xs) fun ds => mtM m r ds := Eq.trans rfl rfl
theorem ev_heap (a : E) : ev Γ (.heap a) = bnd (ev Γ a) heapM := Eq.trans rfl rfl
theorem ev_coll (t : Bool) (it : I) : ev Γ (.coll t it) = bnd (evI Γ it) fun ds => if ds.length ≤ LIM then (if t = true then ret (.new (.lst ds)) else ret (.d (.tup ds))) else fail := Eq.trans rfl rfl
theorem ev_rev (a : E) : ev Γ (.rev a) = bnd (ev Γ a) fun x => bnd (rsv x) fun p => opt (revop p) := Eq.trans rfl rfl
def lcB (t : T) (ifs : List E) (elt : E) : D → M (Option D) := fun x => bnd (asgT Γ t x) fun _ => bnd (evTs Γ ifs) fun k => if k = true then bnd (ev Γ elt) fun r => bnd (esc r) fun d => ret (some d) else ret none
theorem ev_lc {own : List Nat} {t : T} {it : I} {ifs : List E} {elt : E} {ss s1 : SS} {items : List D} (f : D → Option D) (hi : evI Γ it ss = some (items, s1))
    (hb : ∀ x ∈ items, ∃ s2, lcB Γ t ifs elt x ⟨wipeE s1.env own, s1.st⟩ = some (f x, s2) ∧ (⟨wipeE s2.env own, s2.st⟩ : SS) = ⟨wipeE s1.env own, s1.st⟩) (hl : items.length ≤ LIM) :
    ev Γ (.lc own t it ifs elt) ss = some (.new (.lst (items.filterMap f)), ⟨backE s1.env (wipeE s1.env own) own, s1.st⟩) := by
  rw [ev, bnd_of hi]
  have e := loopLc_all (own := own) (body := lcB Γ t ifs elt) (f := f) (acc := []) hb (by simpa using hl)
  rw [List.nil_append] at e
  show (match loopLc own (lcB Γ t ifs elt) items [] ⟨wipeE s1.env own, s1.st⟩ with
    | some (ds, ss') => some (RV.new (.lst ds), (⟨backE s1.env ss'.env own, ss'.st⟩ : SS))
    | none => none) = _
  rw [e]
theorem evT_c (x : D) : evT Γ (.c x) = bnd (ret (.d x)) fun x => bnd (rsv x) fun p => opt (truth p) := Eq.trans rfl rfl
theorem evT_v (i : Nat) : evT Γ (.v i) = bnd (getV i) fun x => bnd (rsv x) fun p => opt (truth p) := Eq.trans rfl rfl
theorem evT_not (a : E) : evT Γ (.not a) = bnd (evT Γ a) fun b => ret (!b) := Eq.trans rfl rfl
theorem evT_and (a b : E) : evT Γ (.and a b) = bnd (evT Γ a) fun k => if k = true then evT Γ b else ret false := Eq.trans rfl rfl
theorem evT_or (a b : E) : evT Γ (.or a b) = bnd (evT Γ a) fun k => if k = true then ret true else evT Γ b := Eq.trans rfl rfl
theorem evT_ite (t a b : E) : evT Γ (.ite t a b) = bnd (evT Γ t) fun k => if k = true then evT Γ a else evT Γ b := Eq.trans rfl rfl
theorem evT_cmp (o : CmpOp) (a b : E) : evT Γ (.cmp o a b) = bnd (ev Γ a) fun x => bnd (ev Γ b) fun y => bnd (rsv x) fun p => bnd (rsv y) fun q => opt (cmpop o p q) := Eq.trans rfl rfl
theorem evT_chn (o p : CmpOp) (a b c : E) : evT Γ (.chn o p a b c) = bnd (ev Γ a) fun x => bnd (ev Γ b) fun y => bnd (rsv x) fun x' => bnd (rsv y) fun y' => bnd (opt (cmpop o x' y')) fun k =>
      if k = true then bnd (ev Γ c) fun z => bnd (rsv y) fun y'' => bnd (rsv z) fun z' => opt (cmpop p y'' z') else ret false := Eq.trans rfl rfl
theorem evT_call (f : Str) (xs : List E) : evT Γ (.call f xs) = bnd (ev Γ (.call f xs)) fun x => bnd (rsv x) fun p => opt (truth p) := by
  rw [evT, ev, bnd_assoc]
theorem evT_bi (f : BI) (xs : List E) : evT Γ (.bi f xs) = bnd (ev Γ (.bi f xs)) fun x => bnd (rsv x) fun p => opt (truth p) := by
  rw [evT, ev]; simp only [bnd_assoc]
theorem evs_nil : evs Γ [] = ret [] := Eq.trans rfl rfl
theorem evs_cons (x : E) (xs : List E) : evs Γ (x :: xs) = bnd (ev Γ x) fun r => bnd (evs Γ xs) fun rs => ret (r :: rs) := Eq.trans rfl rfl
theorem evDs_nil : evDs Γ [] = ret [] := Eq.trans rfl rfl
theorem evDs_star (a : E) (xs : List E) : evDs Γ (.star a :: xs) = bnd (ev Γ a) fun r => bnd (rsv r) fun p => bnd (opt p.seq) fun ds => bnd (evDs Γ xs) fun es => ret (ds ++ es) := Eq.trans rfl rfl
theorem evDs_c (x : D) (xs : List E) : evDs Γ (.c x :: xs) = bnd (ev Γ (.c x)) fun r => bnd (esc r) fun d => bnd (evDs Γ xs) fun ds => ret (d :: ds) := Eq.trans rfl rfl
theorem evDs_v (i : Nat) (xs : List E) : evDs Γ (.v i :: xs) = bnd (ev Γ (.v i)) fun r => bnd (esc r) fun d => bnd (evDs Γ xs) fun ds => ret (d :: ds) := Eq.trans rfl rfl
theorem evDs_g (x : Str) (xs : List E) : evDs Γ (.g x :: xs) = bnd (ev Γ (.g x)) fun r => bnd (esc r) fun d => bnd (evDs Γ xs) fun ds => ret (d :: ds) := Eq.trans rfl rfl
theorem evDs_bin (o : Operator) (a b : E) (xs : List E) : evDs Γ (.bin o a b :: xs) = bnd (ev Γ (.bin o a b)) fun r => bnd (esc r) fun d => bnd (evDs Γ xs) fun ds => ret (d :: ds) := Eq.trans rfl rfl
theorem evDs_neg (a : E) (xs : List E) : evDs Γ (.neg a :: xs) = bnd (ev Γ (.neg a)) fun r => bnd (esc r) fun d => bnd (evDs Γ xs) fun ds => ret (d :: ds) := Eq.trans rfl rfl
theorem evDs_not (a : E) (xs : List E) : evDs Γ (.not a :: xs) = bnd (ev Γ (.not a)) fun r => bnd (esc r) fun d => bnd (evDs Γ xs) fun ds => ret (d :: ds) := Eq.trans rfl rfl
theorem evDs_and (a b : E) (xs : List E) : evDs Γ (.and a b :: xs) = bnd (ev Γ (.and a b)) fun r => bnd (esc r) fun d => bnd (evDs Γ xs) fun ds => ret (d :: ds) := Eq.trans rfl rfl
theorem evDs_or (a b : E) (xs : List E) : evDs Γ (.or a b :: xs) = bnd (ev Γ (.or a b)) fun r => bnd (esc r) fun d => bnd (evDs Γ xs) fun ds => ret (d :: ds) := Eq.trans rfl rfl
theorem evDs_cmp (o : CmpOp) (a b : E) (xs : List E) : evDs Γ (.cmp o a b :: xs) = bnd (ev Γ (.cmp o a b)) fun r => bnd (esc r) fun d => bnd (evDs Γ xs) fun ds => ret (d :: ds) := Eq.trans rfl rfl
theorem evDs_chn (o p : CmpOp) (a b c : E) (xs : List E) : evDs Γ (.chn o p a b c :: xs) = bnd (ev Γ (.chn o p a b c)) fun r => bnd (esc r) fun d => bnd (evDs Γ xs) fun ds => ret (d :: ds) := Eq.trans rfl rfl
theorem evDs_ite (t a b : E) (xs : List E) : evDs Γ (.ite t a b :: xs) = bnd (ev Γ (.ite t a b)) fun r => bnd (esc r) fun d => bnd (evDs Γ xs) fun ds => ret (d :: ds) := Eq.trans rfl rfl
theorem evDs_tup (ys : List E) (xs : List E) : evDs Γ (.tup ys :: xs) = bnd (ev Γ (.tup ys)) fun r => bnd (esc r) fun d => bnd (evDs Γ xs) fun ds => ret (d :: ds) := Eq.trans rfl rfl
theorem evDs_lst (ys : List E) (xs : List E) : evDs Γ (.lst ys :: xs) = bnd (ev Γ (.lst ys)) fun r => bnd (esc r) fun d => bnd (evDs Γ xs) fun ds => ret (d :: ds) := Eq.trans rfl rfl
theorem evDs_idx (a b : E) (xs : List E) : evDs Γ (.idx a b :: xs) = bnd (ev Γ (.idx a b)) fun r => bnd (esc r) fun d => bnd (evDs Γ xs) fun ds => ret (d :: ds) := Eq.trans rfl rfl
theorem evDs_slc (a b c : E) (xs : List E) : evDs Γ (.slc a b c :: xs) = bnd (ev Γ (.slc a b c)) fun r => bnd (esc r) fun d => bnd (evDs Γ xs) fun ds => ret (d :: ds) := Eq.trans rfl rfl
theorem evDs_call (f : Str) (ys : List E) (xs : List E) : evDs Γ (.call f ys :: xs) = bnd (ev Γ (.call f ys)) fun r => bnd (esc r) fun d => bnd (evDs Γ xs) fun ds => ret (d :: ds) := Eq.trans rfl rfl
theorem evDs_bi (f : BI) (ys : List E) (xs : List E) : evDs Γ (.bi f ys :: xs) = bnd (ev Γ (.bi f ys)) fun r => bnd (esc r) fun d => bnd (evDs Γ xs) fun ds => ret (d :: ds) := Eq.trans rfl rfl
theorem evDs_mt (m : MI) (o : E) (ys : List E) (xs : List E) : evDs Γ (.mt m o ys :: xs) = bnd (ev Γ (.mt m o ys)) fun r => bnd (esc r) fun d => bnd (evDs Γ xs) fun ds => ret (d :: ds) := Eq.trans rfl rfl
theorem evDs_lc (own : List Nat) (t : T) (it : I) (ifs : List E) (elt : E) (xs : List E) : evDs Γ (.lc own t it ifs elt :: xs) = bnd (ev Γ (.lc own t it ifs elt)) fun r => bnd (esc r) fun d => bnd (evDs Γ xs) fun ds => ret (d :: ds) := Eq.trans rfl rfl
theorem evDs_heap (a : E) (xs : List E) : evDs Γ (.heap a :: xs) = bnd (ev Γ (.heap a)) fun r => bnd (esc r) fun d => bnd (evDs Γ xs) fun ds => ret (d :: ds) := Eq.trans rfl rfl
theorem evDs_coll (t : Bool) (it : I) (xs : List E) : evDs Γ (.coll t it :: xs) = bnd (ev Γ (.coll t it)) fun r => bnd (esc r) fun d => bnd (evDs Γ xs) fun ds => ret (d :: ds) := Eq.trans rfl rfl
theorem evDs_rev (a : E) (xs : List E) : evDs Γ (.rev a :: xs) = bnd (ev Γ (.rev a)) fun r => bnd (esc r) fun d => bnd (evDs Γ xs) fun ds => ret (d :: ds) := Eq.trans rfl rfl
theorem evI_of (a : E) : evI Γ (.of a) = bnd (bnd (ev Γ a) esc) ofM := by rw [evI, bnd_assoc]; rfl
theorem evI_range (xs : List E) : evI Γ (.range xs) = bnd (evs Γ xs) fun rs => bnd (rsvs rs) fun as => opt (rangeI as) := Eq.trans rfl rfl
theorem evI_enum (a : E) : evI Γ (.enum a) = bnd (bnd (ev Γ a) esc) enM := by rw [evI, bnd_assoc]; rfl
theorem evI_zip (xs : List E) : evI Γ (.zip xs) = bnd (evDs Γ xs) zipM := by rw [evI]; rfl
theorem evTs_nil : evTs Γ [] = ret true := Eq.trans rfl rfl
theorem evTs_cons (c : E) (cs : List E) : evTs Γ (c :: cs) = bnd (evT Γ c) fun k => if k = true then evTs Γ cs else ret false := Eq.trans rfl rfl
theorem asgT_v (i : Nat) (x : D) : asgT Γ (.v i) x = setV i (.d x) := Eq.trans rfl rfl
theorem asgT_tup (ts : List T) (ds : List D) : asgT Γ (.tup ts) (.tup ds) = if ds.length = ts.length then asgTs Γ ts ds else fail := Eq.trans rfl rfl
theorem asgT_idx (a b : E) (x : D) : asgT Γ (.idx a b) x = bnd (ev Γ a) fun r => bnd (ev Γ b) fun y => bnd (rsv y) fun q => bnd (soAt r) fun so => setM x r q so := Eq.trans rfl rfl
theorem asgTs_nil (ds : List D) : asgTs Γ [] ds = ret () := Eq.trans rfl rfl
theorem asgTs_cons (t : T) (ts : List T) (d : D) (ds : List D) : asgTs Γ (t :: ts) (d :: ds) = bnd (asgT Γ t d) fun _ => asgTs Γ ts ds := Eq.trans rfl rfl
theorem exec_asg (t : T) (e : E) : exec Γ n (.asg t e) = bnd (ev Γ e) fun r => bnd (esc r) fun d => bnd (asgT Γ t d) fun _ => ret .nx := Eq.trans rfl rfl
theorem exec_own (i : Nat) (e : E) : exec Γ n (.own i e) = bnd (ev Γ e) fun r => ownM i r := Eq.trans rfl rfl
theorem exec_par (i j : Nat) (bi bj : Bool) (a b : E) : exec Γ n (.par [(i, bi), (j, bj)] [a, b]) = par2 i j bi bj (ev Γ a) (ev Γ b) := Eq.trans rfl rfl
theorem exec_ex (e : E) : exec Γ n (.ex e) = bnd (ev Γ e) fun _ => ret .nx := Eq.trans rfl rfl
theorem exec_ret (e : E) : exec Γ n (.ret e) = bnd (ev Γ e) fun r => ret (.ret r) := Eq.trans rfl rfl
theorem exec_retN : exec Γ n .retN = ret (.ret (.d .non)) := Eq.trans rfl rfl
theorem exec_iff (c : E) (a b : List S) : exec Γ n (.iff c a b) = bnd (evT Γ c) fun k => if k = true then execs Γ n a else execs Γ n b := Eq.trans rfl rfl
theorem exec_for (t : T) (it : I) (body : List S) : exec Γ n (.for t it body) = bnd (evI Γ it) fun items => loopFor (asgT Γ t) (execs Γ n body) items := Eq.trans rfl rfl
theorem exec_whl (c : E) (body : List S) : exec Γ n (.whl c body) = loopWhl (evT Γ c) (execs Γ n body) n := Eq.trans rfl rfl
theorem execs_nil : execs Γ n [] = ret .nx := Eq.trans rfl rfl
theorem execs_cons (s : S) (r : List S) : execs Γ n (s :: r) = bnd (exec Γ n s) fun fl => match fl with
    | .nx => execs Γ n r
    | fl => ret fl := Eq.trans rfl rfl
end
end Ev
end

section
set_option Elab.async false
set_option linter.all false
set_option maxRecDepth 100000
set_option maxHeartbeats 4000000
namespace Ev
open PySem (Str Operator CmpOp)

/-! ### data of whole numbers -/
theorem ints_map : ∀ xs : List Int, D.ints? (xs.map .int) = some xs
  | [] => rfl
  | x :: xs => by simp [D.ints?, ints_map xs]
theorem ints_map' {α : Type} (g : α → Int) : ∀ xs : List α, D.ints? (xs.map fun x => .int (g x)) = some (xs.map g)
  | [] => rfl
  | x :: xs => by simp [D.ints?, ints_map' g xs]
theorem bls_map {α : Type} (p : α → Bool) : ∀ xs : List α, D.bls? (xs.map fun x => .bl (p x)) = some (xs.map p)
  | [] => rfl
  | x :: xs => by simp [D.bls?, bls_map p xs]
theorem flats_int (n : Nat) : ∀ xs : List Int, D.flats n (xs.map .int) = true
  | [] => by simp [D.flats]
  | x :: xs => by
    have e : D.flat n (.int x) = true := by cases n <;> rfl
    simp [D.flats, flats_int n xs, e]
theorem alike_int (x y : Int) : PySem.W.alike (.int x) (.int y) = true := by simp [PySem.W.alike]
theorem alikeDs_int (xs : List Int) : alikeDs (xs.map .int) = true := by
  simp only [alikeDs, List.all_eq_true, List.mem_map, Bool.and_eq_true]
  rintro _ ⟨x, hx, rfl⟩
  refine ⟨rfl, ?_⟩
  rintro _ ⟨y, hy, rfl⟩
  exact alike_int x y
/-- the greatest, the least of a row that begins with x -/
def mxF (x : Int) (xs : List Int) : Int := xs.foldl (fun a y => if a < y then y else a) x
def mnF (x : Int) (xs : List Int) : Int := xs.foldl (fun a y => if y < a then y else a) x
theorem maxB_int : ∀ (x : Int) (xs : List Int), maxB (.int x) (xs.map .int) = .int (mxF x xs)
  | x, [] => rfl
  | x, y :: ys => by
    have ih := maxB_int (if x < y then y else x) ys
    unfold maxB mxF at ih ⊢
    rw [List.map_cons, List.foldl_cons, List.foldl_cons]
    have e : (if PySem.W.dataLt (D.int x).py (D.int y).py = true then D.int y else D.int x) = D.int (if x < y then y else x) := by
      show (if PySem.W.dataLt (.int x) (.int y) = true then D.int y else D.int x) = _
      rw [PySem.W.dataLt_int]
      by_cases h : x < y <;> simp [h]
    rw [e, ih]
theorem minB_int : ∀ (x : Int) (xs : List Int), minB (.int x) (xs.map .int) = .int (mnF x xs)
  | x, [] => rfl
  | x, y :: ys => by
    have ih := minB_int (if y < x then y else x) ys
    unfold minB mnF at ih ⊢
    rw [List.map_cons, List.foldl_cons, List.foldl_cons]
    have e : (if PySem.W.dataLt (D.int y).py (D.int x).py = true then D.int y else D.int x) = D.int (if y < x then y else x) := by
      show (if PySem.W.dataLt (.int y) (.int x) = true then D.int y else D.int x) = _
      rw [PySem.W.dataLt_int]
      by_cases h : y < x <;> simp [h]
    rw [e, ih]
theorem mxF_le {x : Int} {xs : List Int} {b : Int} : mxF x xs ≤ b ↔ x ≤ b ∧ ∀ y ∈ xs, y ≤ b := by
  induction xs generalizing x with
  | nil => simp [mxF]
  | cons y ys ih =>
    have e : mxF x (y :: ys) = mxF (if x < y then y else x) ys := rfl
    rw [e, ih]
    simp only [List.mem_cons, forall_eq_or_imp]
    constructor
    · rintro ⟨h1, h2⟩
      split at h1
      · exact ⟨by omega, by omega, h2⟩
      · exact ⟨by omega, by omega, h2⟩
    · rintro ⟨h1, h2, h3⟩
      refine ⟨?_, h3⟩
      split
      · exact h2
      · exact h1
theorem le_mnF {x : Int} {xs : List Int} {b : Int} : b ≤ mnF x xs ↔ b ≤ x ∧ ∀ y ∈ xs, b ≤ y := by
  induction xs generalizing x with
  | nil => simp [mnF]
  | cons y ys ih =>
    have e : mnF x (y :: ys) = mnF (if y < x then y else x) ys := rfl
    rw [e, ih]
    simp only [List.mem_cons, forall_eq_or_imp]
    constructor
    · rintro ⟨h1, h2⟩
      split at h1
      · exact ⟨by omega, by omega, h2⟩
      · exact ⟨by omega, by omega, h2⟩
    · rintro ⟨h1, h2, h3⟩
      refine ⟨?_, h3⟩
      split
      · exact h2
      · exact h1
theorem eq_of_le {a b : Int} (h : ∀ c, a ≤ c ↔ b ≤ c) : a = b := by
  have h1 := (h b).mpr (by omega)
  have h2 := (h a).mp (by omega)
  omega
theorem eq_of_ge {a b : Int} (h : ∀ c, c ≤ a ↔ c ≤ b) : a = b := by
  have h1 := (h b).mpr (by omega)
  have h2 := (h a).mp (by omega)
  omega
theorem biop_max (x : Int) (xs : List Int) (r : RA) (h : r.seq = some ((x :: xs).map .int)) : biop .max [r] = some (.d (.int (mxF x xs))) := by
  unfold biop
  simp only [h, List.map_cons]
  rw [if_pos ⟨flats_int DEEP (x :: xs), alikeDs_int (x :: xs)⟩, maxB_int]
theorem biop_min (x : Int) (xs : List Int) (r : RA) (h : r.seq = some ((x :: xs).map .int)) : biop .min [r] = some (.d (.int (mnF x xs))) := by
  unfold biop
  simp only [h, List.map_cons]
  rw [if_pos ⟨flats_int DEEP (x :: xs), alikeDs_int (x :: xs)⟩, minB_int]
theorem pys_map : ∀ xs : List D, D.pys xs = xs.map D.py
  | [] => rfl
  | x :: xs => by simp [D.pys, pys_map xs]
theorem eqvAll_int : ∀ xs ys : List Int, PySem.PyData.eqvAll (xs.map .int) (ys.map .int) = decide (xs = ys)
  | [], [] => by simp [PySem.PyData.eqvAll]
  | [], y :: ys => by simp [PySem.PyData.eqvAll]
  | x :: xs, [] => by simp [PySem.PyData.eqvAll]
  | x :: xs, y :: ys => by
    simp only [List.map_cons, PySem.PyData.eqvAll, PySem.PyData.eqv, eqvAll_int xs ys]
    by_cases h : x = y <;> simp [h]
theorem eqD_L (xs ys : List Int) : eqD ((D.lst (List.map D.int xs))) ((D.lst (List.map D.int ys))) = some (decide (xs = ys)) := by
  unfold eqD
  rw [if_pos ⟨flats_int 39 xs, flats_int 39 ys⟩]
  show some (PySem.PyData.eqvAll (D.pys _) (D.pys _)) = _
  rw [pys_map, pys_map, List.map_map, List.map_map]
  have e : (D.py ∘ D.int) = PySem.PyData.int := rfl
  rw [e, eqvAll_int]
theorem eqD_nil (xs : List Int) : eqD (.lst (xs.map .int)) (.lst []) = some (decide (xs = [])) := eqD_L xs []

/-! ### comprehensions over a row -/
theorem filterMap_if {α β γ : Type} (φ : α → β) (f : β → Option γ) (p : α → Bool) (g : α → γ) : ∀ xs : List α, (∀ x ∈ xs, f (φ x) = if p x = true then some (g x) else none) → (xs.map φ).filterMap f = (xs.filter p).map g
  | [], _ => rfl
  | x :: xs, h => by
    have ih := filterMap_if φ f p g xs fun y hy => h y (List.mem_cons_of_mem _ hy)
    have h1 := h x List.mem_cons_self
    rw [List.map_cons]
    by_cases q : p x = true
    · rw [if_pos q] at h1
      rw [List.filterMap_cons_some h1, List.filter_cons_of_pos q, List.map_cons, ih]
    · rw [if_neg q] at h1
      rw [List.filterMap_cons_none h1, List.filter_cons_of_neg q, ih]
theorem loopLc_fil {α : Type} {own : List Nat} {body : D → M (Option D)} {ss : SS} (φ : α → D) (p : α → Bool) (g : α → D) : ∀ {xs : List α} {acc : List D}, (∀ x ∈ xs, ∃ s2, body (φ x) ss = some (if p x = true then some (g x) else none, s2) ∧ (⟨wipeE s2.env own, s2.st⟩ : SS) = ss) → acc.length + xs.length ≤ LIM →
    loopLc own body (xs.map φ) acc ss = some (acc ++ (xs.filter p).map g, ss)
  | [], acc, _, _ => by simp [loopLc, ret]
  | x :: xs, acc, h, hl => by
    obtain ⟨s2, e1, e2⟩ := h x List.mem_cons_self
    have hl' : acc.length + (xs.length + 1) ≤ LIM := by simpa using hl
    rw [List.map_cons, loopLc, bnd_of e1]
    show bnd (fun ss => some ((), ⟨wipeE ss.env own, ss.st⟩)) _ s2 = _
    rw [bnd_of (a := ()) (s1 := ss) (by rw [← e2])]
    by_cases q : p x = true
    · rw [if_pos q, List.filter_cons_of_pos q]
      show (if acc.length < LIM then loopLc own body (xs.map φ) (acc ++ [g x]) else fail) ss = _
      rw [if_pos (by omega), loopLc_fil φ p g (fun y hy => h y (List.mem_cons_of_mem _ hy)) (by simp; omega)]
      simp
    · rw [if_neg q, List.filter_cons_of_neg q]
      exact loopLc_fil φ p g (fun y hy => h y (List.mem_cons_of_mem _ hy)) (by omega)
section
variable {Γ : Gam} {α : Type} {own : List Nat} {t : T} {it : I} {ifs : List E} {elt : E} {ss : SS} {env : List (Option EV)} {st : List SO}
theorem lc_fil (xs : List α) (φ : α → D) (p : α → Bool) (g : α → D) (hi : evI Γ it ss = some (xs.map φ, ⟨env, st⟩))
    (hb : ∀ x ∈ xs, ∃ env2, lcB Γ t ifs elt (φ x) ⟨wipeE env own, st⟩ = some (if p x = true then some (g x) else none, ⟨env2, st⟩) ∧ wipeE env2 own = wipeE env own) (hl : xs.length ≤ LIM) :
    ev Γ (.lc own t it ifs elt) ss = some (.new (.lst ((xs.filter p).map g)), ⟨backE env (wipeE env own) own, st⟩) := by
  rw [ev, bnd_of hi]
  have e := loopLc_fil (own := own) (body := lcB Γ t ifs elt) (ss := ⟨wipeE env own, st⟩) φ p g (xs := xs) (acc := []) (fun x hx => by
    obtain ⟨env2, e1, e2⟩ := hb x hx
    exact ⟨⟨env2, st⟩, e1, by rw [e2]⟩) (by simpa using hl)
  rw [List.nil_append] at e
  show (match loopLc own (lcB Γ t ifs elt) (xs.map φ) [] ⟨wipeE env own, st⟩ with
    | some (ds, ss') => some (RV.new (.lst ds), (⟨backE env ss'.env own, ss'.st⟩ : SS))
    | none => none) = _
  rw [e]
theorem lc_map (xs : List α) (φ : α → D) (g : α → D) (hi : evI Γ it ss = some (xs.map φ, ⟨env, st⟩))
    (hb : ∀ x ∈ xs, ∃ env2, lcB Γ t ifs elt (φ x) ⟨wipeE env own, st⟩ = some (some (g x), ⟨env2, st⟩) ∧ wipeE env2 own = wipeE env own) (hl : xs.length ≤ LIM) :
    ev Γ (.lc own t it ifs elt) ss = some (.new (.lst (xs.map g)), ⟨backE env (wipeE env own) own, st⟩) := by
  have e := lc_fil (Γ := Γ) (own := own) (t := t) (it := it) (ifs := ifs) (elt := elt) (ss := ss) (env := env) (st := st) xs φ (fun _ => true) g hi (fun x hx => by
    obtain ⟨env2, e1, e2⟩ := hb x hx
    exact ⟨env2, by rw [e1]; rfl, e2⟩) hl
  rwa [List.filter_eq_self.mpr (fun _ _ => rfl)] at e
end
/-- a loop that goes on through all its items -/
theorem loopFor_fold {α σ : Type} {asg : D → M Unit} {body : M Fl} (S : σ → SS) (φ : α → D) (f : σ → α → σ) : ∀ {xs : List α} {s : σ}, (∀ x ∈ xs, ∀ s, ∃ s1 s2 fl, asg (φ x) (S s) = some ((), s1) ∧ body s1 = some (fl, s2) ∧ (fl = .nx ∨ fl = .cnt) ∧ s2 = S (f s x)) →
    loopFor asg body (xs.map φ) (S s) = some (.nx, S (xs.foldl f s))
  | [], s, _ => rfl
  | x :: xs, s, h => by
    obtain ⟨s1, s2, fl, e1, e2, hf, rfl⟩ := h x List.mem_cons_self s
    rw [List.map_cons, loopFor, bnd_of e1, List.foldl_cons]
    show bnd body _ s1 = _
    rw [bnd_of e2]
    have ih := loopFor_fold S φ f (xs := xs) (s := f s x) fun y hy => h y (List.mem_cons_of_mem _ hy)
    rcases hf with rfl | rfl <;> exact ih
/-- the same, with what holds of its states -/
theorem loopFor_inv {α σ : Type} {asg : D → M Unit} {body : M Fl} (S : σ → SS) (φ : α → D) (f : σ → α → σ) (P : σ → Prop) : ∀ {xs : List α} {s : σ}, P s → (∀ x ∈ xs, ∀ s, P s → P (f s x) ∧ ∃ s1 s2 fl, asg (φ x) (S s) = some ((), s1) ∧ body s1 = some (fl, s2) ∧ (fl = .nx ∨ fl = .cnt) ∧ s2 = S (f s x)) →
    loopFor asg body (xs.map φ) (S s) = some (.nx, S (xs.foldl f s))
  | [], s, _, _ => rfl
  | x :: xs, s, p, h => by
    obtain ⟨p', s1, s2, fl, e1, e2, hf, rfl⟩ := h x List.mem_cons_self s p
    rw [List.map_cons, loopFor, bnd_of e1, List.foldl_cons]
    show bnd body _ s1 = _
    rw [bnd_of e2]
    have ih := loopFor_inv S φ f P (xs := xs) (s := f s x) p' fun y hy => h y (List.mem_cons_of_mem _ hy)
    rcases hf with rfl | rfl <;> exact ih
theorem cut_drop (fs : List Int) (k : Nat) : cutD (fs.map .int) (some (k : Int)) none = (fs.drop k).map .int := by
  unfold cutD
  rw [HT.sIx_nat, HT.sIx_none, List.length_map, List.take_of_length_le (by simp only [List.length_drop, List.length_map]; omega), ← List.map_drop]
  by_cases h : k ≤ fs.length
  · rw [Nat.min_eq_left h]
  · rw [Nat.min_eq_right (by omega), List.drop_of_length_le (by omega), List.drop_of_length_le (by omega)]
theorem cut_take (fs : List Int) (k : Nat) : cutD (fs.map .int) none (some (k : Int)) = (fs.take k).map .int := by
  unfold cutD
  rw [HT.sIx_nat, HT.sIx_none, List.length_map, List.drop_zero, Nat.sub_zero, ← List.map_take]
  by_cases h : k ≤ fs.length
  · rw [Nat.min_eq_left h]
  · rw [Nat.min_eq_right (by omega), List.take_of_length_le (by omega), List.take_of_length_le (by omega)]
theorem at_map {α : Type} (φ : α → D) (xs : List α) (k : Nat) (h : k < xs.length) : atD (xs.map φ) (k : Int) = some (φ xs[k]) := by
  unfold atD L2.atI L2.ixN
  rw [if_pos (by omega), List.length_map, if_pos (by omega)]
  simp [h]
theorem range_nat (n : Nat) (h : n < 2 ^ 62) : rangeI [.d (.int (n : Int))] = some ((List.range n).map fun k : Nat => .int (k : Int)) := by
  have e : small62 (n : Int) = true := by unfold small62; simp only [decide_eq_true_eq]; omega
  simp [rangeI, e, rangeD]
theorem range_nat2 (a n : Nat) (h : a + n < 2 ^ 62) : rangeI [.d (.int (a : Int)), .d (.int ((a : Int) + n))] = some ((List.range n).map fun k : Nat => .int ((a : Int) + k)) := by
  have e : small62 ((a : Int) + n) = true := by unfold small62; simp only [decide_eq_true_eq]; omega
  have e2 : small62 (a : Int) = true := by unfold small62; simp only [decide_eq_true_eq]; omega
  have e3 : ((a : Int) + n - a).toNat = n := by omega
  simp [rangeI, e, e2, rangeD, e3]
theorem enumD_map (φ : Int → D) : ∀ (i : Nat) (xs : List Int), enumD i (xs.map φ) = (xs.zipIdx i).map fun p => .tup [.int (p.2 : Int), φ p.1]
  | i, [] => rfl
  | i, x :: xs => by simp [enumD, enumD_map φ (i + 1) xs]
theorem exec_seq {Γ : Gam} {n : Nat} {s : S} {r : List S} {ss s1 : SS} (h : exec Γ n s ss = some (.nx, s1)) : execs Γ n (s :: r) ss = execs Γ n r s1 := by
  rw [execs, bnd_of h]
theorem exec_out {Γ : Gam} {n : Nat} {s : S} {r : List S} {ss s1 : SS} {x : RV} (h : exec Γ n s ss = some (.ret x, s1)) : execs Γ n (s :: r) ss = some (.ret x, s1) := by
  rw [execs, bnd_of h]; rfl
/-- a loop by what it has gone through -/
theorem loopFor_pre {α : Type} {asg : D → M Unit} {body : M Fl} (S : List α → SS) (φ : α → D) (xs : List α) (h : ∀ pre x post, xs = pre ++ x :: post → ∃ s1 fl, asg (φ x) (S pre) = some ((), s1) ∧ body s1 = some (fl, S (pre ++ [x])) ∧ (fl = .nx ∨ fl = .cnt)) :
    loopFor asg body (xs.map φ) (S []) = some (.nx, S xs) := by
  have key : ∀ (post pre : List α), xs = pre ++ post → loopFor asg body (post.map φ) (S pre) = some (.nx, S xs) := by
    intro post
    induction post with
    | nil => intro pre e; rw [e, List.append_nil]; rfl
    | cons x post ih =>
      intro pre e
      obtain ⟨s1, fl, e1, e2, hf⟩ := h pre x post e
      rw [List.map_cons, loopFor, bnd_of e1]
      show bnd body _ s1 = _
      rw [bnd_of e2]
      have i2 := ih (pre ++ [x]) (by rw [e]; simp)
      rcases hf with rfl | rfl <;> exact i2
  exact key xs [] rfl
theorem exec_for_pre {α : Type} {Γ : Gam} {n : Nat} {t : T} {it : I} {body : List S} {ss : SS} (S : List α → SS) (φ : α → D) (xs : List α) (hi : evI Γ it ss = some (xs.map φ, S [])) (h : ∀ pre x post, xs = pre ++ x :: post → ∃ s1 fl, asgT Γ t (φ x) (S pre) = some ((), s1) ∧ execs Γ n body s1 = some (fl, S (pre ++ [x])) ∧ (fl = .nx ∨ fl = .cnt)) :
    exec Γ n (.for t it body) ss = some (.nx, S xs) := by
  rw [exec_for, bnd_of hi]
  exact loopFor_pre S φ xs h
end Ev
end

section
set_option Elab.async false
set_option linter.all false
set_option maxRecDepth 100000
set_option maxHeartbeats 4000000
namespace Ev
open PySem (Str Operator CmpOp)
/-! ### the frame -/
theorem entry_at (N : List Str) (ds : List D) (st : List SO) : entry N ds st = ⟨ds.map (fun d => some (.d d)) ++ List.replicate (N.length - ds.length) none, st⟩ := Eq.trans rfl rfl
theorem bnd_at {α β : Type} (m : M α) (f : α → M β) (ss : SS) : bnd m f ss = match m ss with
    | some (a, ss') => f a ss'
    | none => none := Eq.trans rfl rfl
theorem ret_at {α : Type} (a : α) (ss : SS) : ret a ss = some (a, ss) := Eq.trans rfl rfl
theorem opt_at {α : Type} (a : α) (ss : SS) : opt (some a) ss = some (a, ss) := Eq.trans rfl rfl
theorem rsv_at (x : RV) (ss : SS) : rsv x ss = match res ss x with
    | some a => some (a, ss)
    | none => none := Eq.trans rfl rfl
theorem rsvs_nil (ss : SS) : rsvs [] ss = some ([], ss) := Eq.trans rfl rfl
theorem rsvs_at (x : RV) (xs : List RV) (ss : SS) : rsvs (x :: xs) ss = match resAll ss (x :: xs) with
    | some a => some (a, ss)
    | none => none := Eq.trans rfl rfl
theorem rsvDs_at (x : List D) (ss : SS) : rsvDs x ss = match resDs ss x with
    | some a => some (a, ss)
    | none => none := Eq.trans rfl rfl
theorem resAll_nil (ss : SS) : resAll ss [] = some [] := Eq.trans rfl rfl
theorem resAll_cons (ss : SS) (x : RV) (xs : List RV) : resAll ss (x :: xs) = match res ss x, resAll ss xs with
    | some a, some as => some (a :: as)
    | _, _ => none := Eq.trans rfl rfl
theorem resDs_nil (ss : SS) : resDs ss [] = some [] := Eq.trans rfl rfl
theorem resDs_cons (ss : SS) (x : D) (xs : List D) : resDs ss (x :: xs) = match resD ss x, resDs ss xs with
    | some a, some as => some (a :: as)
    | _, _ => none := Eq.trans rfl rfl
theorem par2_at (i j : Nat) (bi bj : Bool) (m n : M RV) : par2 i j bi bj m n = bnd m fun r1 => bnd n fun r2 => bnd (asEV bi r1) fun e1 => bnd (asEV bj r2) fun e2 => bnd (setV i e1) fun _ => bnd (setV j e2) fun _ => ret .nx := Eq.trans rfl rfl
theorem kindM_at (m : MI) (x : RV) (ss : SS) : kindM m x ss = match res ss x with
    | some a => if m.tyOk a = true then some ((), ss) else none
    | none => none := Eq.trans rfl rfl
theorem setM_lst (x : D) (r : RV) (k : Int) (ds : List D) : setM x r (.d (.int k)) (.lst ds) = match L2.ixN ds.length k with
    | some j => putAt r (.lst (ds.set j x))
    | none => fail := Eq.trans rfl rfl
theorem heapM_new (so : SO) (ss : SS) : heapM (.new so) ss = some (.d (.ref ss.st.length), ⟨ss.env, ss.st ++ [so]⟩) := Eq.trans rfl rfl
theorem dat_d (x : D) : RA.dat (.d x) = some x := Eq.trans rfl rfl
theorem dat_own (x : List D) : RA.dat (.own (.lst x)) = some (.lst x) := Eq.trans rfl rfl
theorem wipeE_nil (env : List (Option EV)) : wipeE env [] = env := Eq.trans rfl rfl
theorem wipeE_cons (env : List (Option EV)) (v : Nat) (vs : List Nat) : wipeE env (v :: vs) = (wipeE env vs).set v none := Eq.trans rfl rfl
theorem backE_nil (old env : List (Option EV)) : backE old env [] = env := Eq.trans rfl rfl
theorem backE_cons (old env : List (Option EV)) (v : Nat) (vs : List Nat) : backE old env (v :: vs) = (backE old env vs).set v (backV old v) := Eq.trans rfl rfl
theorem backV_at (old : List (Option EV)) (v : Nat) : backV old v = match old[v]? with
    | some (some (.d x)) => some (.d x)
    | _ => none := Eq.trans rfl rfl
theorem lcB_at (Γ : Gam) (t : T) (ifs : List E) (elt : E) (x : D) : lcB Γ t ifs elt x = bnd (asgT Γ t x) fun _ => bnd (evTs Γ ifs) fun k => if k = true then bnd (ev Γ elt) fun r => bnd (esc r) fun d => ret (some d) else ret none := Eq.trans rfl rfl
/-! ### operations on what they meet -/
theorem bo_add (i j : Int) : binop .Add (.d (.int i)) (.d (.int j)) = some (.d (.int (i + j))) := Eq.trans rfl rfl
theorem bo_sub (i j : Int) : binop .Sub (.d (.int i)) (.d (.int j)) = some (.d (.int (i - j))) := Eq.trans rfl rfl
theorem bo_mul (i j : Int) : binop .Mult (.d (.int i)) (.d (.int j)) = if (-(2 ^ 64) < i ∧ i < 2 ^ 64) ∨ (-(2 ^ 64) < j ∧ j < 2 ^ 64) then some (.d (.int (i * j))) else none := Eq.trans rfl rfl
theorem bo_fd (i j : Int) : binop .FloorDiv (.d (.int i)) (.d (.int j)) = if 0 < j ∧ j < 1073741824 then some (.d (.int (i / j))) else none := Eq.trans rfl rfl
theorem bo_mod (i j : Int) : binop .Mod (.d (.int i)) (.d (.int j)) = if 0 < j then some (.d (.int (i % j))) else none := Eq.trans rfl rfl
theorem bo_pow (i j : Int) : binop .Pow (.d (.int i)) (.d (.int j)) = if 0 ≤ j ∧ j ≤ 100 ∧ i.natAbs < 2 ^ 1000 then some (.d (.int (i ^ j.toNat))) else none := Eq.trans rfl rfl
theorem bo_addT (xs ys : List D) : binop .Add (.d (.tup xs)) (.d (.tup ys)) = if xs.length + ys.length ≤ LIM then some (.d (.tup (xs ++ ys))) else none := Eq.trans rfl rfl
theorem bo_rep (xs : List D) (k : Int) : binop .Mult (.own (.lst xs)) (.d (.int k)) = if 0 ≤ k ∧ k ≤ LIM ∧ xs.length * k.toNat ≤ LIM then some (.new (.lst (List.replicate k.toNat xs).flatten)) else none := Eq.trans rfl rfl
theorem co_lt (i j : Int) : cmpop .Lt (.d (.int i)) (.d (.int j)) = some (decide (i < j)) := Eq.trans rfl rfl
theorem co_le (i j : Int) : cmpop .LtE (.d (.int i)) (.d (.int j)) = some (decide (i ≤ j)) := Eq.trans rfl rfl
theorem co_gt (i j : Int) : cmpop .Gt (.d (.int i)) (.d (.int j)) = some (decide (j < i)) := Eq.trans rfl rfl
theorem co_ge (i j : Int) : cmpop .GtE (.d (.int i)) (.d (.int j)) = some (decide (j ≤ i)) := Eq.trans rfl rfl
theorem co_eq (i j : Int) : cmpop .Eq (.d (.int i)) (.d (.int j)) = some (decide (i = j)) := Eq.trans rfl rfl
theorem co_ne (i j : Int) : cmpop .NotEq (.d (.int i)) (.d (.int j)) = some (!decide (i = j)) := Eq.trans rfl rfl
theorem co_isb (a b : Bool) : cmpop .Is (.d (.bl a)) (.d (.bl b)) = some (decide (a = b)) := Eq.trans rfl rfl
theorem co_isnb (a b : Bool) : cmpop .IsNot (.d (.bl a)) (.d (.bl b)) = some (!decide (a = b)) := Eq.trans rfl rfl
theorem co_isN (x : RA) : cmpop .Is x (.d .non) = some x.isN := by cases x with | d x => cases x <;> rfl | own => rfl | rf => rfl
theorem co_isnN (x : RA) : cmpop .IsNot x (.d .non) = some (!x.isN) := by cases x with | d x => cases x <;> rfl | own => rfl | rf => rfl
theorem isN_int (i : Int) : RA.isN (.d (.int i)) = false := Eq.trans rfl rfl
theorem isN_non : RA.isN (.d .non) = true := Eq.trans rfl rfl
theorem isN_tup (i : List D) : RA.isN (.d (.tup i)) = false := Eq.trans rfl rfl
theorem isN_lst (i : List D) : RA.isN (.d (.lst i)) = false := Eq.trans rfl rfl
theorem co_eqs (x y : Str) : cmpop .Eq (.d (.str x)) (.d (.str y)) = eqD (.str x) (.str y) := Eq.trans rfl rfl
theorem co_nes (x y : Str) : cmpop .NotEq (.d (.str x)) (.d (.str y)) = (eqD (.str x) (.str y)).map (!·) := Eq.trans rfl rfl
theorem eqD_str (x y : Str) : eqD (.str x) (.str y) = some (x == y) := by
  unfold eqD; rw [if_pos ⟨rfl, rfl⟩]; simp [D.py, PySem.PyData.eqv]
theorem co_neL1 (x y : List D) : cmpop .NotEq (.own (.lst x)) (.own (.lst y)) = (eqD (.lst x) (.lst y)).map (!·) := Eq.trans rfl rfl
theorem co_neL2 (x y : List D) : cmpop .NotEq (.d (.lst x)) (.own (.lst y)) = (eqD (.lst x) (.lst y)).map (!·) := Eq.trans rfl rfl
theorem co_neL3 (x y : List D) : cmpop .NotEq (.d (.lst x)) (.d (.lst y)) = (eqD (.lst x) (.lst y)).map (!·) := Eq.trans rfl rfl
theorem co_eqL1 (x y : List D) : cmpop .Eq (.own (.lst x)) (.own (.lst y)) = eqD (.lst x) (.lst y) := Eq.trans rfl rfl
theorem co_in (x : D) (y : RA) (hi : ∀ j, y ≠ .d (.int j)) : cmpop .In (.d x) y = match y.seq with
    | some ys => if D.flat DEEP x = true ∧ D.flats DEEP ys = true then some (ys.any fun b => PySem.PyData.eqv b.py x.py) else none
    | none => none := by
  cases y with
  | own so => cases so <;> cases x <;> rfl
  | rf k so => cases so <;> cases x <;> rfl
  | d y => cases y with
    | int j => exact absurd rfl (hi j)
    | _ => cases x <;> rfl
theorem in_tup (x : D) (ys : List D) : cmpop .In (.d x) (.d (.tup ys)) = if D.flat DEEP x = true ∧ D.flats DEEP ys = true then some (ys.any fun b => PySem.PyData.eqv b.py x.py) else none := co_in x _ fun j h => by cases h
theorem in_own (x : D) (ys : List D) : cmpop .In (.d x) (.own (.lst ys)) = if D.flat DEEP x = true ∧ D.flats DEEP ys = true then some (ys.any fun b => PySem.PyData.eqv b.py x.py) else none := co_in x _ fun j h => by cases h
theorem tr_b (b : Bool) : truth (.d (.bl b)) = some b := Eq.trans rfl rfl
theorem res_int (ss : SS) (i : Int) : res ss (.d (.int i)) = some (.d (.int i)) := Eq.trans rfl rfl
theorem res_bl (ss : SS) (i : Bool) : res ss (.d (.bl i)) = some (.d (.bl i)) := Eq.trans rfl rfl
theorem res_str (ss : SS) (i : Str) : res ss (.d (.str i)) = some (.d (.str i)) := Eq.trans rfl rfl
theorem res_non (ss : SS) : res ss (.d .non) = some (.d .non) := Eq.trans rfl rfl
theorem res_tup (ss : SS) (i : List D) : res ss (.d (.tup i)) = some (.d (.tup i)) := Eq.trans rfl rfl
theorem res_lst (ss : SS) (i : List D) : res ss (.d (.lst i)) = some (.d (.lst i)) := Eq.trans rfl rfl
theorem res_new (ss : SS) (i : SO) : res ss (.new i) = some (.own i) := Eq.trans rfl rfl
theorem res_slot (env : List (Option EV)) (st : List SO) (i : Nat) : res ⟨env, st⟩ (.slot i) = match env[i]? with
    | some (some (.own so)) => some (.own so)
    | some (some (.d x)) => resD ⟨env, st⟩ x
    | _ => none := Eq.trans rfl rfl
theorem res_ref (env : List (Option EV)) (st : List SO) (k : Nat) : res ⟨env, st⟩ (.d (.ref k)) = (st[k]?).map (RA.rf k) := Eq.trans rfl rfl
theorem resD_int (ss : SS) (i : Int) : resD ss (.int i) = some (.d (.int i)) := Eq.trans rfl rfl
theorem resD_bl (ss : SS) (i : Bool) : resD ss (.bl i) = some (.d (.bl i)) := Eq.trans rfl rfl
theorem resD_str (ss : SS) (i : Str) : resD ss (.str i) = some (.d (.str i)) := Eq.trans rfl rfl
theorem resD_non (ss : SS) : resD ss .non = some (.d .non) := Eq.trans rfl rfl
theorem resD_tup (ss : SS) (i : List D) : resD ss (.tup i) = some (.d (.tup i)) := Eq.trans rfl rfl
theorem resD_lst (ss : SS) (i : List D) : resD ss (.lst i) = some (.d (.lst i)) := Eq.trans rfl rfl
theorem seq_tup (x : List D) : RA.seq (.d (.tup x)) = some x := Eq.trans rfl rfl
theorem seq_lst (x : List D) : RA.seq (.d (.lst x)) = some x := Eq.trans rfl rfl
theorem seq_own (x : List D) : RA.seq (.own (.lst x)) = some x := Eq.trans rfl rfl
theorem seq_rf (k : Nat) (x : List D) : RA.seq (.rf k (.lst x)) = some x := Eq.trans rfl rfl
theorem lseq_lst (x : List D) : RA.lseq (.d (.lst x)) = some x := Eq.trans rfl rfl
theorem lseq_own (x : List D) : RA.lseq (.own (.lst x)) = some x := Eq.trans rfl rfl
theorem lseq_rf (k : Nat) (x : List D) : RA.lseq (.rf k (.lst x)) = some x := Eq.trans rfl rfl
theorem bi_len (x : RA) : biop .len [x] = match x.seq with
    | some ds => some (.d (.int ds.length))
    | none => none := Eq.trans rfl rfl
theorem bi_sum (x : RA) : biop .sum [x] = match x.seq with
    | some ds => (match D.ints? ds with
      | some is => some (.d (.int is.sum))
      | none => none)
    | none => none := Eq.trans rfl rfl
theorem bi_all (x : RA) : biop .all [x] = match x.lseq with
    | some ds => (match D.bls? ds with
      | some is => some (.d (.bl (is.all id)))
      | none => none)
    | none => none := Eq.trans rfl rfl
theorem bi_any (x : RA) : biop .any [x] = match x.lseq with
    | some ds => (match D.bls? ds with
      | some is => some (.d (.bl (is.any id)))
      | none => none)
    | none => none := Eq.trans rfl rfl
theorem bi_tuple (x : RA) : biop .tuple [x] = match x.seq with
    | some ds => some (.d (.tup ds))
    | none => none := Eq.trans rfl rfl
theorem bi_max2 (i j : Int) : biop .max [.d (.int i), .d (.int j)] = some (.d (.int (max i j))) := by
  show some (RV.d (.int (if j > i then j else i))) = _
  congr 3
  split <;> omega
theorem bi_min2 (i j : Int) : biop .min [.d (.int i), .d (.int j)] = some (.d (.int (min i j))) := by
  show some (RV.d (.int (if j < i then j else i))) = _
  congr 3
  split <;> omega
theorem bi_int (i : Int) : biop .int [.d (.int i)] = some (.d (.int i)) := Eq.trans rfl rfl
theorem bi_intb (i : Bool) : biop .int [.d (.bl i)] = some (.d (.int (if i then 1 else 0))) := Eq.trans rfl rfl
theorem bi_abs (i : Int) : biop .abs [.d (.int i)] = some (.d (.int (if i < 0 then -i else i))) := Eq.trans rfl rfl
theorem bi_isI (t : Ty) (x : RA) : biop (.isI t) [x] = (D.tyIs t x).map fun b => .d (.bl b) := Eq.trans rfl rfl
theorem ti_int (t : Ty) (i : Int) : D.tyIs t (.d (.int i)) = some (t == .int) := Eq.trans rfl rfl
theorem ti_bl (t : Ty) (i : Bool) : D.tyIs t (.d (.bl i)) = some (t == .bool || t == .int) := Eq.trans rfl rfl
theorem ti_str (t : Ty) (i : Str) : D.tyIs t (.d (.str i)) = some (t == .str) := Eq.trans rfl rfl
theorem ti_tup (t : Ty) (i : List D) : D.tyIs t (.d (.tup i)) = some (t == .tuple) := Eq.trans rfl rfl
theorem ti_lst (t : Ty) (i : List D) : D.tyIs t (.d (.lst i)) = some (t == .list) := Eq.trans rfl rfl
theorem mt_app (ds : List D) (x : D) (rs : List RA) : mtop .append (.lst ds) [x] rs = if ds.length < LIM then some (.non, .lst (ds ++ [x])) else none := Eq.trans rfl rfl
theorem mt_ext (ds : List D) (x : List D) (r : RA) : mtop .extend (.lst ds) x [r] = match r.lseq with
    | some es => if ds.length + es.length ≤ LIM then some (.non, .lst (ds ++ es)) else none
    | none => none := Eq.trans rfl rfl
theorem ty_app (a : RA) : MI.tyOk .append a = a.lseq.isSome := Eq.trans rfl rfl
theorem ty_ext (a : RA) : MI.tyOk .extend a = a.lseq.isSome := Eq.trans rfl rfl
theorem ix_seq (x : RA) (k : Int) : idxop x (.d (.int k)) = match x.seq with
    | some ds => atD ds k
    | none => none := by
  unfold idxop
  cases x.seq <;> rfl
theorem sl_tup (ds : List D) (lo hi : Option Int) : slcop (.d (.tup ds)) lo hi = some (.d (.tup (cutD ds lo hi))) := Eq.trans rfl rfl
theorem sl_lst (ds : List D) (lo hi : Option Int) : slcop (.d (.lst ds)) lo hi = some (.new (.lst (cutD ds lo hi))) := Eq.trans rfl rfl
theorem sl_own (ds : List D) (lo hi : Option Int) : slcop (.own (.lst ds)) lo hi = some (.new (.lst (cutD ds lo hi))) := Eq.trans rfl rfl
theorem rv_tup (ds : List D) : revop (.d (.tup ds)) = some (.d (.tup ds.reverse)) := Eq.trans rfl rfl
theorem esc_d (x : D) : esc (.d x) = ret x := Eq.trans rfl rfl
theorem esc_new (x : List D) : esc (.new (.lst x)) = ret (.lst x) := Eq.trans rfl rfl
theorem esc_slot (i : Nat) (env : List (Option EV)) (st : List SO) : esc (.slot i) ⟨env, st⟩ = match env[i]? with
    | some (some (.own (.lst ds))) => some (.lst ds, ⟨env.set i (some (.d (.lst ds))), st⟩)
    | some (some (.d x)) => some (x, ⟨env, st⟩)
    | _ => none := Eq.trans rfl rfl
theorem ofM_tup (ds : List D) : ofM (.tup ds) = ret ds := Eq.trans rfl rfl
theorem ofM_lst (ds : List D) : ofM (.lst ds) = ret ds := Eq.trans rfl rfl
theorem enM_tup (ds : List D) : enM (.tup ds) = if ds.length ≤ LIM then ret (enumD 0 ds) else fail := Eq.trans rfl rfl
theorem enM_lst (ds : List D) : enM (.lst ds) = if ds.length ≤ LIM then ret (enumD 0 ds) else fail := Eq.trans rfl rfl
theorem asEV_t (x : SO) : asEV true (.new x) = ret (.own x) := Eq.trans rfl rfl
theorem asEV_f (r : RV) : asEV false r = bnd (esc r) fun d => ret (.d d) := by cases r <;> rfl
theorem ownM_new (i : Nat) (x : SO) : ownM i (.new x) = bnd (setV i (.own x)) fun _ => ret .nx := Eq.trans rfl rfl
theorem putAt_slot (i : Nat) (so : SO) (env : List (Option EV)) (st : List SO) : putAt (.slot i) so ⟨env, st⟩ = match env[i]? with
    | some (some (.own _)) => some ((), ⟨env.set i (some (.own so)), st⟩)
    | _ => none := Eq.trans rfl rfl
theorem soAt_slot (i : Nat) (env : List (Option EV)) (st : List SO) : soAt (.slot i) ⟨env, st⟩ = match env[i]? with
    | some (some (.own so)) => some (so, ⟨env, st⟩)
    | _ => none := Eq.trans rfl rfl
theorem getV_at (i : Nat) (env : List (Option EV)) (st : List SO) : getV i ⟨env, st⟩ = match env[i]? with
    | some (some (.d x)) => some (.d x, ⟨env, st⟩)
    | some (some (.own _)) => some (.slot i, ⟨env, st⟩)
    | _ => none := Eq.trans rfl rfl
theorem setV_at (i : Nat) (e : EV) (env : List (Option EV)) (st : List SO) : setV i e ⟨env, st⟩ = if i < env.length then some ((), ⟨env.set i (some e), st⟩) else none := Eq.trans rfl rfl
theorem partI_na (m : M RV) : partI .na m = ret none := Eq.trans rfl rfl
theorem partI_c (x : D) (m : M RV) : partI (.c x) m = bnd m fun x => match x with
    | .d (.int i) => ret (some i)
    | _ => fail := Eq.trans rfl rfl
theorem partI_v (x : Nat) (m : M RV) : partI (.v x) m = bnd m fun x => match x with
    | .d (.int i) => ret (some i)
    | _ => fail := Eq.trans rfl rfl
theorem partI_bin (o : Operator) (a b : E) (m : M RV) : partI (.bin o a b) m = bnd m fun x => match x with
    | .d (.int i) => ret (some i)
    | _ => fail := Eq.trans rfl rfl
theorem callM_some (den : Den) (ds : List D) (env : List (Option EV)) (st : List SO) : callM (some den) ds ⟨env, st⟩ = match den ds st with
    | some (r, st') => some (r, ⟨env, st'⟩)
    | none => none := Eq.trans rfl rfl
theorem zp_2 (x y : D) : zipM [x, y] = match (RA.d x).seq, (RA.d y).seq with
    | some xs, some ys => ret (zipD xs ys)
    | _, _ => fail := Eq.trans rfl rfl
theorem zp_3 (x y z : D) : zipM [x, y, z] = match (RA.d x).seq, (RA.d y).seq, (RA.d z).seq with
    | some xs, some ys, some zs => ret (zipD3 xs ys zs)
    | _, _, _ => fail := Eq.trans rfl rfl
theorem mtM_at (mi : MI) (r : RV) (ds : List D) : mtM mi r ds = bnd (rsvDs ds) fun rs => bnd (soAt r) fun so => bnd (opt (mtop mi so ds rs)) fun p => bnd (putAt r p.2) fun _ => ret (.d p.1) := Eq.trans rfl rfl
theorem ints_drop (k : Nat) (fs : List Int) : D.ints? (List.drop k (fs.map .int)) = some (fs.drop k) := by rw [← List.map_drop, ints_map]
theorem ints_take (k : Nat) (fs : List Int) : D.ints? (List.take k (fs.map .int)) = some (fs.take k) := by rw [← List.map_take, ints_map]
theorem lim_0 : 0 ≤ LIM := by decide
theorem lim_1 : 1 ≤ LIM := by decide
theorem lim_2 : 2 ≤ LIM := by decide
theorem lim_3 : 3 ≤ LIM := by decide
theorem lim_4 : 4 ≤ LIM := by decide
theorem lim_5 : 5 ≤ LIM := by decide
theorem lim_6 : 6 ≤ LIM := by decide
theorem lim_7 : 7 ≤ LIM := by decide
theorem lim_8 : 8 ≤ LIM := by decide
theorem evs_F1 {α : Type} {Γ : Gam} {e : E} {ss s1 : SS} {x : Int} (F : List RA → M α) (h : ev Γ e ss = some (.d (.int x), s1)) : bnd (evs Γ [e]) (fun rs => bnd (rsvs rs) F) ss = F [.d (.int x)] s1 := by
  rw [evs, bnd_assoc, bnd_of h, bnd_assoc]
  rfl
theorem evs_F2 {α : Type} {Γ : Gam} {e e2 : E} {ss s1 s2 : SS} {x y : Int} (F : List RA → M α) (h : ev Γ e ss = some (.d (.int x), s1)) (h2 : ev Γ e2 s1 = some (.d (.int y), s2)) : bnd (evs Γ [e, e2]) (fun rs => bnd (rsvs rs) F) ss = F [.d (.int x), .d (.int y)] s2 := by
  rw [evs, bnd_assoc, bnd_of h, bnd_assoc, evs, bnd_assoc, bnd_of h2, bnd_assoc]
  rfl
theorem evI_rangeN {Γ : Gam} {e : E} {ss s1 : SS} {n : Nat} (h : ev Γ e ss = some (.d (.int (n : Int)), s1)) (hn : n ≤ LIM) : evI Γ (.range [e]) ss = some ((List.range n).map fun k : Nat => .int (k : Int), s1) := by
  rw [evI_range, evs_F1 (fun as => opt (rangeI as)) h, range_nat n (by unfold LIM at hn; omega)]
  rfl
theorem evI_range2 {Γ : Gam} {e e2 : E} {ss s1 s2 : SS} {a n : Nat} (h0 : ev Γ e ss = some (.d (.int (a : Int)), s1)) (h : ev Γ e2 s1 = some (.d (.int ((a : Int) + (n : Int))), s2)) (hn : a + n ≤ LIM) : evI Γ (.range [e, e2]) ss = some ((List.range n).map fun k : Nat => .int ((a : Int) + (k : Int)), s2) := by
  rw [evI_range, evs_F2 (fun as => opt (rangeI as)) h0 h, range_nat2 a n (by unfold LIM at hn; omega)]
  rfl
end Ev
end

section
set_option Elab.async false
set_option linter.all false
set_option maxRecDepth 100000
set_option maxHeartbeats 4000000
namespace Ev
open PySem (Str Operator CmpOp)
/-! ### forwards -/
section
variable {Γ : Gam} {n : Nat}
theorem f_v {i : Nat} {x : D} {env : List (Option EV)} {st : List SO} (h : env[i]? = some (some (.d x))) : ev Γ (.v i) ⟨env, st⟩ = some (.d x, ⟨env, st⟩) := by
  rw [ev_v, getV_at, h]
theorem f_s {i : Nat} {x : SO} {env : List (Option EV)} {st : List SO} (h : env[i]? = some (some (.own x))) : ev Γ (.v i) ⟨env, st⟩ = some (.slot i, ⟨env, st⟩) := by
  rw [ev_v, getV_at, h]
theorem f_c (x : D) (ss : SS) : ev Γ (.c x) ss = some (.d x, ss) := rfl
theorem f_g {x : Str} {d : D} {ss : SS} (h : Γ.con x = some d) : ev Γ (.g x) ss = some (.d d, ss) := by
  rw [ev_g, h]; rfl
theorem f_nil (ss : SS) : evDs Γ [] ss = some ([], ss) := rfl
theorem f_cons {a : E} {es : List E} {ss s1 s2 s3 : SS} {r : RV} {d : D} {ds : List D} (hs : evDs Γ (a :: es) = bnd (ev Γ a) fun r => bnd (esc r) fun d => bnd (evDs Γ es) fun ds => ret (d :: ds)) (h : ev Γ a ss = some (r, s1)) (he : esc r s1 = some (d, s2)) (h2 : evDs Γ es s2 = some (ds, s3)) : evDs Γ (a :: es) ss = some (d :: ds, s3) := by
  rw [hs, bnd_of h, bnd_of he, bnd_of h2]; rfl
theorem f_call {f : Str} {den : Den} {es : List E} {ss s1 : SS} {ds : List D} {r : RV} {st' : List SO} (hf : Γ.fn f = some den) (hd : evDs Γ es ss = some (ds, s1)) (h : den ds s1.st = some (r, st')) : ev Γ (.call f es) ss = some (r, ⟨s1.env, st'⟩) := by
  rw [ev_call, bnd_of hd, hf]
  show (match den ds s1.st with
    | some (r, st') => some (r, (⟨s1.env, st'⟩ : SS))
    | none => none) = _
  rw [h]
theorem f_bi1 {f : BI} {a : E} {ss s1 : SS} {r v : RV} {x : RA} (h : ev Γ a ss = some (r, s1)) (hr : res s1 r = some x) (hb : biop f [x] = some v) : ev Γ (.bi f [a]) ss = some (v, s1) := by
  rw [ev_bi, evs_cons, bnd_assoc, bnd_of h, evs_nil, bnd_assoc, bnd_ret, bnd_ret]
  rw [bnd_of (a := [x]) (s1 := s1) (by rw [rsvs_at, resAll_cons, hr, resAll_nil])]
  rw [hb]; rfl
theorem f_bi2 {f : BI} {a b : E} {ss s1 s2 : SS} {r q v : RV} {x y : RA} (h : ev Γ a ss = some (r, s1)) (h2 : ev Γ b s1 = some (q, s2)) (hr : res s2 r = some x) (hq : res s2 q = some y) (hb : biop f [x, y] = some v) : ev Γ (.bi f [a, b]) ss = some (v, s2) := by
  rw [ev_bi, evs_cons, bnd_assoc, bnd_of h, evs_cons, bnd_assoc, bnd_assoc, bnd_of h2, evs_nil, bnd_assoc, bnd_ret, bnd_ret, bnd_ret]
  rw [bnd_of (a := [x, y]) (s1 := s2) (by rw [rsvs_at, resAll_cons, hr, resAll_cons, hq, resAll_nil])]
  rw [hb]; rfl
theorem f_bin {o : Operator} {a b : E} {ss s1 s2 : SS} {r q v : RV} {x y : RA} (h : ev Γ a ss = some (r, s1)) (h2 : ev Γ b s1 = some (q, s2)) (hr : res s2 r = some x) (hq : res s2 q = some y) (hb : binop o x y = some v) : ev Γ (.bin o a b) ss = some (v, s2) := by
  rw [ev_bin, bnd_of h, bnd_of h2, bnd_of (a := x) (s1 := s2) (by rw [rsv_at, hr]), bnd_of (a := y) (s1 := s2) (by rw [rsv_at, hq]), hb]; rfl
theorem f_cmp {o : CmpOp} {a b : E} {ss s1 s2 : SS} {r q : RV} {x y : RA} {k : Bool} (h : ev Γ a ss = some (r, s1)) (h2 : ev Γ b s1 = some (q, s2)) (hr : res s2 r = some x) (hq : res s2 q = some y) (hb : cmpop o x y = some k) : ev Γ (.cmp o a b) ss = some (.d (.bl k), s2) := by
  rw [ev_cmp, bnd_of h, bnd_of h2, bnd_of (a := x) (s1 := s2) (by rw [rsv_at, hr]), bnd_of (a := y) (s1 := s2) (by rw [rsv_at, hq]), hb]; rfl
theorem f_cmpT {o : CmpOp} {a b : E} {ss s1 s2 : SS} {r q : RV} {x y : RA} {k : Bool} (h : ev Γ a ss = some (r, s1)) (h2 : ev Γ b s1 = some (q, s2)) (hr : res s2 r = some x) (hq : res s2 q = some y) (hb : cmpop o x y = some k) : evT Γ (.cmp o a b) ss = some (k, s2) := by
  rw [evT_cmp, bnd_of h, bnd_of h2, bnd_of (a := x) (s1 := s2) (by rw [rsv_at, hr]), bnd_of (a := y) (s1 := s2) (by rw [rsv_at, hq]), hb]; rfl
theorem f_idx {a b : E} {ss s1 s2 : SS} {r q : RV} {x y : RA} {d : D} (h : ev Γ a ss = some (r, s1)) (h2 : ev Γ b s1 = some (q, s2)) (hr : res s2 r = some x) (hq : res s2 q = some y) (hb : idxop x y = some d) : ev Γ (.idx a b) ss = some (.d d, s2) := by
  rw [ev_idx, bnd_of h, bnd_of h2, bnd_of (a := x) (s1 := s2) (by rw [rsv_at, hr]), bnd_of (a := y) (s1 := s2) (by rw [rsv_at, hq]), hb]; rfl
theorem f_tup {es : List E} {ss s1 : SS} {ds : List D} (h : evDs Γ es ss = some (ds, s1)) (hl : ds.length ≤ LIM) : ev Γ (.tup es) ss = some (.d (.tup ds), s1) := by
  rw [ev_tup, bnd_of h, if_pos hl]; rfl
theorem f_lst {es : List E} {ss s1 : SS} {ds : List D} (h : evDs Γ es ss = some (ds, s1)) (hl : ds.length ≤ LIM) : ev Γ (.lst es) ss = some (.new (.lst ds), s1) := by
  rw [ev_lst, bnd_of h, if_pos hl]; rfl
theorem f_ite {t a b : E} {ss s1 : SS} {k : Bool} {o : Option (RV × SS)} (h : evT Γ t ss = some (k, s1)) (h2 : (if k = true then ev Γ a s1 else ev Γ b s1) = o) : ev Γ (.ite t a b) ss = o := by
  rw [ev_ite, bnd_of h, ← h2]; split <;> rfl
theorem f_not {a : E} {ss s1 : SS} {b : Bool} (h : ev Γ a ss = some (.d (.bl b), s1)) : ev Γ (.not a) ss = some (.d (.bl (!b)), s1) := by
  rw [ev_not, bnd_of h, bnd_of (a := .d (.bl b)) (s1 := s1) (by rw [rsv_at, res_bl]), tr_b]; rfl
theorem f_and {a b : E} {ss s1 : SS} {k : Bool} {o : Option (RV × SS)} (h : ev Γ a ss = some (.d (.bl k), s1)) (h2 : (if k = true then ev Γ b s1 else some (.d (.bl false), s1)) = o) : ev Γ (.and a b) ss = o := by
  rw [ev_and, bnd_of h, ← h2]; cases k <;> rfl
theorem f_or {a b : E} {ss s1 : SS} {k : Bool} {o : Option (RV × SS)} (h : ev Γ a ss = some (.d (.bl k), s1)) (h2 : (if k = true then some (.d (.bl true), s1) else ev Γ b s1) = o) : ev Γ (.or a b) ss = o := by
  rw [ev_or, bnd_of h, ← h2]; cases k <;> rfl
theorem f_callT {f : Str} {es : List E} {ss s1 : SS} {b : Bool} (h : ev Γ (.call f es) ss = some (.d (.bl b), s1)) : evT Γ (.call f es) ss = some (b, s1) := by
  rw [evT_call, bnd_of h, bnd_of (a := .d (.bl b)) (s1 := s1) (by rw [rsv_at, res_bl]), tr_b]; rfl
theorem f_notT {a : E} {ss s1 : SS} {b : Bool} (h : evT Γ a ss = some (b, s1)) : evT Γ (.not a) ss = some (!b, s1) := by
  rw [evT_not, bnd_of h]; rfl
theorem f_andT {a b : E} {ss s1 : SS} {k : Bool} {o : Option (Bool × SS)} (h : evT Γ a ss = some (k, s1)) (h2 : (if k = true then evT Γ b s1 else some (false, s1)) = o) : evT Γ (.and a b) ss = o := by
  rw [evT_and, bnd_of h, ← h2]; cases k <;> rfl
theorem f_orT {a b : E} {ss s1 : SS} {k : Bool} {o : Option (Bool × SS)} (h : evT Γ a ss = some (k, s1)) (h2 : (if k = true then some (true, s1) else evT Γ b s1) = o) : evT Γ (.or a b) ss = o := by
  rw [evT_or, bnd_of h, ← h2]; cases k <;> rfl
theorem f_of {a : E} {ss s1 s2 : SS} {r : RV} {d : D} {ds : List D} (h : ev Γ a ss = some (r, s1)) (he : esc r s1 = some (d, s2)) (hd : ofM d s2 = some (ds, s2)) : evI Γ (.of a) ss = some (ds, s2) := by
  rw [evI_of, bnd_assoc, bnd_of h, bnd_of he, hd]
theorem f_enum {a : E} {ss s1 s2 : SS} {r : RV} {d : D} {ds : List D} (h : ev Γ a ss = some (r, s1)) (he : esc r s1 = some (d, s2)) (hd : enM d s2 = some (ds, s2)) : evI Γ (.enum a) ss = some (ds, s2) := by
  rw [evI_enum, bnd_assoc, bnd_of h, bnd_of he, hd]
theorem f_zip {es : List E} {ss s1 s2 : SS} {ds xs : List D} (h : evDs Γ es ss = some (ds, s1)) (hd : zipM ds s1 = some (xs, s2)) : evI Γ (.zip es) ss = some (xs, s2) := by
  rw [evI_zip, bnd_of h, hd]
theorem f_coll {t : Bool} {it : I} {ss s1 : SS} {ds : List D} (h : evI Γ it ss = some (ds, s1)) (hl : ds.length ≤ LIM) : ev Γ (.coll t it) ss = some (if t = true then .new (.lst ds) else .d (.tup ds), s1) := by
  rw [ev_coll, bnd_of h, if_pos hl]; cases t <;> rfl
theorem x_asg {i : Nat} {e : E} {ss s1 s2 : SS} {r : RV} {d : D} (h : ev Γ e ss = some (r, s1)) (he : esc r s1 = some (d, s2)) (hi : Nat.ble (i + 1) s2.env.length = true) : exec Γ n (.asg (.v i) e) ss = some (.nx, ⟨s2.env.set i (some (.d d)), s2.st⟩) := by
  rw [exec_asg, bnd_of h, bnd_of he, asgT_v, bnd_of (a := ()) (s1 := ⟨s2.env.set i (some (.d d)), s2.st⟩) (by rw [show s2 = ⟨s2.env, s2.st⟩ from rfl, setV_at, if_pos (Nat.lt_of_succ_le (Nat.le_of_ble_eq_true hi))])]; rfl
theorem x_own {i : Nat} {e : E} {ss s1 : SS} {so : SO} (h : ev Γ e ss = some (.new so, s1)) (hi : Nat.ble (i + 1) s1.env.length = true) : exec Γ n (.own i e) ss = some (.nx, ⟨s1.env.set i (some (.own so)), s1.st⟩) := by
  rw [exec_own, bnd_of h, ownM_new, bnd_of (a := ()) (s1 := ⟨s1.env.set i (some (.own so)), s1.st⟩) (by rw [show s1 = ⟨s1.env, s1.st⟩ from rfl, setV_at, if_pos (Nat.lt_of_succ_le (Nat.le_of_ble_eq_true hi))])]; rfl
theorem x_ex {e : E} {ss s1 : SS} {r : RV} (h : ev Γ e ss = some (r, s1)) : exec Γ n (.ex e) ss = some (.nx, s1) := by
  rw [exec_ex, bnd_of h]; rfl
theorem x_ret {e : E} {ss s1 : SS} {r : RV} (h : ev Γ e ss = some (r, s1)) : exec Γ n (.ret e) ss = some (.ret r, s1) := by
  rw [exec_ret, bnd_of h]; rfl
theorem x_iff {c : E} {a b : List S} {ss s1 : SS} {k : Bool} {o : Option (Fl × SS)} (h : evT Γ c ss = some (k, s1)) (h2 : (if k = true then execs Γ n a s1 else execs Γ n b s1) = o) : exec Γ n (.iff c a b) ss = o := by
  rw [exec_iff, bnd_of h, ← h2]; split <;> rfl
theorem xs_nil (ss : SS) : execs Γ n [] ss = some (.nx, ss) := rfl
theorem xs_cons {s : S} {r : List S} {ss s1 : SS} {o : Option (Fl × SS)} (h : exec Γ n s ss = some (.nx, s1)) (h2 : execs Γ n r s1 = o) : execs Γ n (s :: r) ss = o := by
  rw [exec_seq h, h2]
theorem xs_out {s : S} {r : List S} {ss s1 : SS} {x : RV} (h : exec Γ n s ss = some (.ret x, s1)) : execs Γ n (s :: r) ss = some (.ret x, s1) := exec_out h
theorem f_lcB {t : T} {elt : E} {x : D} {ss s1 s2 s3 : SS} {r : RV} {d : D} (ha : asgT Γ t x ss = some ((), s1)) (h : ev Γ elt s1 = some (r, s2)) (he : esc r s2 = some (d, s3)) : lcB Γ t [] elt x ss = some (some d, s3) := by
  rw [lcB_at, bnd_of ha, evTs_nil, bnd_ret, if_pos rfl, bnd_of h, bnd_of he]; rfl
theorem f_lcT {t : T} {c elt : E} {x : D} {ss s1 s2 s3 s4 : SS} {r : RV} {d : D} {k : Bool} (ha : asgT Γ t x ss = some ((), s1)) (hc : evT Γ c s1 = some (k, s2)) (h : ev Γ elt s2 = some (r, s3)) (he : esc r s3 = some (d, s4)) : lcB Γ t [c] elt x ss = if k = true then some (some d, s4) else some (none, s2) := by
  rw [lcB_at, bnd_of ha, evTs_cons, evTs_nil, bnd_assoc, bnd_of hc]
  cases k with
  | true => rw [if_pos rfl, if_pos rfl, bnd_ret, if_pos rfl, bnd_of h, bnd_of he]; rfl
  | false => rw [if_neg Bool.false_ne_true, if_neg Bool.false_ne_true, bnd_ret, if_neg Bool.false_ne_true]; rfl
theorem f_lcF {t : T} {c elt : E} {x : D} {ss s1 s2 : SS} {r : RV} {d : D} {k : Bool} (ha : asgT Γ t x ss = some ((), s1)) (hc : evT Γ c s1 = some (k, s2)) (h : ev Γ elt s2 = some (r, s2)) (he : esc r s2 = some (d, s2)) : lcB Γ t [c] elt x ss = some (if k = true then some d else none, s2) := by
  rw [f_lcT ha hc h he]; cases k <;> rfl
end
end Ev
end

section
set_option Elab.async false
set_option linter.all false
set_option maxRecDepth 100000
set_option maxHeartbeats 4000000
namespace Ev
open PySem (Str Operator CmpOp)
/-! ### forwards, more -/
section
variable {Γ : Gam} {n : Nat}
theorem f_n {i : Nat} {ss s1 : SS} {r : RV} (h : getV i ss = some (r, s1)) : ev Γ (.v i) ss = some (r, s1) := by
  rw [ev_v, h]
theorem f_iteI {t a b : E} {ss s1 : SS} {k : Bool} {x y : Int} (h : evT Γ t ss = some (k, s1)) (ha : k = true → ev Γ a s1 = some (.d (.int x), s1)) (hb : k = false → ev Γ b s1 = some (.d (.int y), s1)) : ev Γ (.ite t a b) ss = some (.d (.int (if k = true then x else y)), s1) := by
  refine f_ite h ?_
  cases k with
  | true => rw [if_pos rfl, if_pos rfl, ha rfl]
  | false => rw [if_neg Bool.false_ne_true, if_neg Bool.false_ne_true, hb rfl]
theorem f_iteD {t a b : E} {ss s1 : SS} {k : Bool} {x y : D} (h : evT Γ t ss = some (k, s1)) (ha : k = true → ev Γ a s1 = some (.d x, s1)) (hb : k = false → ev Γ b s1 = some (.d y, s1)) : ev Γ (.ite t a b) ss = some (.d (if k = true then x else y), s1) := by
  refine f_ite h ?_
  cases k with
  | true => rw [if_pos rfl, if_pos rfl, ha rfl]
  | false => rw [if_neg Bool.false_ne_true, if_neg Bool.false_ne_true, hb rfl]
theorem f_iteT {t a b : E} {ss s1 : SS} {k : Bool} {o : Option (RV × SS)} (h : evT Γ t ss = some (k, s1)) (hk : k = true) (ha : ev Γ a s1 = o) : ev Γ (.ite t a b) ss = o := by
  subst hk
  exact f_ite h (by rw [if_pos rfl, ha])
theorem f_iteF {t a b : E} {ss s1 : SS} {k : Bool} {o : Option (RV × SS)} (h : evT Γ t ss = some (k, s1)) (hk : k = false) (hb : ev Γ b s1 = o) : ev Γ (.ite t a b) ss = o := by
  subst hk
  exact f_ite h (by rw [if_neg Bool.false_ne_true, hb])
theorem f_and2 {a b : E} {ss s1 : SS} {k j : Bool} (h : ev Γ a ss = some (.d (.bl k), s1)) (h2 : k = true → ev Γ b s1 = some (.d (.bl j), s1)) : ev Γ (.and a b) ss = some (.d (.bl (k && j)), s1) := by
  refine f_and h ?_
  cases k with
  | true => rw [if_pos rfl, h2 rfl]; rfl
  | false => rfl
theorem f_or2 {a b : E} {ss s1 : SS} {k j : Bool} (h : ev Γ a ss = some (.d (.bl k), s1)) (h2 : k = false → ev Γ b s1 = some (.d (.bl j), s1)) : ev Γ (.or a b) ss = some (.d (.bl (k || j)), s1) := by
  refine f_or h ?_
  cases k with
  | true => rfl
  | false => rw [if_neg Bool.false_ne_true, h2 rfl]; rfl
theorem f_and2T {a b : E} {ss s1 : SS} {k j : Bool} (h : evT Γ a ss = some (k, s1)) (h2 : k = true → evT Γ b s1 = some (j, s1)) : evT Γ (.and a b) ss = some (k && j, s1) := by
  refine f_andT h ?_
  cases k with
  | true => rw [if_pos rfl, h2 rfl]; rfl
  | false => rfl
theorem f_or2T {a b : E} {ss s1 : SS} {k j : Bool} (h : evT Γ a ss = some (k, s1)) (h2 : k = false → evT Γ b s1 = some (j, s1)) : evT Γ (.or a b) ss = some (k || j, s1) := by
  refine f_orT h ?_
  cases k with
  | true => rfl
  | false => rw [if_neg Bool.false_ne_true, h2 rfl]; rfl
theorem f_chn {o p : CmpOp} {a b c : E} {ss s1 s2 : SS} {r q u : RV} {x y z : RA} {k j : Bool} (h : ev Γ a ss = some (r, s1)) (h2 : ev Γ b s1 = some (q, s2)) (hr : res s2 r = some x) (hq : res s2 q = some y) (hb : cmpop o x y = some k) (h3 : ev Γ c s2 = some (u, s2)) (hu : res s2 u = some z) (hc : cmpop p y z = some j) : ev Γ (.chn o p a b c) ss = some (.d (.bl (k && j)), s2) := by
  rw [ev_chn, bnd_of h, bnd_of h2, bnd_of (a := x) (s1 := s2) (by rw [rsv_at, hr]), bnd_of (a := y) (s1 := s2) (by rw [rsv_at, hq]), hb]
  show (if k = true then _ else _ : M RV) s2 = _
  cases k with
  | true =>
    rw [if_pos rfl, bnd_of h3, bnd_of (a := y) (s1 := s2) (by rw [rsv_at, hq]), bnd_of (a := z) (s1 := s2) (by rw [rsv_at, hu]), hc]; rfl
  | false => rfl
theorem f_chnT {o p : CmpOp} {a b c : E} {ss s1 s2 : SS} {r q u : RV} {x y z : RA} {k j : Bool} (h : ev Γ a ss = some (r, s1)) (h2 : ev Γ b s1 = some (q, s2)) (hr : res s2 r = some x) (hq : res s2 q = some y) (hb : cmpop o x y = some k) (h3 : ev Γ c s2 = some (u, s2)) (hu : res s2 u = some z) (hc : cmpop p y z = some j) : evT Γ (.chn o p a b c) ss = some (k && j, s2) := by
  rw [evT_chn, bnd_of h, bnd_of h2, bnd_of (a := x) (s1 := s2) (by rw [rsv_at, hr]), bnd_of (a := y) (s1 := s2) (by rw [rsv_at, hq]), hb]
  show (if k = true then _ else _ : M Bool) s2 = _
  cases k with
  | true =>
    rw [if_pos rfl, bnd_of h3, bnd_of (a := y) (s1 := s2) (by rw [rsv_at, hq]), bnd_of (a := z) (s1 := s2) (by rw [rsv_at, hu]), hc]; rfl
  | false => rfl
theorem f_neg {a : E} {ss s1 : SS} {i : Int} (h : ev Γ a ss = some (.d (.int i), s1)) : ev Γ (.neg a) ss = some (.d (.int (-i)), s1) := by
  rw [ev_neg, bnd_of h]; rfl
theorem f_biT {f : BI} {es : List E} {ss s1 : SS} {b : Bool} (h : ev Γ (.bi f es) ss = some (.d (.bl b), s1)) : evT Γ (.bi f es) ss = some (b, s1) := by
  rw [evT_bi, bnd_of h, bnd_of (a := .d (.bl b)) (s1 := s1) (by rw [rsv_at, res_bl]), tr_b]; rfl
theorem f_vT {i : Nat} {ss s1 : SS} {r : RV} {x : RA} {b : Bool} (h : ev Γ (.v i) ss = some (r, s1)) (hr : res s1 r = some x) (hb : truth x = some b) : evT Γ (.v i) ss = some (b, s1) := by
  have h' : getV i ss = some (r, s1) := by rw [← ev_v Γ]; exact h
  rw [evT_v, bnd_of h', bnd_of (a := x) (s1 := s1) (by rw [rsv_at, hr]), hb]; rfl
theorem p_na {m : M RV} {s : SS} : partI .na m s = some (none, s) := rfl
theorem p_e {e : E} {s s1 : SS} {i : Int} (hp : partI e (ev Γ e) = bnd (ev Γ e) fun x => match x with
    | .d (.int i) => ret (some i)
    | _ => fail) (h : ev Γ e s = some (.d (.int i), s1)) : partI e (ev Γ e) s = some (some i, s1) := by
  rw [hp, bnd_of h]; rfl
theorem f_slc {a lo hi : E} {ss s1 s2 s3 : SS} {r v : RV} {l h : Option Int} {x : RA} (ha : ev Γ a ss = some (r, s1)) (hl : partI lo (ev Γ lo) s1 = some (l, s2)) (hh : partI hi (ev Γ hi) s2 = some (h, s3)) (hr : res s3 r = some x) (hs : slcop x l h = some v) : ev Γ (.slc a lo hi) ss = some (v, s3) := by
  rw [ev_slc, bnd_of ha, bnd_of hl, bnd_of hh, bnd_of (a := x) (s1 := s3) (by rw [rsv_at, hr]), hs]; rfl
theorem f_rev {a : E} {ss s1 : SS} {r v : RV} {x : RA} (h : ev Γ a ss = some (r, s1)) (hr : res s1 r = some x) (hb : revop x = some v) : ev Γ (.rev a) ss = some (v, s1) := by
  rw [ev_rev, bnd_of h, bnd_of (a := x) (s1 := s1) (by rw [rsv_at, hr]), hb]; rfl
theorem f_heap {a : E} {ss s1 : SS} {so : SO} (h : ev Γ a ss = some (.new so, s1)) : ev Γ (.heap a) ss = some (.d (.ref s1.st.length), ⟨s1.env, s1.st ++ [so]⟩) := by
  rw [ev_heap, bnd_of h, heapM_new]
theorem f_star {a : E} {es : List E} {ss s1 s2 : SS} {r : RV} {p : RA} {ds xs : List D} (h : ev Γ a ss = some (r, s1)) (hr : res s1 r = some p) (hp : p.seq = some ds) (h2 : evDs Γ es s1 = some (xs, s2)) : evDs Γ (.star a :: es) ss = some (ds ++ xs, s2) := by
  rw [evDs_star, bnd_of h, bnd_of (a := p) (s1 := s1) (by rw [rsv_at, hr]), hp]
  show bnd (evDs Γ es) _ s1 = _
  rw [bnd_of h2]; rfl
theorem f_mt {m : MI} {o : E} {es : List E} {ss s1 s2 s3 : SS} {r : RV} {x : RA} {ds : List D} {rs : List RA} {so so' : SO} {d : D} (h : ev Γ o ss = some (r, s1)) (hx : res s1 r = some x) (hk : m.tyOk x = true) (ha : evDs Γ es s1 = some (ds, s2)) (hr : resDs s2 ds = some rs) (hs : soAt r s2 = some (so, s2)) (hm : mtop m so ds rs = some (d, so')) (hp : putAt r so' s2 = some ((), s3)) : ev Γ (.mt m o es) ss = some (.d d, s3) := by
  rw [ev_mt, bnd_of h, bnd_of (a := ()) (s1 := s1) (by rw [kindM_at, hx]; simp [hk]), bnd_of ha, mtM_at, bnd_of (a := rs) (s1 := s2) (by rw [rsvDs_at, hr]), bnd_of hs, hm]
  show bnd (putAt r so') _ s2 = _
  rw [bnd_of hp]; rfl
theorem f_range1 {e : E} {ss s1 : SS} {r : RV} {x : RA} {ds : List D} (h : ev Γ e ss = some (r, s1)) (hr : res s1 r = some x) (hd : rangeI [x] = some ds) : evI Γ (.range [e]) ss = some (ds, s1) := by
  rw [evI_range, evs_cons, bnd_assoc, bnd_of h, evs_nil, bnd_assoc, bnd_ret, bnd_ret]
  rw [bnd_of (a := [x]) (s1 := s1) (by rw [rsvs_at, resAll_cons, hr, resAll_nil])]
  rw [hd]; rfl
theorem f_range2 {e e2 : E} {ss s1 s2 : SS} {r q : RV} {x y : RA} {ds : List D} (h : ev Γ e ss = some (r, s1)) (h2 : ev Γ e2 s1 = some (q, s2)) (hr : res s2 r = some x) (hq : res s2 q = some y) (hd : rangeI [x, y] = some ds) : evI Γ (.range [e, e2]) ss = some (ds, s2) := by
  rw [evI_range, evs_cons, bnd_assoc, bnd_of h, evs_cons, bnd_assoc, bnd_assoc, bnd_of h2, evs_nil, bnd_assoc, bnd_ret, bnd_ret, bnd_ret]
  rw [bnd_of (a := [x, y]) (s1 := s2) (by rw [rsvs_at, resAll_cons, hr, resAll_cons, hq, resAll_nil])]
  rw [hd]; rfl
/-- a comprehension over a row with its turns' own ends -/
theorem f_lcm {α : Type} {own : List Nat} {t : T} {it : I} {elt : E} {ss : SS} {env : List (Option EV)} {st : List SO} {xs : List α} {φ : α → D} {g : α → D} (hi : evI Γ it ss = some (xs.map φ, ⟨env, st⟩))
    (hb : ∀ x ∈ xs, ∃ env2, lcB Γ t [] elt (φ x) ⟨wipeE env own, st⟩ = some (some (g x), ⟨env2, st⟩) ∧ wipeE env2 own = wipeE env own) (hl : xs.length ≤ LIM) :
    ev Γ (.lc own t it [] elt) ss = some (.new (.lst (xs.map g)), ⟨backE env (wipeE env own) own, st⟩) := lc_map xs φ g hi hb hl
theorem f_lcf {α : Type} {own : List Nat} {t : T} {it : I} {c elt : E} {ss : SS} {env : List (Option EV)} {st : List SO} {xs : List α} {φ : α → D} {p : α → Bool} {g : α → D} (hi : evI Γ it ss = some (xs.map φ, ⟨env, st⟩))
    (hb : ∀ x ∈ xs, ∃ env2, lcB Γ t [c] elt (φ x) ⟨wipeE env own, st⟩ = some (if p x = true then some (g x) else none, ⟨env2, st⟩) ∧ wipeE env2 own = wipeE env own) (hl : xs.length ≤ LIM) :
    ev Γ (.lc own t it [c] elt) ss = some (.new (.lst ((xs.filter p).map g)), ⟨backE env (wipeE env own) own, st⟩) := lc_fil xs φ p g hi hb hl
/-! ### statements -/
theorem x_asgA {t : T} {e : E} {ss s1 s2 s3 : SS} {r : RV} {d : D} (h : ev Γ e ss = some (r, s1)) (he : esc r s1 = some (d, s2)) (ha : asgT Γ t d s2 = some ((), s3)) : exec Γ n (.asg t e) ss = some (.nx, s3) := by
  rw [exec_asg, bnd_of h, bnd_of he, bnd_of ha]; rfl
theorem x_par {i j : Nat} {bi bj : Bool} {a b : E} {ss s1 s2 s3 s4 s5 s6 : SS} {r q : RV} {e f : EV} (h : ev Γ a ss = some (r, s1)) (h2 : ev Γ b s1 = some (q, s2)) (he : asEV bi r s2 = some (e, s3)) (hf : asEV bj q s3 = some (f, s4)) (hi : setV i e s4 = some ((), s5)) (hj : setV j f s5 = some ((), s6)) : exec Γ n (.par [(i, bi), (j, bj)] [a, b]) ss = some (.nx, s6) := by
  rw [exec_par, par2_at, bnd_of h, bnd_of h2, bnd_of he, bnd_of hf, bnd_of hi, bnd_of hj]; rfl
theorem x_iffT {c : E} {a b : List S} {ss s1 : SS} {k : Bool} {o : Option (Fl × SS)} (h : evT Γ c ss = some (k, s1)) (hk : k = true) (h2 : execs Γ n a s1 = o) : exec Γ n (.iff c a b) ss = o := by
  subst hk
  exact x_iff h (by rw [if_pos rfl, h2])
theorem x_iffF {c : E} {a b : List S} {ss s1 : SS} {k : Bool} {o : Option (Fl × SS)} (h : evT Γ c ss = some (k, s1)) (hk : k = false) (h2 : execs Γ n b s1 = o) : exec Γ n (.iff c a b) ss = o := by
  subst hk
  exact x_iff h (by rw [if_neg Bool.false_ne_true, h2])
theorem x_retN (ss : SS) : exec Γ n .retN ss = some (.ret (.d .non), ss) := rfl
theorem x_idx {a b : E} {d : D} {s1 s2 s3 s4 : SS} {r q : RV} {ds : List D} {k : Int} {j : Nat} (h : ev Γ a s1 = some (r, s2)) (h2 : ev Γ b s2 = some (q, s3)) (hq : res s3 q = some (.d (.int k))) (hs : soAt r s3 = some (.lst ds, s3)) (hj : L2.ixN ds.length k = some j) (hp : putAt r (.lst (ds.set j d)) s3 = some ((), s4)) : asgT Γ (.idx a b) d s1 = some ((), s4) := by
  rw [asgT_idx, bnd_of h, bnd_of h2, bnd_of (a := .d (.int k)) (s1 := s3) (by rw [rsv_at, hq]), bnd_of hs, setM_lst, hj]
  exact hp
theorem w_end {c : E} {body : List S} {m : Nat} {ss s1 : SS} (hc : evT Γ c ss = some (false, s1)) : loopWhl (evT Γ c) (execs Γ n body) (m + 1) ss = some (.nx, s1) := by
  rw [loopWhl, bnd_of hc]; rfl
theorem w_step {c : E} {body : List S} {m : Nat} {ss s1 s2 : SS} {o : Option (Fl × SS)} (hc : evT Γ c ss = some (true, s1)) (hb : execs Γ n body s1 = some (.nx, s2)) (h : loopWhl (evT Γ c) (execs Γ n body) m s2 = o) : loopWhl (evT Γ c) (execs Γ n body) (m + 1) ss = o := by
  rw [loopWhl, bnd_of hc]
  show bnd (execs Γ n body) _ s1 = _
  rw [bnd_of hb]
  exact h
/-- a while by its states -/
theorem x_whl {c : E} {body : List S} {sE : SS} (S : Nat → SS) (T : Nat) (hc : ∀ t, t < T → ∃ s1, evT Γ c (S t) = some (true, s1) ∧ execs Γ n body s1 = some (.nx, S (t + 1))) (he : evT Γ c (S T) = some (false, sE)) (hn : T < n) : exec Γ n (.whl c body) (S 0) = some (.nx, sE) := by
  rw [exec_whl]
  have key : ∀ k t m, t + k = T → k < m → loopWhl (evT Γ c) (execs Γ n body) m (S t) = some (.nx, sE) := by
    intro k
    induction k with
    | zero =>
      intro t m e hm
      obtain ⟨m', rfl⟩ : ∃ m', m = m' + 1 := ⟨m - 1, by omega⟩
      have : t = T := by omega
      subst this
      exact w_end he
    | succ k ih =>
      intro t m e hm
      obtain ⟨m', rfl⟩ : ∃ m', m = m' + 1 := ⟨m - 1, by omega⟩
      obtain ⟨s1, h1, h2⟩ := hc t (by omega)
      exact w_step h1 h2 (ih (t + 1) m' (by omega) (by omega))
  exact key T 0 n (by omega) hn
/-! ### operations on rows of numbers -/
theorem bo_mulL {i j : Int} (h : -18446744073709551616 < i ∧ i < 18446744073709551616) : binop .Mult (.d (.int i)) (.d (.int j)) = some (.d (.int (i * j))) := by
  rw [bo_mul, if_pos (.inl h)]
theorem bo_mulR {i j : Int} (h : -18446744073709551616 < j ∧ j < 18446744073709551616) : binop .Mult (.d (.int i)) (.d (.int j)) = some (.d (.int (i * j))) := by
  rw [bo_mul, if_pos (.inr h)]
theorem bo_fdP {i j : Int} (h : 0 < j ∧ j < 1073741824) : binop .FloorDiv (.d (.int i)) (.d (.int j)) = some (.d (.int (i / j))) := by
  rw [bo_fd, if_pos h]
theorem bo_modP {i j : Int} (h : 0 < j) : binop .Mod (.d (.int i)) (.d (.int j)) = some (.d (.int (i % j))) := by
  rw [bo_mod, if_pos h]
theorem bi_lenT {α : Type} (φ : α → D) (xs : List α) : biop .len [.d (.tup (xs.map φ))] = some (.d (.int (xs.length : Int))) := by
  show some (RV.d (.int ((xs.map φ).length : Int))) = _
  rw [List.length_map]
theorem bi_lenL {α : Type} (φ : α → D) (xs : List α) : biop .len [.d (.lst (xs.map φ))] = some (.d (.int (xs.length : Int))) := by
  show some (RV.d (.int ((xs.map φ).length : Int))) = _
  rw [List.length_map]
theorem bi_lenO {α : Type} (φ : α → D) (xs : List α) : biop .len [.own (.lst (xs.map φ))] = some (.d (.int (xs.length : Int))) := by
  show some (RV.d (.int ((xs.map φ).length : Int))) = _
  rw [List.length_map]
theorem bi_sumX {r : RA} {xs : List Int} (h : r.seq = some (xs.map .int)) : biop .sum [r] = some (.d (.int xs.sum)) := by
  rw [bi_sum, h]
  simp only [ints_map]
theorem bi_allX {α : Type} {r : RA} {p : α → Bool} {xs : List α} (h : r.lseq = some (xs.map fun x => .bl (p x))) : biop .all [r] = some (.d (.bl (xs.all p))) := by
  rw [bi_all, h]
  simp only [bls_map, List.all_map]
  rfl
theorem bi_anyX {α : Type} {r : RA} {p : α → Bool} {xs : List α} (h : r.lseq = some (xs.map fun x => .bl (p x))) : biop .any [r] = some (.d (.bl (xs.any p))) := by
  rw [bi_any, h]
  simp only [bls_map, List.any_map]
  rfl
theorem ix_at {α : Type} {r : RA} {φ : α → D} {xs : List α} (k : Nat) (h : r.seq = some (xs.map φ)) (hk : k < xs.length) : idxop r (.d (.int (k : Int))) = some (φ xs[k]) := by
  rw [ix_seq, h]
  exact at_map φ xs k hk
end
/-! ### forwards, their end as it is known -/
section
variable {Γ : Gam}
theorem f_callS {f : Str} {den : Den} {es : List E} {ss s1 s2 : SS} {ds : List D} {r : RV} {st' : List SO} (hf : Γ.fn f = some den) (hd : evDs Γ es ss = some (ds, s1)) (h : den ds s1.st = some (r, st')) (hs : (⟨s1.env, st'⟩ : SS) = s2) : ev Γ (.call f es) ss = some (r, s2) := hs ▸ f_call hf hd h
theorem f_lcmS {α : Type} {own : List Nat} {t : T} {it : I} {elt : E} {ss s2 : SS} {env : List (Option EV)} {st : List SO} {xs : List α} {φ : α → D} {g : α → D} (hi : evI Γ it ss = some (xs.map φ, ⟨env, st⟩))
    (hb : ∀ x ∈ xs, ∃ env2, lcB Γ t [] elt (φ x) ⟨wipeE env own, st⟩ = some (some (g x), ⟨env2, st⟩) ∧ wipeE env2 own = wipeE env own) (hl : xs.length ≤ LIM) (hs : (⟨backE env (wipeE env own) own, st⟩ : SS) = s2) :
    ev Γ (.lc own t it [] elt) ss = some (.new (.lst (xs.map g)), s2) := hs ▸ lc_map xs φ g hi hb hl
theorem f_lcfS {α : Type} {own : List Nat} {t : T} {it : I} {c elt : E} {ss s2 : SS} {env : List (Option EV)} {st : List SO} {xs : List α} {φ : α → D} {p : α → Bool} {g : α → D} (hi : evI Γ it ss = some (xs.map φ, ⟨env, st⟩))
    (hb : ∀ x ∈ xs, ∃ env2, lcB Γ t [c] elt (φ x) ⟨wipeE env own, st⟩ = some (if p x = true then some (g x) else none, ⟨env2, st⟩) ∧ wipeE env2 own = wipeE env own) (hl : xs.length ≤ LIM) (hs : (⟨backE env (wipeE env own) own, st⟩ : SS) = s2) :
    ev Γ (.lc own t it [c] elt) ss = some (.new (.lst ((xs.filter p).map g)), s2) := hs ▸ lc_fil xs φ p g hi hb hl
end
end Ev
end

section
set_option Elab.async false
set_option linter.all false
set_option maxRecDepth 100000
set_option maxHeartbeats 4000000
namespace Ev
open PySem (Str Operator CmpOp)
/-! ### rows of numbers by their function -/
def Row (n : Nat) (a : Nat → Int) : List D := (List.range n).map fun c => .int (a c)
theorem row_len (n : Nat) (a : Nat → Int) : (Row n a).length = n := by simp [Row]
theorem row_ext {n : Nat} {a b : Nat → Int} (h : ∀ c, c < n → a c = b c) : Row n a = Row n b := by
  unfold Row
  exact List.map_congr_left fun c hc => by rw [h c (List.mem_range.mp hc)]
theorem ixN_of {n k : Nat} {i : Int} (h : k < n) (e : i = k) : L2.ixN n i = some k := by
  subst e
  unfold L2.ixN
  rw [if_pos (by omega), if_pos (by omega), Int.toNat_natCast]
theorem row_at {n : Nat} {a : Nat → Int} {k : Nat} {i : Int} (h : k < n) (e : i = k) : atD (Row n a) i = some (.int (a k)) := by
  subst e
  have := at_map (fun c => D.int (a c)) (List.range n) k (by simpa using h)
  unfold Row
  rw [this, List.getElem_range]
theorem row_set (n : Nat) (a : Nat → Int) (j : Nat) (x : Int) : (Row n a).set j (.int x) = Row n fun c => if c = j then x else a c := by
  apply List.ext_getElem
  · simp [Row]
  · intro i h1 h2
    simp only [Row, List.getElem_set, List.getElem_map, List.getElem_range]
    by_cases h : j = i
    · subst h; rw [if_pos rfl, if_pos rfl]
    · rw [if_neg h, if_neg (by omega)]
theorem row_rep : ∀ n : Nat, (List.replicate n [D.int 0]).flatten = Row n fun _ => 0
  | 0 => rfl
  | n + 1 => by
    rw [List.replicate_succ, List.flatten_cons, row_rep n]
    unfold Row
    rw [List.range_succ_eq_map, List.map_cons, List.map_map]
    rfl
theorem bo_repI {n : Nat} (h : n ≤ 1000) : binop .Mult (.own (.lst [.int 0])) (.d (.int (n : Int))) = some (.new (.lst (Row n fun _ => 0))) := by
  rw [bo_rep, if_pos ⟨by omega, by unfold LIM; omega, by simp; unfold LIM; omega⟩, Int.toNat_natCast, row_rep]
theorem row_ints (n : Nat) (a : Nat → Int) : Row n a = ((List.range n).map a).map .int := by
  unfold Row; rw [List.map_map]; rfl
theorem zipD_map {α : Type} (f g : α → D) : ∀ xs : List α, zipD (xs.map f) (xs.map g) = xs.map fun x => .tup [f x, g x]
  | [] => rfl
  | x :: xs => by simp [zipD, zipD_map f g xs]
theorem zipD3_map {α : Type} (f g h : α → D) : ∀ xs : List α, zipD3 (xs.map f) (xs.map g) (xs.map h) = xs.map fun x => .tup [f x, g x, h x]
  | [] => rfl
  | x :: xs => by simp [zipD3, zipD3_map f g h xs]
theorem enumD_gen {α : Type} (φ : α → D) : ∀ (i : Nat) (xs : List α), enumD i (xs.map φ) = (xs.zipIdx i).map fun p => .tup [.int (p.2 : Int), φ p.1]
  | i, [] => rfl
  | i, x :: xs => by simp [enumD, enumD_gen φ (i + 1) xs]
theorem enumD_range (φ : Nat → D) (n : Nat) : enumD 0 ((List.range n).map φ) = (List.range n).map fun i => .tup [.int (i : Int), φ i] := by
  rw [enumD_gen]
  apply List.ext_getElem
  · simp
  · intro i h1 h2
    simp
theorem evI_rng {Γ : Gam} {e e2 : E} {ss s1 s2 : SS} {a b : Int} {n : Nat} (h0 : ev Γ e ss = some (.d (.int a), s1)) (h : ev Γ e2 s1 = some (.d (.int b), s2)) (hb : b = a + n) (ha : 0 ≤ a) (hl : b ≤ 1000000) : evI Γ (.range [e, e2]) ss = some ((List.range n).map fun k : Nat => .int (a + (k : Int)), s2) := by
  refine f_range2 h0 h rfl rfl ?_
  have e1 : small62 b = true := by unfold small62; simp only [decide_eq_true_eq]; omega
  have e2 : small62 a = true := by unfold small62; simp only [decide_eq_true_eq]; omega
  have e3 : (b - a).toNat = n := by omega
  simp [rangeI, e1, e2, rangeD, e3]
theorem lim5 {n : Nat} (h : n ≤ 1000) : n ≤ LIM := by unfold LIM; omega
theorem nlim {n : Nat} (h : n ≤ 1000) : n < LIM := by unfold LIM; omega
theorem bi_sumR (n : Nat) (a : Nat → Int) (r : RA) (h : r.seq = some (Row n a)) : biop .sum [r] = some (.d (.int ((List.range n).map a).sum)) := bi_sumX (h.trans (by rw [row_ints]))
theorem bi_lenR (n : Nat) (a : Nat → Int) (r : RA) (h : r.seq = some (Row n a)) : biop .len [r] = some (.d (.int (n : Int))) := by
  rw [bi_len, h]
  simp only [row_len]
theorem env_cong {env env' : List (Option EV)} {st : List SO} (h : env = env') : (⟨env, st⟩ : SS) = ⟨env', st⟩ := by rw [h]
theorem ix_row {n : Nat} {a : Nat → Int} {r : RA} {k : Nat} {i : Int} (h : r.seq = some (Row n a)) (hk : k < n) (e : i = k) : idxop r (.d (.int i)) = some (.int (a k)) := by
  rw [ix_seq, h]
  exact row_at hk e
theorem ok_nx {Γ : Gam} {n : Nat} {body : List S} {s1 s2 s3 : SS} {fl : Fl} (h : execs Γ n body s1 = some (fl, s2)) (e : s2 = s3) : execs Γ n body s1 = some (fl, s3) := by rw [h, e]
theorem nx_of {Γ : Gam} {n : Nat} {body : List S} {s1 s2 s3 : SS} (h : execs Γ n body s1 = some (.nx, s2)) (e : s2 = s3) : ∃ fl, execs Γ n body s1 = some (fl, s3) ∧ (fl = .nx ∨ fl = .cnt) := ⟨.nx, by rw [h, e], .inl rfl⟩
/-! ### loops by what holds -/
theorem for_rng {Γ : Gam} {m : Nat} {t : T} {it : I} {body : List S} {ss s0 : SS} {n : Nat} {φ : Nat → D} (P : Nat → SS → Prop) (hi : evI Γ it ss = some ((List.range n).map φ, s0)) (h0 : P 0 s0) (h : ∀ k, k < n → ∀ s, P k s → ∃ s1 s2 fl, asgT Γ t (φ k) s = some ((), s1) ∧ execs Γ m body s1 = some (fl, s2) ∧ (fl = .nx ∨ fl = .cnt) ∧ P (k + 1) s2) :
    ∃ s', exec Γ m (.for t it body) ss = some (.nx, s') ∧ P n s' := by
  obtain ⟨s', e, p⟩ := loopFor_by (asg := asgT Γ t) (body := execs Γ m body) P (items := (List.range n).map φ) (k := 0) (ss := s0) h0 fun i x s hx hp => by
    rw [List.getElem?_map] at hx
    by_cases hin : i < n
    · rw [List.getElem?_range hin] at hx
      cases hx
      rw [Nat.zero_add] at hp ⊢
      exact h i hin s hp
    · rw [List.getElem?_eq_none (by simpa using hin)] at hx
      cases hx
  refine ⟨s', ?_, by simpa using p⟩
  rw [exec_for, bnd_of hi]
  exact e
/-- the same over any row -/
theorem for_P {Γ : Gam} {m : Nat} {t : T} {it : I} {body : List S} {ss s0 : SS} {α : Type} {xs : List α} {φ : α → D} (P : Nat → SS → Prop) (hi : evI Γ it ss = some (xs.map φ, s0)) (h0 : P 0 s0) (h : ∀ k x, xs[k]? = some x → ∀ s, P k s → ∃ s1 s2 fl, asgT Γ t (φ x) s = some ((), s1) ∧ execs Γ m body s1 = some (fl, s2) ∧ (fl = .nx ∨ fl = .cnt) ∧ P (k + 1) s2) :
    ∃ s', exec Γ m (.for t it body) ss = some (.nx, s') ∧ P xs.length s' := by
  obtain ⟨s', e, p⟩ := loopFor_by (asg := asgT Γ t) (body := execs Γ m body) P (items := xs.map φ) (k := 0) (ss := s0) h0 fun i x s hx hp => by
    rw [List.getElem?_map] at hx
    cases hq : xs[i]? with
    | none => rw [hq] at hx; cases hx
    | some y =>
      rw [hq] at hx
      cases hx
      rw [Nat.zero_add] at hp ⊢
      exact h i y hq s hp
  refine ⟨s', ?_, by simpa using p⟩
  rw [exec_for, bnd_of hi]
  exact e
/-! ### the last of a row of yes and no -/
def lastT (h : Nat → Bool) : Nat → Int
  | 0 => 0
  | T + 1 => if h T = true then (T : Int) + 1 else lastT h T
end Ev
end

section
set_option Elab.async false
set_option linter.all false
set_option maxRecDepth 100000
set_option maxHeartbeats 4000000
namespace Ev
open PySem (Str Operator CmpOp)
/-! ### sorted rows of numbers -/
theorem leB_int (a b : Int) : leB (.int a) (.int b) = decide (a ≤ b) := by
  show (!PySem.W.dataLt (.int b) (.int a)) = _
  rw [PySem.W.dataLt_int]
  by_cases h : b < a
  · rw [decide_eq_true h, decide_eq_false (by omega)]; rfl
  · rw [decide_eq_false h, decide_eq_true (by omega)]; rfl
theorem sort_ints {xs ys : List Int} (hp : xs.Perm ys) (hs : ys.Pairwise (· ≤ ·)) : (xs.map D.int).mergeSort leB = ys.map .int := by
  rw [← List.map_mergeSort (r := fun a b => decide (a ≤ b)) (fun a _ b _ => (leB_int a b).symm)]
  congr 1
  have h1 := List.pairwise_mergeSort (le := fun a b : Int => decide (a ≤ b)) (fun a b c h h' => by simp at *; omega) (fun a b => by simp; omega) xs
  refine List.Perm.eq_of_pairwise (le := fun a b : Int => decide (a ≤ b) = true) (fun a b _ _ h h' => by simp at *; omega) h1 (hs.imp fun h => by simpa using h) ((List.mergeSort_perm _ _).trans hp)
theorem flats_intT (n : Nat) : ∀ xs : List Int, D.flats n (xs.map .int) = true := flats_int n
theorem bi_sortedI {r : RA} {xs ys : List Int} (h : r.seq = some (xs.map .int)) (hp : xs.Perm ys) (hs : ys.Pairwise (· ≤ ·)) (hl : xs.length ≤ 1000) : biop .sorted [r] = some (.new (.lst (ys.map .int))) := by
  unfold biop
  simp only [h]
  rw [if_pos ⟨flats_int DEEP xs, alikeDs_int xs, .inr (by simp [D.isTup]), by rw [List.length_map]; exact lim5 hl⟩, sort_ints hp hs]
theorem rng_sorted (n : Nat) (a : Int) : ((List.range n).map fun k : Nat => a + (k : Int)).Pairwise (· ≤ ·) := by
  rw [List.pairwise_map]
  exact List.Pairwise.imp (fun h => by omega) (List.pairwise_lt_range (n := n))
/-! ### equal things -/
theorem eqv_refl_int (i : Int) : PySem.PyData.eqv (.int i) (.int i) = true := by simp [PySem.PyData.eqv]
theorem eqD_T (xs ys : List Int) : eqD (.tup (xs.map .int)) (.tup (ys.map .int)) = some (decide (xs = ys)) := by
  unfold eqD
  rw [if_pos ⟨flats_int 39 xs, flats_int 39 ys⟩]
  show some (PySem.PyData.eqvAll (D.pys _) (D.pys _)) = _
  rw [pys_map, pys_map, List.map_map, List.map_map]
  have e : (D.py ∘ D.int) = PySem.PyData.int := rfl
  rw [e, eqvAll_int]
end Ev
end

section
set_option Elab.async false
set_option linter.all false
set_option maxRecDepth 100000
set_option maxHeartbeats 4000000
namespace Ev
open PySem (Str Operator CmpOp)
/-! ### the least of pairs of a number and a row -/
def prD (p : Int × List Int) : D := .tup [.int p.1, .tup (p.2.map .int)]
theorem alikeAll_ints : ∀ xs ys : List Int, PySem.W.alikeAll (D.pys (xs.map .int)) (D.pys (ys.map .int)) = true
  | [], ys => by simp [D.pys, PySem.W.alikeAll]
  | x :: xs, [] => by simp [D.pys, PySem.W.alikeAll]
  | x :: xs, y :: ys => by simp [D.pys, D.py, PySem.W.alikeAll, PySem.W.alike, alikeAll_ints xs ys]
theorem alike_pr (p q : Int × List Int) : PySem.W.alike (prD p).py (prD q).py = true := by
  simp [prD, D.py, D.pys, PySem.W.alike, PySem.W.alikeAll, alikeAll_ints]
theorem alikeDs_pr (ps : List (Int × List Int)) : alikeDs (ps.map prD) = true := by
  simp only [alikeDs, List.all_eq_true, List.mem_map, Bool.and_eq_true]
  rintro _ ⟨x, hx, rfl⟩
  refine ⟨rfl, ?_⟩
  rintro _ ⟨y, hy, rfl⟩
  exact alike_pr x y
theorem flats_pr : ∀ ps : List (Int × List Int), D.flats DEEP (ps.map prD) = true
  | [] => rfl
  | p :: ps => by
    have e : D.flat DEEP (prD p) = true := by
      show (D.flat 39 (.int p.1) && (D.flat 39 (.tup (p.2.map .int)) && true)) = true
      have : D.flat 39 (.tup (p.2.map .int)) = true := flats_int 38 p.2
      rw [this]; rfl
    rw [List.map_cons, D.flats, e, flats_pr ps]; rfl
theorem lt_pr {p q : Int × List Int} (h : p.1 ≠ q.1) : PySem.W.dataLt (prD p).py (prD q).py = decide (p.1 < q.1) := by
  show PySem.W.dataLt (.tuple _) (.tuple _) = _
  rw [PySem.W.dataLt_tuple]
  exact (PySem.W.dataLt_all_no (x := .int p.1) (y := .int q.1) (alike_int _ _) (by simp [PySem.PyData.eqv]; exact h)).trans (PySem.W.dataLt_int _ _)
theorem minB_pr : ∀ (ps : List (Int × List Int)) (p : Int × List Int), ∃ q, q ∈ p :: ps ∧ minB (prD p) (ps.map prD) = prD q ∧ ∀ r ∈ p :: ps, q.1 ≤ r.1
  | [], p => ⟨p, List.mem_cons_self, rfl, by simp⟩
  | r :: ps, p => by
    have e : minB (prD p) ((r :: ps).map prD) = minB (if PySem.W.dataLt (prD r).py (prD p).py = true then prD r else prD p) (ps.map prD) := rfl
    have e2 : (if PySem.W.dataLt (prD r).py (prD p).py = true then prD r else prD p) = prD (if PySem.W.dataLt (prD r).py (prD p).py = true then r else p) := by split <;> rfl
    rw [e, e2]
    obtain ⟨q, hq, h1, h2⟩ := minB_pr ps (if PySem.W.dataLt (prD r).py (prD p).py = true then r else p)
    have hx := h2 _ List.mem_cons_self
    refine ⟨q, ?_, h1, ?_⟩
    · rcases List.mem_cons.mp hq with h | h
      · rw [h]; split <;> simp
      · simp [h]
    · intro y hy
      have hy' : y = p ∨ y = r ∨ y ∈ ps := by simpa using hy
      by_cases c : r.1 = p.1
      · have : (if PySem.W.dataLt (prD r).py (prD p).py = true then r else p).1 = p.1 := by split <;> simp [c]
        rw [this] at hx
        rcases hy' with rfl | rfl | h
        · exact hx
        · omega
        · exact h2 y (List.mem_cons_of_mem _ h)
      · rw [lt_pr c] at hx h2
        rcases hy' with rfl | rfl | h
        · by_cases d : r.1 < y.1
          · rw [if_pos (decide_eq_true d)] at hx; omega
          · rw [if_neg (by simpa using d)] at hx; exact hx
        · by_cases d : y.1 < p.1
          · rw [if_pos (decide_eq_true d)] at hx; exact hx
          · rw [if_neg (by simpa using d)] at hx; omega
        · exact h2 y (List.mem_cons_of_mem _ h)
theorem bi_minP {r : RA} {ps : List (Int × List Int)} (h : r.seq = some (ps.map prD)) (hn : ps ≠ []) : ∃ q ∈ ps, biop .min [r] = some (.d (prD q)) ∧ ∀ y ∈ ps, q.1 ≤ y.1 := by
  cases ps with
  | nil => exact absurd rfl hn
  | cons p ps =>
    obtain ⟨q, hq, h1, h2⟩ := minB_pr ps p
    refine ⟨q, hq, ?_, h2⟩
    unfold biop
    simp only [h, List.map_cons]
    rw [if_pos ⟨flats_pr (p :: ps), alikeDs_pr (p :: ps)⟩, h1]
theorem for_hd {Γ : Gam} {m : Nat} {t : T} {it : I} {body : List S} {ss s0 s1 s2 : SS} {x : D} {xs : List D} {r : RV} (hi : evI Γ it ss = some (x :: xs, s0)) (ha : asgT Γ t x s0 = some ((), s1)) (hb : execs Γ m body s1 = some (.ret r, s2)) : exec Γ m (.for t it body) ss = some (.ret r, s2) := by
  rw [exec_for, bnd_of hi, loopFor, bnd_of ha]
  show bnd (execs Γ m body) _ s1 = _
  rw [bnd_of hb]
  rfl
end Ev
end

section
set_option Elab.async false
set_option linter.all false
set_option maxRecDepth 100000
set_option maxHeartbeats 4000000
namespace Ev
open PySem (Str Operator CmpOp PyData)
/-! ### texts of small numbers -/
theorem shown_small : ∀ k, k < 1001 → ((PyData.int ((k : Nat) : Int)).shown).length ≤ 10 := by decide +kernel
theorem shown_int {i : Int} (h : 0 ≤ i ∧ i ≤ 1000) : ((PyData.int i).shown).length ≤ 10 := by
  have := shown_small i.toNat (by omega)
  rwa [show ((i.toNat : Nat) : Int) = i by omega] at this
theorem showable_int {i : Int} (h : 0 ≤ i ∧ i ≤ 1000) : (PyData.int i).showable = true := by
  show decide (i.natAbs.log2 < 1920) = true
  refine decide_eq_true ?_
  have h1 : i.natAbs ≤ 1000 := by omega
  have : i.natAbs.log2 ≤ i.natAbs := Nat.log2_le_self _
  omega
theorem bi_reprD {r : RA} {d : D} (h : r.dat = some d) (hf : D.flat DEEP d = true) (hs : d.py.showable = true) (hl : d.py.shown.length ≤ 1000) : biop .repr [r] = some (.d (.str d.py.shown)) := by
  unfold biop
  simp only [h]
  rw [if_pos ⟨hf, hs, lim5 hl⟩]
theorem repr_int {i : Int} (h : 0 ≤ i ∧ i ≤ 1000) : biop .repr [.d (.int i)] = some (.d (.str (D.int i).py.shown)) :=
  bi_reprD rfl rfl (showable_int h) (by have := shown_int h; show (PyData.int i).shown.length ≤ _; omega)
theorem repr_bl (b : Bool) : biop .repr [.d (.bl b)] = some (.d (.str (D.bl b).py.shown)) :=
  bi_reprD rfl rfl (by cases b <;> rfl) (by cases b <;> decide +kernel)
theorem repr_non : biop .repr [.d .non] = some (.d (.str D.non.py.shown)) :=
  bi_reprD rfl rfl rfl (by decide +kernel)
theorem join_le (s : Str) (b : Nat) : ∀ ts : List Str, (∀ t ∈ ts, t.length ≤ b) → (PySem.Str.join s ts).length ≤ ts.length * (b + s.length)
  | [], _ => by show (("" : String) : Str).length ≤ _; simp; decide +kernel
  | [x], h => by
    have := h x (by simp)
    show x.length ≤ 1 * (b + s.length)
    omega
  | x :: y :: r, h => by
    have ih := join_le s b (y :: r) fun t ht => h t (List.mem_cons_of_mem _ ht)
    have := h x List.mem_cons_self
    show (x ++ s ++ PySem.Str.join s (y :: r)).length ≤ _
    rw [PySem.strLen_append, PySem.strLen_append]
    simp only [List.length_cons] at ih ⊢
    rw [Nat.add_mul (r.length + 1)]
    omega
theorem shownAll_map : ∀ xs : List PyData, PyData.shownAll xs = xs.map PyData.shown
  | [] => rfl
  | x :: xs => by simp [PyData.shownAll, shownAll_map xs]
theorem showableAll_iff : ∀ xs : List PyData, (∀ x ∈ xs, x.showable = true) → PyData.showableAll xs = true
  | [], _ => rfl
  | x :: xs, h => by simp [PyData.showableAll, h x List.mem_cons_self, showableAll_iff xs fun y hy => h y (List.mem_cons_of_mem _ hy)]
theorem repr_row {n : Nat} {a : Nat → Int} (hn : n ≤ 10) (h : ∀ c, c < n → 0 ≤ a c ∧ a c ≤ 1000) : biop .repr [.d (.tup (Row n a))] = some (.d (.str (D.tup (Row n a)).py.shown)) := by
  have hm : ∀ x ∈ D.pys (Row n a), ∃ i : Int, x = .int i ∧ 0 ≤ i ∧ i ≤ 1000 := by
    intro x hx
    rw [pys_map] at hx
    unfold Row at hx
    rw [List.map_map] at hx
    obtain ⟨c, hc, rfl⟩ := List.mem_map.mp hx
    exact ⟨_, rfl, h c (List.mem_range.mp hc)⟩
  refine bi_reprD rfl ?_ ?_ ?_
  · show D.flats 39 (Row n a) = true
    rw [row_ints]; exact flats_int 39 _
  · show PyData.showableAll (D.pys (Row n a)) = true
    refine showableAll_iff _ fun x hx => ?_
    obtain ⟨i, rfl, hi⟩ := hm x hx
    exact showable_int hi
  · show (PySem.tupleText (PyData.shownAll (D.pys (Row n a)))).length ≤ _
    unfold PySem.tupleText
    rw [PySem.strLen_append, PySem.strLen_append, shownAll_map]
    have hl : ((D.pys (Row n a)).map PyData.shown).length = n := by rw [List.length_map, pys_map, List.length_map, row_len]
    have hj := join_le ", " 10 ((D.pys (Row n a)).map PyData.shown) (by
      intro t ht
      obtain ⟨x, hx, rfl⟩ := List.mem_map.mp ht
      obtain ⟨i, rfl, hi⟩ := hm x hx
      exact shown_int hi)
    rw [hl] at hj
    have e1 : ((", " : String) : Str).length = 2 := by decide +kernel
    have e2 : (("(" : String) : Str).length = 1 := by decide +kernel
    have e3 : ∀ b : Bool, ((if b = true then ",)" else ")" : String) : Str).length ≤ 2 := by
      intro b; cases b <;> decide +kernel
    have := e3 (((D.pys (Row n a)).map PyData.shown).length == 1)
    rw [e1] at hj
    omega
theorem ne_same (s : Str) : cmpop .NotEq (.d (.str s)) (.d (.str s)) = some false := by
  rw [co_nes, eqD_str]; simp
theorem eq_same (s : Str) : cmpop .Eq (.d (.str s)) (.d (.str s)) = some true := by
  rw [co_eqs, eqD_str]; simp
theorem evI_rng1 {Γ : Gam} {e : E} {ss s1 : SS} {b : Int} {n : Nat} (h : ev Γ e ss = some (.d (.int b), s1)) (hb : b = n) (hl : n ≤ 1000) : evI Γ (.range [e]) ss = some ((List.range n).map fun k : Nat => .int (k : Int), s1) := by
  subst hb
  exact evI_rangeN h (lim5 hl)
/-! ### cuts of rows -/
theorem cut_rowT {n k : Nat} {a : Nat → Int} {i : Int} (h : k ≤ n) (e : i = k) : cutD (Row n a) none (some i) = Row k a := by
  subst e
  rw [row_ints, cut_take, ← List.map_take, List.take_range, Nat.min_eq_left h, row_ints]
theorem sl_rowT {n : Nat} {a : Nat → Int} {i : Int} (k : Nat) (h : k ≤ n) (e : i = k) : slcop (.d (.tup (Row n a))) none (some i) = some (.d (.tup (Row k a))) := by
  rw [sl_tup, cut_rowT h e]
theorem cut_rowD {n k : Nat} {a : Nat → Int} {i : Int} (h : k ≤ n) (e : i = k) : cutD (Row n a) (some i) none = (((List.range n).map a).drop k).map .int := by
  subst e
  rw [row_ints, cut_drop, List.map_drop]
theorem sl_rowD {n : Nat} {a : Nat → Int} {i : Int} (k : Nat) (h : k ≤ n) (e : i = k) : slcop (.d (.tup (Row n a))) (some i) none = some (.d (.tup ((((List.range n).map a).drop k).map .int))) := by
  rw [sl_tup, cut_rowD h e]
end Ev
end

section
set_option Elab.async false
set_option linter.all false
set_option maxRecDepth 100000
set_option maxHeartbeats 4000000
namespace Ev
open PySem (Str Operator CmpOp PyData)
section
variable {Γ : Gam} {m : Nat}
/-! ### a comprehension that changes the store -/
theorem loopLc_st {α : Type} {own : List Nat} {body : D → M (Option D)} {env : List (Option EV)} {φ : α → D} (N : Nat) (P : List D → List SO → Prop) : ∀ {xs : List α} {acc : List D} {st : List SO}, P acc st → acc.length + xs.length = N → N ≤ LIM →
    (∀ x ∈ xs, ∀ acc st, P acc st → acc.length < N → ∃ d env2 st2, body (φ x) ⟨env, st⟩ = some (some d, ⟨env2, st2⟩) ∧ wipeE env2 own = env ∧ P (acc ++ [d]) st2) →
    ∃ ds st', loopLc own body (xs.map φ) acc ⟨env, st⟩ = some (ds, ⟨env, st'⟩) ∧ P ds st' ∧ ds.length = N
  | [], acc, st, h0, hN, _, _ => ⟨acc, st, rfl, h0, by simpa using hN⟩
  | x :: xs, acc, st, h0, hN, hl, h => by
    rw [List.length_cons] at hN
    obtain ⟨d, env2, st2, e1, e2, e3⟩ := h x List.mem_cons_self acc st h0 (by omega)
    obtain ⟨ds, st', e4, e5, e6⟩ := loopLc_st (env := env) (own := own) (body := body) (φ := φ) N P (xs := xs) e3 (by simp; omega) hl fun y hy => h y (List.mem_cons_of_mem _ hy)
    refine ⟨ds, st', ?_, e5, e6⟩
    rw [List.map_cons, loopLc, bnd_of e1]
    show bnd (fun ss => some ((), ⟨wipeE ss.env own, ss.st⟩)) _ (⟨env2, st2⟩ : SS) = _
    rw [bnd_of (a := ()) (s1 := ⟨env, st2⟩) (by rw [← e2])]
    show (if acc.length < LIM then loopLc own body (xs.map φ) (acc ++ [d]) else fail) ⟨env, st2⟩ = _
    rw [if_pos (by omega)]
    exact e4
theorem lc_st {α : Type} {own : List Nat} {t : T} {it : I} {elt : E} {ss : SS} {env : List (Option EV)} {st : List SO} {xs : List α} {φ : α → D} (P : List D → List SO → Prop) (hi : evI Γ it ss = some (xs.map φ, ⟨env, st⟩)) (h0 : P [] st)
    (hb : ∀ x ∈ xs, ∀ acc st, P acc st → acc.length < xs.length → ∃ d env2 st2, lcB Γ t [] elt (φ x) ⟨wipeE env own, st⟩ = some (some d, ⟨env2, st2⟩) ∧ wipeE env2 own = wipeE env own ∧ P (acc ++ [d]) st2) (hl : xs.length ≤ LIM) :
    ∃ ds st', ev Γ (.lc own t it [] elt) ss = some (.new (.lst ds), ⟨backE env (wipeE env own) own, st'⟩) ∧ P ds st' ∧ ds.length = xs.length := by
  obtain ⟨ds, st', e, p, l⟩ := loopLc_st (env := wipeE env own) (own := own) (body := lcB Γ t [] elt) (φ := φ) xs.length P (xs := xs) h0 (by simp) hl hb
  refine ⟨ds, st', ?_, p, l⟩
  rw [ev, bnd_of hi]
  show (match loopLc own (lcB Γ t [] elt) (xs.map φ) [] ⟨wipeE env own, st⟩ with
    | some (ds, ss') => some (RV.new (.lst ds), (⟨backE env ss'.env own, ss'.st⟩ : SS))
    | none => none) = _
  rw [e]
/-! ### a block that ends the def -/
def Ends (Γ : Gam) (m : Nat) (P : RV → SS → Prop) (prog : List S) (ss : SS) : Prop := ∃ r s', execs Γ m prog ss = some (.ret r, s') ∧ P r s'
theorem Ends.cons {P : RV → SS → Prop} {s : S} {r : List S} {ss s1 : SS} (h : exec Γ m s ss = some (.nx, s1)) (h2 : Ends Γ m P r s1) : Ends Γ m P (s :: r) ss := by
  obtain ⟨x, s', e, p⟩ := h2
  exact ⟨x, s', xs_cons h e, p⟩
theorem Ends.ret {P : RV → SS → Prop} {e : E} {r : List S} {ss s1 : SS} {x : RV} (h : ev Γ e ss = some (x, s1)) (hp : P x s1) : Ends Γ m P (.ret e :: r) ss := ⟨x, s1, xs_out (x_ret h), hp⟩
theorem Ends.imp {P Q : RV → SS → Prop} {prog : List S} {ss : SS} (h : Ends Γ m P prog ss) (hpq : ∀ r s, P r s → Q r s) : Ends Γ m Q prog ss := by
  obtain ⟨x, s', e, p⟩ := h
  exact ⟨x, s', e, hpq _ _ p⟩
theorem Ends.env {P : RV → SS → Prop} {prog : List S} {env env' : List (Option EV)} {st : List SO} (h : Ends Γ m P prog ⟨env, st⟩) (e : env' = env) : Ends Γ m P prog ⟨env', st⟩ := by rw [e]; exact h
end
end Ev
end

section
set_option Elab.async false
set_option linter.all false
set_option maxRecDepth 100000
set_option maxHeartbeats 0
namespace K72
open PySem PySem.Spec PyProof.Rows L2 Ev
/-! ### the text -/
def top (i : Nat) : Stmt := PySem.Challenge.pw_outandshut_k72_whole_floors_by_what_is_l.main.body.getD i (.Pass ⟨0, 0, 0, 0⟩)
abbrev s_is_integer : Stmt := top 8
def N_is_integer : List Str := ["value"]
def ir_is_integer : List S := [
    .ret (.and (.bi (.isI .int) [.v 0]) (.not (.bi (.isI .bool) [.v 0])))]
abbrev s_is_between : Stmt := top 9
def N_is_between : List Str := ["value", "low", "high"]
def ir_is_between : List S := [
    .ret (.and (.call "is_integer" [.v 0]) (.chn .LtE .LtE (.v 1) (.v 0) (.v 2)))]
abbrev s_are_between : Stmt := top 10
def N_are_between : List Str := ["value", "low", "high", "one"]
def ir_are_between : List S := [
    .ret (.and (.bi (.isI .tuple) [.v 0]) (.bi .all [.lc [3] (.v 3) (.of (.v 0)) [] (.call "is_between" [.v 3, .v 1, .v 2])]))]
abbrev s_check_floors : Stmt := top 16
def N_check_floors : List Str := ["floors"]
def ir_check_floors : List S := [
    .iff (.or (.not (.call "are_between" [.v 0, .c (.int 0), .g "MOST_PEOPLE"])) (.not (.chn .LtE .LtE (.c (.int 1)) (.bi .len [.v 0]) (.g "MOST_FLOORS")))) [.nev] []]
abbrev s_check_stair : Stmt := top 17
def N_check_stair : List Str := ["floors", "wide"]
def ir_check_stair : List S := [
    .ex (.call "check_floors" [.v 0]),
    .iff (.not (.call "is_between" [.v 1, .c (.int 1), .g "MOST_WIDE"])) [.nev] []]
abbrev s_check_after : Stmt := top 18
def N_check_after : List Str := ["after"]
def ir_check_after : List S := [
    .iff (.not (.call "is_between" [.v 0, .c (.int 0), .g "MOST_AFTER"])) [.nev] []]
abbrev s_rounded_up : Stmt := top 19
def N_rounded_up : List Str := ["number", "wide"]
def ir_rounded_up : List S := [
    .ret (.bin .FloorDiv (.bin .Sub (.bin .Add (.v 0) (.v 1)) (.c (.int 1))) (.v 1))]
abbrev s_needs_of : Stmt := top 20
def N_needs_of : List Str := ["floors", "wide", "found", "below", "number"]
def ir_needs_of : List S := [
    .own 2 (.lst []),
    .for (.v 3) (.range [.bi .len [.v 0]]) [.asg (.v 4) (.bi .sum [.slc (.v 0) (.v 3) (.na)]), .ex (.mt .append (.v 2) [.tup [.ite (.cmp .Gt (.v 4) (.c (.int 0))) (.bin .Add (.v 3) (.call "rounded_up" [.v 4, .v 1])) (.c (.int 0)), .bin .Add (.v 3) (.c (.int 1))]])],
    .ret (.v 2)]
abbrev s_least_of : Stmt := top 21
def N_least_of : List Str := ["floors", "wide", "ticks", "floor"]
def ir_least_of : List S := [
    .ret (.bi .max [.lc [2, 3] (.tup [.v 2, .v 3]) (.of (.call "needs_of" [.v 0, .v 1])) [] (.v 2)])]
abbrev s_down_told : Stmt := top 22
def N_down_told : List Str := ["floors", "wide", "least", "ticks", "floor"]
def ir_down_told : List S := [
    .ex (.call "check_stair" [.v 0, .v 1]),
    .asg (.v 2) (.call "least_of" [.v 0, .v 1]),
    .iff (.cmp .Eq (.v 2) (.c (.int 0))) [.ret (.tup [.c (.int 0), .c (.non)])] [],
    .ret (.tup [.v 2, .idx (.lc [3, 4] (.tup [.v 3, .v 4]) (.of (.call "needs_of" [.v 0, .v 1])) [.cmp .Eq (.v 3) (.v 2)] (.v 4)) (.c (.int 0))])]
abbrev s_shows_down : Stmt := top 23
def N_shows_down : List Str := ["floors", "wide", "value", "least"]
def ir_shows_down : List S := [
    .ex (.call "check_stair" [.v 0, .v 1]),
    .iff (.or (.not (.bi (.isI .tuple) [.v 2])) (.or (.cmp .NotEq (.bi .len [.v 2]) (.c (.int 2))) (.not (.call "is_between" [.idx (.v 2) (.c (.int 0)), .c (.int 0), .g "MOST_AFTER"])))) [.ret (.c (.bl false))] [],
    .asg (.v 3) (.call "least_of" [.v 0, .v 1]),
    .iff (.cmp .Eq (.v 3) (.c (.int 0))) [.ret (.and (.cmp .Eq (.idx (.v 2) (.c (.int 0))) (.c (.int 0))) (.cmp .Is (.idx (.v 2) (.c (.int 1))) (.c (.non))))] [],
    .ret (.and (.cmp .Eq (.idx (.v 2) (.c (.int 0))) (.v 3)) (.and (.call "is_between" [.idx (.v 2) (.c (.int 1)), .c (.int 1), .bi .len [.v 0]]) (.cmp .In (.tup [.v 3, .idx (.v 2) (.c (.int 1))]) (.call "needs_of" [.v 0, .v 1]))))]
abbrev s_number_after : Stmt := top 24
def N_number_after : List Str := ["floors", "wide", "after", "bounds", "below"]
def ir_number_after : List S := [
    .asg (.v 3) (.lc [4] (.v 4) (.range [.bin .Add (.bi .len [.v 0]) (.c (.int 1))]) [] (.bin .Add (.bi .sum [.slc (.v 0) (.na) (.v 4)]) (.bin .Mult (.v 1) (.bi .max [.c (.int 0), .bin .Sub (.v 2) (.v 4)])))),
    .ret (.bi .min [.lst [.bi .sum [.v 0], .star (.v 3)]])]
abbrev s_out_after : Stmt := top 25
def N_out_after : List Str := ["floors", "wide", "after"]
def ir_out_after : List S := [
    .ex (.call "check_stair" [.v 0, .v 1]),
    .ex (.call "check_after" [.v 2]),
    .ret (.call "number_after" [.v 0, .v 1, .v 2])]
abbrev s_alone_by : Stmt := top 26
def N_alone_by : List Str := ["floors", "wide", "below", "number"]
def ir_alone_by : List S := [
    .ret (.lc [2, 3] (.tup [.v 2, .v 3]) (.enum (.v 0)) [] (.ite (.cmp .Gt (.v 3) (.c (.int 0))) (.bin .Add (.v 2) (.call "rounded_up" [.v 3, .v 1])) (.c (.int 0))))]
abbrev s_alone_out : Stmt := top 27
def N_alone_out : List Str := ["floors", "wide"]
def ir_alone_out : List S := [
    .ex (.call "check_stair" [.v 0, .v 1]),
    .ret (.bi .tuple [.call "alone_by" [.v 0, .v 1]])]
abbrev s_widest_need : Stmt := top 28
def N_widest_need : List Str := ["floors", "after", "fine", "wide"]
def ir_widest_need : List S := [
    .ex (.call "check_floors" [.v 0]),
    .ex (.call "check_after" [.v 1]),
    .asg (.v 2) (.lc [3] (.v 3) (.range [.c (.int 1), .bin .Add (.g "MOST_WIDE") (.c (.int 1))]) [.cmp .LtE (.call "least_of" [.v 0, .v 3]) (.v 1)] (.v 3)),
    .ret (.ite (.cmp .NotEq (.v 2) (.lst [])) (.idx (.v 2) (.c (.int 0))) (.c (.non)))]
abbrev s_is_order : Stmt := top 33
def N_is_order : List Str := ["floors", "value"]
def ir_is_order : List S := [
    .ret (.and (.call "are_between" [.v 1, .c (.int 1), .bi .len [.v 0]]) (.cmp .Eq (.bi .sorted [.v 1]) (.coll true (.range [.c (.int 1), .bin .Add (.bi .len [.v 0]) (.c (.int 1))]))))]
abbrev s_check_order : Stmt := top 34
def N_check_order : List Str := ["floors", "wide", "order"]
def ir_check_order : List S := [
    .ex (.call "check_stair" [.v 0, .v 1]),
    .iff (.not (.call "is_order" [.v 0, .v 2])) [.nev] []]
abbrev s_check_dues : Stmt := top 35
def N_check_dues : List Str := ["floors", "wide", "dues"]
def ir_check_dues : List S := [
    .ex (.call "check_stair" [.v 0, .v 1]),
    .iff (.or (.not (.call "are_between" [.v 2, .c (.int 0), .g "MOST_AFTER"])) (.cmp .NotEq (.bi .len [.v 2]) (.bi .len [.v 0]))) [.nev] []]
abbrev s_orders_of : Stmt := top 36
def N_orders_of : List Str := ["many", "found", "lap", "longer", "row", "floor"]
def ir_orders_of : List S := [
    .asg (.v 1) (.lst [.tup []]),
    .for (.v 2) (.range [.v 0]) [.own 3 (.lst []), .for (.v 4) (.of (.v 1)) [.ex (.mt .extend (.v 3) [.lc [5] (.v 5) (.range [.c (.int 1), .bin .Add (.v 0) (.c (.int 1))]) [.cmp .NotIn (.v 5) (.v 4)] (.tup [.star (.v 4), .v 5])])], .asg (.v 1) (.v 3)],
    .ret (.v 1)]
abbrev s_goers : Stmt := top 37
def N_goers : List Str := ["stood", "wide", "order", "found", "room", "floor"]
def ir_goers : List S := [
    .par [(3, true), (4, false)] [.bin .Mult (.lst [.c (.int 0)]) (.bi .len [.v 0]), .v 1],
    .for (.v 5) (.of (.v 2)) [.asg (.idx (.v 3) (.bin .Sub (.v 5) (.c (.int 1)))) (.bi .min [.v 4, .idx (.v 0) (.bin .Sub (.v 5) (.c (.int 1)))]), .asg (.v 4) (.bin .Sub (.v 4) (.idx (.v 3) (.bin .Sub (.v 5) (.c (.int 1)))))],
    .ret (.v 3)]
abbrev s_behind_tick : Stmt := top 38
def N_behind_tick : List Str := ["here", "less", "more", "there", "gone", "come"]
def ir_behind_tick : List S := [
    .ret (.lc [3, 4, 5] (.tup [.v 3, .v 4, .v 5]) (.zip [.v 0, .v 1, .v 2]) [] (.bin .Add (.bin .Sub (.v 3) (.v 4)) (.v 5)))]
abbrev s_run_of : Stmt := top 39
def N_run_of : List Str := ["floors", "wide", "order", "many", "stood", "found", "floor", "gone", "come", "rows", "row", "at", "number"]
def ir_run_of : List S := [
    .asg (.v 3) (.bi .len [.v 0]),
    .par [(4, true), (5, true)] [.lst [], .lst []],
    .for (.v 6) (.range [.v 3]) [.ex (.mt .append (.v 4) [.lc [11, 12] (.tup [.v 11, .v 12]) (.enum (.v 0)) [] (.ite (.cmp .Eq (.v 11) (.v 6)) (.v 12) (.c (.int 0)))])],
    .whl (.bi .any [.lc [10] (.v 10) (.of (.v 4)) [] (.cmp .Gt (.bi .sum [.v 10]) (.c (.int 0)))]) [.asg (.v 7) (.lc [10] (.v 10) (.of (.v 4)) [] (.call "goers" [.v 10, .v 1, .v 2])), .asg (.v 8) (.lst [.star (.slc (.v 7) (.c (.int 1)) (.na)), .bin .Mult (.lst [.c (.int 0)]) (.v 3)]), .asg (.v 9) (.coll true (.zip [.v 4, .v 7, .v 8])), .own 4 (.lc [10] (.v 10) (.of (.v 9)) [] (.call "behind_tick" [.star (.v 10)])), .ex (.mt .append (.v 5) [.bi .tuple [.idx (.v 7) (.c (.int 0))]])],
    .ret (.v 5)]
abbrev s_last_of : Stmt := top 40
def N_last_of : List Str := ["floors", "wide", "order", "found", "tick", "row", "at", "number"]
def ir_last_of : List S := [
    .own 3 (.bin .Mult (.lst [.c (.int 0)]) (.bi .len [.v 0])),
    .for (.tup [.v 4, .v 5]) (.enum (.call "run_of" [.v 0, .v 1, .v 2])) [.for (.tup [.v 6, .v 7]) (.enum (.v 5)) [.iff (.cmp .Gt (.v 7) (.c (.int 0))) [.asg (.idx (.v 3) (.v 6)) (.bin .Add (.v 4) (.c (.int 1)))] []]],
    .ret (.v 3)]
abbrev s_by_order : Stmt := top 41
def N_by_order : List Str := ["floors", "wide", "order"]
def ir_by_order : List S := [
    .ex (.call "check_order" [.v 0, .v 1, .v 2]),
    .ret (.bi .tuple [.call "run_of" [.v 0, .v 1, .v 2]])]
abbrev s_last_out : Stmt := top 42
def N_last_out : List Str := ["floors", "wide", "order"]
def ir_last_out : List S := [
    .ex (.call "check_order" [.v 0, .v 1, .v 2]),
    .ret (.bi .tuple [.call "last_of" [.v 0, .v 1, .v 2]])]
abbrev s_is_in_time : Stmt := top 43
def N_is_in_time : List Str := ["floors", "wide", "order", "dues", "last", "due"]
def ir_is_in_time : List S := [
    .ret (.bi .all [.lc [4, 5] (.tup [.v 4, .v 5]) (.zip [.call "last_of" [.v 0, .v 1, .v 2], .v 3]) [] (.cmp .LtE (.v 4) (.v 5))])]
abbrev s_fine_order : Stmt := top 44
def N_fine_order : List Str := ["floors", "wide", "dues", "order"]
def ir_fine_order : List S := [
    .for (.v 3) (.of (.call "orders_of" [.bi .len [.v 0]])) [.iff (.call "is_in_time" [.v 0, .v 1, .v 3, .v 2]) [.ret (.v 3)] []],
    .ret (.c (.non))]
abbrev s_late_of : Stmt := top 45
def N_late_of : List Str := ["floors", "wide", "dues", "at", "last"]
def ir_late_of : List S := [
    .ret (.lc [3, 4] (.tup [.v 3, .v 4]) (.enum (.call "alone_by" [.v 0, .v 1])) [.cmp .Gt (.v 4) (.idx (.v 2) (.v 3))] (.bin .Add (.v 3) (.c (.int 1))))]
abbrev s_order_told : Stmt := top 46
def N_order_told : List Str := ["floors", "wide", "dues", "late", "order"]
def ir_order_told : List S := [
    .ex (.call "check_dues" [.v 0, .v 1, .v 2]),
    .asg (.v 3) (.call "late_of" [.v 0, .v 1, .v 2]),
    .iff (.cmp .NotEq (.v 3) (.lst [])) [.ret (.tup [.g "FLOOR", .idx (.v 3) (.c (.int 0))])] [],
    .asg (.v 4) (.call "fine_order" [.v 0, .v 1, .v 2]),
    .ret (.ite (.cmp .IsNot (.v 4) (.c (.non))) (.tup [.g "ORDER", .v 4]) (.tup [.g "NONE"]))]
abbrev s_shows_order : Stmt := top 47
def N_shows_order : List Str := ["floors", "wide", "dues", "value"]
def ir_shows_order : List S := [
    .ex (.call "check_dues" [.v 0, .v 1, .v 2]),
    .iff (.or (.not (.bi (.isI .tuple) [.v 3])) (.or (.cmp .NotIn (.bi .len [.v 3]) (.tup [.c (.int 1), .c (.int 2)])) (.not (.bi (.isI .str) [.idx (.v 3) (.c (.int 0))])))) [.ret (.c (.bl false))] [],
    .iff (.cmp .Eq (.bi .len [.v 3]) (.c (.int 1))) [.ret (.and (.cmp .Eq (.idx (.v 3) (.c (.int 0))) (.g "NONE")) (.cmp .Is (.call "fine_order" [.v 0, .v 1, .v 2]) (.c (.non))))] [],
    .iff (.cmp .Eq (.idx (.v 3) (.c (.int 0))) (.g "ORDER")) [.ret (.and (.call "is_order" [.v 0, .idx (.v 3) (.c (.int 1))]) (.call "is_in_time" [.v 0, .v 1, .idx (.v 3) (.c (.int 1)), .v 2]))] [],
    .ret (.and (.cmp .Eq (.idx (.v 3) (.c (.int 0))) (.g "FLOOR")) (.and (.call "is_between" [.idx (.v 3) (.c (.int 1)), .c (.int 1), .bi .len [.v 0]]) (.cmp .In (.idx (.v 3) (.c (.int 1))) (.call "late_of" [.v 0, .v 1, .v 2]))))]
abbrev s_wait_of : Stmt := top 48
def N_wait_of : List Str := ["floors", "wide", "order", "rows", "last", "alone"]
def ir_wait_of : List S := [
    .asg (.v 3) (.coll true (.zip [.call "last_of" [.v 0, .v 1, .v 2], .call "alone_by" [.v 0, .v 1]])),
    .ret (.bi .max [.lc [4, 5] (.tup [.v 4, .v 5]) (.of (.v 3)) [] (.bin .Sub (.v 4) (.v 5))])]
abbrev s_least_wait : Stmt := top 49
def N_least_wait : List Str := ["floors", "wide", "order"]
def ir_least_wait : List S := [
    .ret (.bi .min [.lc [2] (.v 2) (.of (.call "orders_of" [.bi .len [.v 0]])) [] (.tup [.call "wait_of" [.v 0, .v 1, .v 2], .v 2])])]
abbrev s_fairest : Stmt := top 50
def N_fairest : List Str := ["floors", "wide"]
def ir_fairest : List S := [
    .ex (.call "check_stair" [.v 0, .v 1]),
    .ret (.call "least_wait" [.v 0, .v 1])]
abbrev s_law_pot : Stmt := top 52
def N_law_pot : List Str := ["script", "place", "cell", "own", "small"]
def ir_law_pot : List S := [
    .asg (.v 2) (.ite (.cmp .Lt (.v 1) (.bi .len [.v 0])) (.idx (.v 0) (.v 1)) (.bin .Add (.bin .Add (.bin .Mod (.bi .int [.bi .sum [.slc (.v 0) (.na) (.c (.int 1))]]) (.c (.int 1000003))) (.bin .Mult (.c (.int 3633)) (.v 1))) (.c (.int 8705)))),
    .asg (.v 3) (.bin .Mult (.bin .Mod (.bi .int [.bi .abs [.v 2]]) (.bin .Pow (.bin .Pow (.c (.int 10)) (.c (.int 60))) (.c (.int 5)))) (.bi .int [.cmp .GtE (.bi .abs [.v 2]) (.bin .Pow (.c (.int 10)) (.c (.int 18)))])),
    .asg (.v 4) (.bin .Mod (.bi .int [.v 2]) (.c (.int 2305843009213693951))),
    .ret (.lst [.v 3, .bin .Mod (.bi .int [.bin .Add (.bin .Add (.bin .Mult (.v 4) (.c (.int 94609))) (.bin .Mult (.bin .Mult (.c (.int 13875)) (.v 1)) (.v 1))) (.c (.int 3033))]) (.c (.int 2305843009213693921)), .c (.int 0)])]
abbrev s_law_take : Stmt := top 53
def N_law_take : List Str := ["pot", "upto", "prime", "blend", "digit"]
def ir_law_take : List S := [
    .iff (.cmp .Gt (.idx (.v 0) (.c (.int 0))) (.c (.int 0))) [.asg (.v 4) (.bin .Mod (.bi .int [.idx (.v 0) (.c (.int 0))]) (.v 1)), .asg (.idx (.v 0) (.c (.int 0))) (.bin .FloorDiv (.idx (.v 0) (.c (.int 0))) (.v 1)), .ret (.v 4)] [],
    .asg (.idx (.v 0) (.c (.int 2))) (.bin .Add (.idx (.v 0) (.c (.int 2))) (.c (.int 1))),
    .asg (.v 2) (.idx (.lst [.c (.int 2147483647), .c (.int 2147483629), .c (.int 2147483587), .c (.int 2147483579)]) (.bin .Mod (.bi .int [.idx (.v 0) (.c (.int 2))]) (.c (.int 4)))),
    .asg (.v 3) (.bin .Mod (.bi .int [.bin .Pow (.bi .int [.bin .Add (.bin .Add (.idx (.v 0) (.c (.int 1))) (.bin .Mult (.bin .Mult (.c (.int 137649)) (.idx (.v 0) (.c (.int 2)))) (.idx (.v 0) (.c (.int 2))))) (.c (.int 3733))]) (.c (.int 3))]) (.v 2)),
    .ret (.bin .Mod (.bi .int [.bin .FloorDiv (.bin .Mult (.v 3) (.bin .Add (.bin .Mod (.bi .int [.v 3]) (.c (.int 10007))) (.bin .Mult (.c (.int 2935)) (.idx (.v 0) (.c (.int 2)))))) (.c (.int 307))]) (.v 1))]
abbrev s_law_of : Stmt := top 54
def N_law_of : List Str := ["pot", "some"]
def ir_law_of : List S := [
    .ret (.idx (.v 1) (.call "_law_take" [.v 0, .bi .len [.v 1]]))]
abbrev s_law_cells : Stmt := top 55
def N_law_cells : List Str := ["script", "limit"]
def ir_law_cells : List S := [
    .ret (.coll true (.range [.bi .max [.c (.int 1), .bi .min [.v 1, .bi .len [.v 0]]]]))]
abbrev s_law_up : Stmt := top 56
def N_law_up : List Str := ["people", "wide"]
def ir_law_up : List S := [
    .ret (.bin .FloorDiv (.bin .Sub (.bin .Add (.v 0) (.v 1)) (.c (.int 1))) (.v 1))]
abbrev s_law_out : Stmt := top 57
def N_law_out : List Str := ["floors", "wide", "after", "some", "floor"]
def ir_law_out : List S := [
    .own 3 (.lst [.bi .sum [.v 0]]),
    .for (.v 4) (.range [.bi .len [.v 0]]) [.ex (.mt .append (.v 3) [.bin .Add (.bi .sum [.slc (.v 0) (.na) (.v 4)]) (.bin .Mult (.v 1) (.bi .max [.c (.int 0), .bin .Sub (.v 2) (.v 4)]))])],
    .ret (.bi .min [.v 3])]
abbrev s_law_from_below : Stmt := top 58
def N_law_from_below : List Str := ["floors", "wide", "found", "last", "floor", "people", "ticks", "some", "at"]
def ir_law_from_below : List S := [
    .par [(2, true), (3, false)] [.lst [], .c (.int 0)],
    .for (.tup [.v 4, .v 5]) (.enum (.v 0)) [.asg (.v 6) (.c (.int 0)), .iff (.cmp .Gt (.v 5) (.c (.int 0))) [.asg (.v 7) (.slc (.v 0) (.na) (.bin .Add (.v 4) (.c (.int 1)))), .asg (.v 6) (.bi .max [.lc [8] (.v 8) (.range [.bin .Add (.v 4) (.c (.int 1))]) [.cmp .Gt (.bi .sum [.slc (.v 7) (.v 8) (.na)]) (.c (.int 0))] (.bin .Add (.v 8) (.call "_law_up" [.bi .sum [.slc (.v 7) (.v 8) (.na)], .v 1]))])] [], .ex (.mt .append (.v 2) [.v 6]), .asg (.v 3) (.bi .max [.v 3, .v 6])],
    .ret (.tup [.bi .tuple [.v 2], .v 3])]
abbrev s_law_right : Stmt := top 59
def N_law_right : List Str := ["pot", "floors", "wide", "many", "after", "needs", "ticks", "alone", "order", "below", "last", "line", "sums", "due", "few", "floor", "fine", "later", "need", "tick", "at", "one", "people", "row", "its"]
def ir_law_right : List S := [
    .asg (.v 1) (.bi .tuple [.lc [15] (.v 15) (.range [.bin .Add (.c (.int 1)) (.call "_law_take" [.v 0, .c (.int 5)])]) [] (.bi .int [.call "_law_of" [.v 0, .lst [.c (.int 0), .c (.int 1), .c (.int 2), .c (.int 7), .c (.int 49), .c (.int 50)]]])]),
    .asg (.tup [.v 2, .v 3]) (.tup [.bi .int [.call "_law_of" [.v 0, .lst [.c (.int 1), .c (.int 2), .c (.int 3), .c (.int 7), .c (.int 20)]]], .bi .len [.v 1]]),
    .for (.v 4) (.of (.tup [.c (.int 0), .c (.int 1), .c (.int 2), .v 3, .bi .int [.call "_law_take" [.v 0, .c (.int 60)]], .c (.int 400)])) [.iff (.cmp .NotEq (.bi .repr [.call "out_after" [.v 1, .v 2, .v 4]]) (.bi .repr [.call "_law_out" [.v 1, .v 2, .v 4]])) [.ret (.c (.bl false))] []],
    .asg (.v 5) (.lc [15] (.v 15) (.range [.v 3]) [.cmp .Gt (.bi .sum [.slc (.v 1) (.v 15) (.na)]) (.c (.int 0))] (.bin .Add (.v 15) (.call "_law_up" [.bi .sum [.slc (.v 1) (.v 15) (.na)], .v 2]))),
    .asg (.v 6) (.ite (.cmp .NotEq (.v 5) (.lst [])) (.bi .max [.v 5]) (.c (.int 0))),
    .iff (.cmp .NotEq (.bi .repr [.idx (.call "down_told" [.v 1, .v 2]) (.c (.int 0))]) (.bi .repr [.v 6])) [.ret (.c (.bl false))] [],
    .asg (.v 7) (.bi .tuple [.lc [15, 22] (.tup [.v 15, .v 22]) (.enum (.v 1)) [] (.ite (.cmp .Gt (.v 22) (.c (.int 0))) (.bin .Add (.v 15) (.call "_law_up" [.v 22, .v 2])) (.c (.int 0)))]),
    .iff (.cmp .NotEq (.bi .repr [.call "alone_out" [.v 1, .v 2]]) (.bi .repr [.v 7])) [.ret (.c (.bl false))] [],
    .asg (.v 8) (.coll false (.range [.c (.int 1), .bin .Add (.v 3) (.c (.int 1))])),
    .asg (.tup [.v 9, .v 10]) (.call "_law_from_below" [.v 1, .v 2]),
    .iff (.or (.cmp .NotEq (.bi .repr [.call "last_out" [.v 1, .v 2, .v 8]]) (.bi .repr [.v 9])) (.cmp .NotEq (.v 10) (.v 6))) [.ret (.c (.bl false))] [],
    .asg (.v 11) (.call "by_order" [.v 1, .v 2, .v 8]),
    .asg (.v 12) (.lc [19] (.v 19) (.range [.bin .Add (.v 6) (.c (.int 1))]) [] (.call "_law_out" [.v 1, .v 2, .v 19])),
    .iff (.cmp .NotEq (.lc [23] (.v 23) (.of (.v 11)) [] (.bi .sum [.v 23])) (.lc [21, 24] (.tup [.v 21, .v 24]) (.zip [.slc (.v 12) (.c (.int 1)) (.na), .v 12]) [] (.bin .Sub (.v 21) (.v 24)))) [.ret (.c (.bl false))] [],
    .iff (.or (.cmp .IsNot (.call "shows_order" [.v 1, .v 2, .v 9, .tup [.c (.str "order"), .v 8]]) (.c (.bl true))) (.cmp .NotEq (.idx (.call "order_told" [.v 1, .v 2, .v 9]) (.c (.int 0))) (.c (.str "order")))) [.ret (.c (.bl false))] [],
    .asg (.v 13) (.lc [20, 21] (.tup [.v 20, .v 21]) (.enum (.v 1)) [] (.and (.cmp .Gt (.v 21) (.c (.int 0))) (.cmp .Gt (.idx (.v 9) (.v 20)) (.idx (.v 7) (.v 20))))),
    .iff (.cmp .NotEq (.bi .repr [.call "shows_order" [.v 1, .v 2, .v 7, .tup [.c (.str "order"), .v 8]]]) (.bi .repr [.not (.bi .any [.v 13])])) [.ret (.c (.bl false))] [],
    .iff (.and (.cmp .LtE (.v 3) (.c (.int 4))) (.cmp .Gt (.idx (.call "fairest" [.v 1, .v 2]) (.c (.int 0))) (.bi .max [.lc [21, 24] (.tup [.v 21, .v 24]) (.zip [.v 9, .v 7]) [] (.bin .Sub (.v 21) (.v 24))]))) [.ret (.c (.bl false))] [],
    .iff (.and (.cmp .Gt (.bi .sum [.v 1]) (.c (.int 0))) (.cmp .Lt (.v 3) (.c (.int 5)))) [.iff (.cmp .NotEq (.bi .repr [.idx (.call "down_told" [.bin .Add (.tup [.c (.int 0)]) (.v 1), .v 2]) (.c (.int 0))]) (.bi .repr [.bin .Add (.v 6) (.c (.int 1))])) [.ret (.c (.bl false))] [], .asg (.v 17) (.bin .Add (.tup [.c (.int 0)]) (.bi .tuple [.lc [21] (.v 21) (.of (.v 9)) [] (.bin .Add (.v 21) (.bi .int [.cmp .Gt (.v 21) (.c (.int 0))]))])), .iff (.cmp .NotEq (.bi .repr [.call "last_out" [.bin .Add (.tup [.c (.int 0)]) (.v 1), .v 2, .coll false (.range [.c (.int 1), .bin .Add (.v 3) (.c (.int 2))])]]) (.bi .repr [.v 17])) [.ret (.c (.bl false))] []] [],
    .asg (.v 14) (.bi .tuple [.lc [22] (.v 22) (.of (.v 1)) [] (.bi .min [.c (.int 4), .v 22])]),
    .iff (.or (.cmp .NotEq (.bi .repr [.call "last_out" [.v 14, .c (.int 20), .rev (.v 8)]]) (.bi .repr [.call "alone_out" [.v 14, .c (.int 20)]])) (.cmp .NotEq (.idx (.call "fairest" [.slc (.v 14) (.na) (.c (.int 4)), .c (.int 20)]) (.c (.int 0))) (.c (.int 0)))) [.ret (.c (.bl false))] [],
    .for (.v 15) (.range [.c (.int 1), .bin .Add (.v 3) (.c (.int 1))]) [.asg (.v 18) (.ite (.cmp .Gt (.bi .sum [.slc (.v 1) (.bin .Sub (.v 15) (.c (.int 1))) (.na)]) (.c (.int 0))) (.bin .Add (.bin .Sub (.v 15) (.c (.int 1))) (.call "_law_up" [.bi .sum [.slc (.v 1) (.bin .Sub (.v 15) (.c (.int 1))) (.na)], .v 2])) (.c (.non))), .iff (.cmp .NotEq (.bi .repr [.call "shows_down" [.v 1, .v 2, .tup [.v 6, .v 15]]]) (.bi .repr [.and (.cmp .IsNot (.v 18) (.c (.non))) (.cmp .Eq (.v 18) (.v 6))])) [.ret (.c (.bl false))] []],
    .asg (.v 4) (.bi .int [.call "_law_take" [.v 0, .c (.int 70)]]),
    .asg (.v 16) (.lc [21] (.v 21) (.range [.c (.int 1), .c (.int 21)]) [.cmp .Eq (.call "_law_out" [.v 1, .v 21, .v 4]) (.bi .sum [.v 1])] (.v 21)),
    .ret (.cmp .Eq (.bi .repr [.call "widest_need" [.v 1, .v 4]]) (.bi .repr [.ite (.cmp .NotEq (.v 16) (.lst [])) (.idx (.v 16) (.c (.int 0))) (.c (.non))]))]
abbrev s_law : Stmt := top 60
def N_law : List Str := ["script", "place", "pot", "lap"]
def ir_law : List S := [
    .for (.v 1) (.of (.call "_law_cells" [.v 0, .c (.int 3)])) [.asg (.v 2) (.heap (.call "_law_pot" [.v 0, .v 1])), .iff (.not (.bi .all [.lc [3] (.v 3) (.range [.c (.int 3)]) [] (.call "_law_right" [.v 2])])) [.ret (.c (.bl false))] []],
    .ret (.c (.bl true))]
/-! ### it is the text -/
theorem ck_is_integer : ckSs ir_is_integer ⟨N_is_integer, defScope s_is_integer, none⟩ (defBody s_is_integer) = true := by kernel_rfl
theorem sc_is_integer : FnScope N_is_integer ["value"] (defScope s_is_integer) := ⟨by kernel_rfl, by kernel_rfl, by kernel_rfl, by decide +kernel, by kernel_rfl, by decide +kernel, by decide +kernel⟩
theorem ck_is_between : ckSs ir_is_between ⟨N_is_between, defScope s_is_between, none⟩ (defBody s_is_between) = true := by kernel_rfl
theorem sc_is_between : FnScope N_is_between ["value", "low", "high"] (defScope s_is_between) := ⟨by kernel_rfl, by kernel_rfl, by kernel_rfl, by decide +kernel, by kernel_rfl, by decide +kernel, by decide +kernel⟩
theorem ck_are_between : ckSs ir_are_between ⟨N_are_between, defScope s_are_between, none⟩ (defBody s_are_between) = true := by kernel_rfl
theorem sc_are_between : FnScope N_are_between ["value", "low", "high"] (defScope s_are_between) := ⟨by kernel_rfl, by kernel_rfl, by kernel_rfl, by decide +kernel, by kernel_rfl, by decide +kernel, by decide +kernel⟩
theorem ck_check_floors : ckSs ir_check_floors ⟨N_check_floors, defScope s_check_floors, none⟩ (defBody s_check_floors) = true := by kernel_rfl
theorem sc_check_floors : FnScope N_check_floors ["floors"] (defScope s_check_floors) := ⟨by kernel_rfl, by kernel_rfl, by kernel_rfl, by decide +kernel, by kernel_rfl, by decide +kernel, by decide +kernel⟩
theorem ck_check_stair : ckSs ir_check_stair ⟨N_check_stair, defScope s_check_stair, none⟩ (defBody s_check_stair) = true := by kernel_rfl
theorem sc_check_stair : FnScope N_check_stair ["floors", "wide"] (defScope s_check_stair) := ⟨by kernel_rfl, by kernel_rfl, by kernel_rfl, by decide +kernel, by kernel_rfl, by decide +kernel, by decide +kernel⟩
theorem ck_check_after : ckSs ir_check_after ⟨N_check_after, defScope s_check_after, none⟩ (defBody s_check_after) = true := by kernel_rfl
theorem sc_check_after : FnScope N_check_after ["after"] (defScope s_check_after) := ⟨by kernel_rfl, by kernel_rfl, by kernel_rfl, by decide +kernel, by kernel_rfl, by decide +kernel, by decide +kernel⟩
theorem ck_rounded_up : ckSs ir_rounded_up ⟨N_rounded_up, defScope s_rounded_up, none⟩ (defBody s_rounded_up) = true := by kernel_rfl
theorem sc_rounded_up : FnScope N_rounded_up ["number", "wide"] (defScope s_rounded_up) := ⟨by kernel_rfl, by kernel_rfl, by kernel_rfl, by decide +kernel, by kernel_rfl, by decide +kernel, by decide +kernel⟩
theorem ck_needs_of : ckSs ir_needs_of ⟨N_needs_of, defScope s_needs_of, none⟩ (defBody s_needs_of) = true := by kernel_rfl
theorem sc_needs_of : FnScope N_needs_of ["floors", "wide"] (defScope s_needs_of) := ⟨by kernel_rfl, by kernel_rfl, by kernel_rfl, by decide +kernel, by kernel_rfl, by decide +kernel, by decide +kernel⟩
theorem ck_least_of : ckSs ir_least_of ⟨N_least_of, defScope s_least_of, none⟩ (defBody s_least_of) = true := by kernel_rfl
theorem sc_least_of : FnScope N_least_of ["floors", "wide"] (defScope s_least_of) := ⟨by kernel_rfl, by kernel_rfl, by kernel_rfl, by decide +kernel, by kernel_rfl, by decide +kernel, by decide +kernel⟩
theorem ck_down_told : ckSs ir_down_told ⟨N_down_told, defScope s_down_told, none⟩ (defBody s_down_told) = true := by kernel_rfl
theorem sc_down_told : FnScope N_down_told ["floors", "wide"] (defScope s_down_told) := ⟨by kernel_rfl, by kernel_rfl, by kernel_rfl, by decide +kernel, by kernel_rfl, by decide +kernel, by decide +kernel⟩
theorem ck_shows_down : ckSs ir_shows_down ⟨N_shows_down, defScope s_shows_down, none⟩ (defBody s_shows_down) = true := by kernel_rfl
theorem sc_shows_down : FnScope N_shows_down ["floors", "wide", "value"] (defScope s_shows_down) := ⟨by kernel_rfl, by kernel_rfl, by kernel_rfl, by decide +kernel, by kernel_rfl, by decide +kernel, by decide +kernel⟩
theorem ck_number_after : ckSs ir_number_after ⟨N_number_after, defScope s_number_after, none⟩ (defBody s_number_after) = true := by kernel_rfl
theorem sc_number_after : FnScope N_number_after ["floors", "wide", "after"] (defScope s_number_after) := ⟨by kernel_rfl, by kernel_rfl, by kernel_rfl, by decide +kernel, by kernel_rfl, by decide +kernel, by decide +kernel⟩
theorem ck_out_after : ckSs ir_out_after ⟨N_out_after, defScope s_out_after, none⟩ (defBody s_out_after) = true := by kernel_rfl
theorem sc_out_after : FnScope N_out_after ["floors", "wide", "after"] (defScope s_out_after) := ⟨by kernel_rfl, by kernel_rfl, by kernel_rfl, by decide +kernel, by kernel_rfl, by decide +kernel, by decide +kernel⟩
theorem ck_alone_by : ckSs ir_alone_by ⟨N_alone_by, defScope s_alone_by, none⟩ (defBody s_alone_by) = true := by kernel_rfl
theorem sc_alone_by : FnScope N_alone_by ["floors", "wide"] (defScope s_alone_by) := ⟨by kernel_rfl, by kernel_rfl, by kernel_rfl, by decide +kernel, by kernel_rfl, by decide +kernel, by decide +kernel⟩
theorem ck_alone_out : ckSs ir_alone_out ⟨N_alone_out, defScope s_alone_out, none⟩ (defBody s_alone_out) = true := by kernel_rfl
theorem sc_alone_out : FnScope N_alone_out ["floors", "wide"] (defScope s_alone_out) := ⟨by kernel_rfl, by kernel_rfl, by kernel_rfl, by decide +kernel, by kernel_rfl, by decide +kernel, by decide +kernel⟩
theorem ck_widest_need : ckSs ir_widest_need ⟨N_widest_need, defScope s_widest_need, none⟩ (defBody s_widest_need) = true := by kernel_rfl
theorem sc_widest_need : FnScope N_widest_need ["floors", "after"] (defScope s_widest_need) := ⟨by kernel_rfl, by kernel_rfl, by kernel_rfl, by decide +kernel, by kernel_rfl, by decide +kernel, by decide +kernel⟩
theorem ck_is_order : ckSs ir_is_order ⟨N_is_order, defScope s_is_order, none⟩ (defBody s_is_order) = true := by kernel_rfl
theorem sc_is_order : FnScope N_is_order ["floors", "value"] (defScope s_is_order) := ⟨by kernel_rfl, by kernel_rfl, by kernel_rfl, by decide +kernel, by kernel_rfl, by decide +kernel, by decide +kernel⟩
theorem ck_check_order : ckSs ir_check_order ⟨N_check_order, defScope s_check_order, none⟩ (defBody s_check_order) = true := by kernel_rfl
theorem sc_check_order : FnScope N_check_order ["floors", "wide", "order"] (defScope s_check_order) := ⟨by kernel_rfl, by kernel_rfl, by kernel_rfl, by decide +kernel, by kernel_rfl, by decide +kernel, by decide +kernel⟩
theorem ck_check_dues : ckSs ir_check_dues ⟨N_check_dues, defScope s_check_dues, none⟩ (defBody s_check_dues) = true := by kernel_rfl
theorem sc_check_dues : FnScope N_check_dues ["floors", "wide", "dues"] (defScope s_check_dues) := ⟨by kernel_rfl, by kernel_rfl, by kernel_rfl, by decide +kernel, by kernel_rfl, by decide +kernel, by decide +kernel⟩
theorem ck_orders_of : ckSs ir_orders_of ⟨N_orders_of, defScope s_orders_of, none⟩ (defBody s_orders_of) = true := by kernel_rfl
theorem sc_orders_of : FnScope N_orders_of ["many"] (defScope s_orders_of) := ⟨by kernel_rfl, by kernel_rfl, by kernel_rfl, by decide +kernel, by kernel_rfl, by decide +kernel, by decide +kernel⟩
theorem ck_goers : ckSs ir_goers ⟨N_goers, defScope s_goers, none⟩ (defBody s_goers) = true := by kernel_rfl
theorem sc_goers : FnScope N_goers ["stood", "wide", "order"] (defScope s_goers) := ⟨by kernel_rfl, by kernel_rfl, by kernel_rfl, by decide +kernel, by kernel_rfl, by decide +kernel, by decide +kernel⟩
theorem ck_behind_tick : ckSs ir_behind_tick ⟨N_behind_tick, defScope s_behind_tick, none⟩ (defBody s_behind_tick) = true := by kernel_rfl
theorem sc_behind_tick : FnScope N_behind_tick ["here", "less", "more"] (defScope s_behind_tick) := ⟨by kernel_rfl, by kernel_rfl, by kernel_rfl, by decide +kernel, by kernel_rfl, by decide +kernel, by decide +kernel⟩
theorem ck_run_of : ckSs ir_run_of ⟨N_run_of, defScope s_run_of, none⟩ (defBody s_run_of) = true := by kernel_rfl
theorem sc_run_of : FnScope N_run_of ["floors", "wide", "order"] (defScope s_run_of) := ⟨by kernel_rfl, by kernel_rfl, by kernel_rfl, by decide +kernel, by kernel_rfl, by decide +kernel, by decide +kernel⟩
theorem ck_last_of : ckSs ir_last_of ⟨N_last_of, defScope s_last_of, none⟩ (defBody s_last_of) = true := by kernel_rfl
theorem sc_last_of : FnScope N_last_of ["floors", "wide", "order"] (defScope s_last_of) := ⟨by kernel_rfl, by kernel_rfl, by kernel_rfl, by decide +kernel, by kernel_rfl, by decide +kernel, by decide +kernel⟩
theorem ck_by_order : ckSs ir_by_order ⟨N_by_order, defScope s_by_order, none⟩ (defBody s_by_order) = true := by kernel_rfl
theorem sc_by_order : FnScope N_by_order ["floors", "wide", "order"] (defScope s_by_order) := ⟨by kernel_rfl, by kernel_rfl, by kernel_rfl, by decide +kernel, by kernel_rfl, by decide +kernel, by decide +kernel⟩
theorem ck_last_out : ckSs ir_last_out ⟨N_last_out, defScope s_last_out, none⟩ (defBody s_last_out) = true := by kernel_rfl
theorem sc_last_out : FnScope N_last_out ["floors", "wide", "order"] (defScope s_last_out) := ⟨by kernel_rfl, by kernel_rfl, by kernel_rfl, by decide +kernel, by kernel_rfl, by decide +kernel, by decide +kernel⟩
theorem ck_is_in_time : ckSs ir_is_in_time ⟨N_is_in_time, defScope s_is_in_time, none⟩ (defBody s_is_in_time) = true := by kernel_rfl
theorem sc_is_in_time : FnScope N_is_in_time ["floors", "wide", "order", "dues"] (defScope s_is_in_time) := ⟨by kernel_rfl, by kernel_rfl, by kernel_rfl, by decide +kernel, by kernel_rfl, by decide +kernel, by decide +kernel⟩
theorem ck_fine_order : ckSs ir_fine_order ⟨N_fine_order, defScope s_fine_order, none⟩ (defBody s_fine_order) = true := by kernel_rfl
theorem sc_fine_order : FnScope N_fine_order ["floors", "wide", "dues"] (defScope s_fine_order) := ⟨by kernel_rfl, by kernel_rfl, by kernel_rfl, by decide +kernel, by kernel_rfl, by decide +kernel, by decide +kernel⟩
theorem ck_late_of : ckSs ir_late_of ⟨N_late_of, defScope s_late_of, none⟩ (defBody s_late_of) = true := by kernel_rfl
theorem sc_late_of : FnScope N_late_of ["floors", "wide", "dues"] (defScope s_late_of) := ⟨by kernel_rfl, by kernel_rfl, by kernel_rfl, by decide +kernel, by kernel_rfl, by decide +kernel, by decide +kernel⟩
theorem ck_order_told : ckSs ir_order_told ⟨N_order_told, defScope s_order_told, none⟩ (defBody s_order_told) = true := by kernel_rfl
theorem sc_order_told : FnScope N_order_told ["floors", "wide", "dues"] (defScope s_order_told) := ⟨by kernel_rfl, by kernel_rfl, by kernel_rfl, by decide +kernel, by kernel_rfl, by decide +kernel, by decide +kernel⟩
theorem ck_shows_order : ckSs ir_shows_order ⟨N_shows_order, defScope s_shows_order, none⟩ (defBody s_shows_order) = true := by kernel_rfl
theorem sc_shows_order : FnScope N_shows_order ["floors", "wide", "dues", "value"] (defScope s_shows_order) := ⟨by kernel_rfl, by kernel_rfl, by kernel_rfl, by decide +kernel, by kernel_rfl, by decide +kernel, by decide +kernel⟩
theorem ck_wait_of : ckSs ir_wait_of ⟨N_wait_of, defScope s_wait_of, none⟩ (defBody s_wait_of) = true := by kernel_rfl
theorem sc_wait_of : FnScope N_wait_of ["floors", "wide", "order"] (defScope s_wait_of) := ⟨by kernel_rfl, by kernel_rfl, by kernel_rfl, by decide +kernel, by kernel_rfl, by decide +kernel, by decide +kernel⟩
theorem ck_least_wait : ckSs ir_least_wait ⟨N_least_wait, defScope s_least_wait, none⟩ (defBody s_least_wait) = true := by kernel_rfl
theorem sc_least_wait : FnScope N_least_wait ["floors", "wide"] (defScope s_least_wait) := ⟨by kernel_rfl, by kernel_rfl, by kernel_rfl, by decide +kernel, by kernel_rfl, by decide +kernel, by decide +kernel⟩
theorem ck_fairest : ckSs ir_fairest ⟨N_fairest, defScope s_fairest, none⟩ (defBody s_fairest) = true := by kernel_rfl
theorem sc_fairest : FnScope N_fairest ["floors", "wide"] (defScope s_fairest) := ⟨by kernel_rfl, by kernel_rfl, by kernel_rfl, by decide +kernel, by kernel_rfl, by decide +kernel, by decide +kernel⟩
theorem ck_law_pot : ckSs ir_law_pot ⟨N_law_pot, defScope s_law_pot, none⟩ (defBody s_law_pot) = true := by kernel_rfl
theorem sc_law_pot : FnScope N_law_pot ["script", "place"] (defScope s_law_pot) := ⟨by kernel_rfl, by kernel_rfl, by kernel_rfl, by decide +kernel, by kernel_rfl, by decide +kernel, by decide +kernel⟩
theorem ck_law_take : ckSs ir_law_take ⟨N_law_take, defScope s_law_take, none⟩ (defBody s_law_take) = true := by kernel_rfl
theorem sc_law_take : FnScope N_law_take ["pot", "upto"] (defScope s_law_take) := ⟨by kernel_rfl, by kernel_rfl, by kernel_rfl, by decide +kernel, by kernel_rfl, by decide +kernel, by decide +kernel⟩
theorem ck_law_of : ckSs ir_law_of ⟨N_law_of, defScope s_law_of, none⟩ (defBody s_law_of) = true := by kernel_rfl
theorem sc_law_of : FnScope N_law_of ["pot", "some"] (defScope s_law_of) := ⟨by kernel_rfl, by kernel_rfl, by kernel_rfl, by decide +kernel, by kernel_rfl, by decide +kernel, by decide +kernel⟩
theorem ck_law_cells : ckSs ir_law_cells ⟨N_law_cells, defScope s_law_cells, none⟩ (defBody s_law_cells) = true := by kernel_rfl
theorem sc_law_cells : FnScope N_law_cells ["script", "limit"] (defScope s_law_cells) := ⟨by kernel_rfl, by kernel_rfl, by kernel_rfl, by decide +kernel, by kernel_rfl, by decide +kernel, by decide +kernel⟩
theorem ck_law_up : ckSs ir_law_up ⟨N_law_up, defScope s_law_up, none⟩ (defBody s_law_up) = true := by kernel_rfl
theorem sc_law_up : FnScope N_law_up ["people", "wide"] (defScope s_law_up) := ⟨by kernel_rfl, by kernel_rfl, by kernel_rfl, by decide +kernel, by kernel_rfl, by decide +kernel, by decide +kernel⟩
theorem ck_law_out : ckSs ir_law_out ⟨N_law_out, defScope s_law_out, none⟩ (defBody s_law_out) = true := by kernel_rfl
theorem sc_law_out : FnScope N_law_out ["floors", "wide", "after"] (defScope s_law_out) := ⟨by kernel_rfl, by kernel_rfl, by kernel_rfl, by decide +kernel, by kernel_rfl, by decide +kernel, by decide +kernel⟩
theorem ck_law_from_below : ckSs ir_law_from_below ⟨N_law_from_below, defScope s_law_from_below, none⟩ (defBody s_law_from_below) = true := by kernel_rfl
theorem sc_law_from_below : FnScope N_law_from_below ["floors", "wide"] (defScope s_law_from_below) := ⟨by kernel_rfl, by kernel_rfl, by kernel_rfl, by decide +kernel, by kernel_rfl, by decide +kernel, by decide +kernel⟩
theorem ck_law_right : ckSs ir_law_right ⟨N_law_right, defScope s_law_right, none⟩ (defBody s_law_right) = true := by kernel_rfl
theorem sc_law_right : FnScope N_law_right ["pot"] (defScope s_law_right) := ⟨by kernel_rfl, by kernel_rfl, by kernel_rfl, by decide +kernel, by kernel_rfl, by decide +kernel, by decide +kernel⟩
theorem ck_law : ckSs ir_law ⟨N_law, defScope s_law, none⟩ (defBody s_law) = true := by kernel_rfl
theorem sc_law : FnScope N_law ["script"] (defScope s_law) := ⟨by kernel_rfl, by kernel_rfl, by kernel_rfl, by decide +kernel, by kernel_rfl, by decide +kernel, by decide +kernel⟩
/- bad: [] -/
end K72
end

section
set_option Elab.async false
set_option linter.all false
set_option maxRecDepth 100000
set_option maxHeartbeats 0
namespace K72
open PySem PySem.Spec PyProof.Rows L2 Ev
/-! ### the head -/
def d_is_integer : He.DefD := ⟨("is_integer", none), "is_integer", "is_integer", defArgs s_is_integer, defBody s_is_integer, defScope s_is_integer, [], []⟩
def d_is_between : He.DefD := ⟨("is_between", none), "is_between", "is_between", defArgs s_is_between, defBody s_is_between, defScope s_is_between, [], []⟩
def d_are_between : He.DefD := ⟨("are_between", none), "are_between", "are_between", defArgs s_are_between, defBody s_are_between, defScope s_are_between, [], []⟩
def d_check_floors : He.DefD := ⟨("check_floors", none), "check_floors", "check_floors", defArgs s_check_floors, defBody s_check_floors, defScope s_check_floors, [], []⟩
def d_check_stair : He.DefD := ⟨("check_stair", none), "check_stair", "check_stair", defArgs s_check_stair, defBody s_check_stair, defScope s_check_stair, [], []⟩
def d_check_after : He.DefD := ⟨("check_after", none), "check_after", "check_after", defArgs s_check_after, defBody s_check_after, defScope s_check_after, [], []⟩
def d_rounded_up : He.DefD := ⟨("rounded_up", none), "rounded_up", "rounded_up", defArgs s_rounded_up, defBody s_rounded_up, defScope s_rounded_up, [], []⟩
def d_needs_of : He.DefD := ⟨("needs_of", none), "needs_of", "needs_of", defArgs s_needs_of, defBody s_needs_of, defScope s_needs_of, [], []⟩
def d_least_of : He.DefD := ⟨("least_of", none), "least_of", "least_of", defArgs s_least_of, defBody s_least_of, defScope s_least_of, [], []⟩
def d_down_told : He.DefD := ⟨("down_told", none), "down_told", "down_told", defArgs s_down_told, defBody s_down_told, defScope s_down_told, [], []⟩
def d_shows_down : He.DefD := ⟨("shows_down", none), "shows_down", "shows_down", defArgs s_shows_down, defBody s_shows_down, defScope s_shows_down, [], []⟩
def d_number_after : He.DefD := ⟨("number_after", none), "number_after", "number_after", defArgs s_number_after, defBody s_number_after, defScope s_number_after, [], []⟩
def d_out_after : He.DefD := ⟨("out_after", none), "out_after", "out_after", defArgs s_out_after, defBody s_out_after, defScope s_out_after, [], []⟩
def d_alone_by : He.DefD := ⟨("alone_by", none), "alone_by", "alone_by", defArgs s_alone_by, defBody s_alone_by, defScope s_alone_by, [], []⟩
def d_alone_out : He.DefD := ⟨("alone_out", none), "alone_out", "alone_out", defArgs s_alone_out, defBody s_alone_out, defScope s_alone_out, [], []⟩
def d_widest_need : He.DefD := ⟨("widest_need", none), "widest_need", "widest_need", defArgs s_widest_need, defBody s_widest_need, defScope s_widest_need, [], []⟩
def d_is_order : He.DefD := ⟨("is_order", none), "is_order", "is_order", defArgs s_is_order, defBody s_is_order, defScope s_is_order, [], []⟩
def d_check_order : He.DefD := ⟨("check_order", none), "check_order", "check_order", defArgs s_check_order, defBody s_check_order, defScope s_check_order, [], []⟩
def d_check_dues : He.DefD := ⟨("check_dues", none), "check_dues", "check_dues", defArgs s_check_dues, defBody s_check_dues, defScope s_check_dues, [], []⟩
def d_orders_of : He.DefD := ⟨("orders_of", none), "orders_of", "orders_of", defArgs s_orders_of, defBody s_orders_of, defScope s_orders_of, [], []⟩
def d_goers : He.DefD := ⟨("goers", none), "goers", "goers", defArgs s_goers, defBody s_goers, defScope s_goers, [], []⟩
def d_behind_tick : He.DefD := ⟨("behind_tick", none), "behind_tick", "behind_tick", defArgs s_behind_tick, defBody s_behind_tick, defScope s_behind_tick, [], []⟩
def d_run_of : He.DefD := ⟨("run_of", none), "run_of", "run_of", defArgs s_run_of, defBody s_run_of, defScope s_run_of, [], []⟩
def d_last_of : He.DefD := ⟨("last_of", none), "last_of", "last_of", defArgs s_last_of, defBody s_last_of, defScope s_last_of, [], []⟩
def d_by_order : He.DefD := ⟨("by_order", none), "by_order", "by_order", defArgs s_by_order, defBody s_by_order, defScope s_by_order, [], []⟩
def d_last_out : He.DefD := ⟨("last_out", none), "last_out", "last_out", defArgs s_last_out, defBody s_last_out, defScope s_last_out, [], []⟩
def d_is_in_time : He.DefD := ⟨("is_in_time", none), "is_in_time", "is_in_time", defArgs s_is_in_time, defBody s_is_in_time, defScope s_is_in_time, [], []⟩
def d_fine_order : He.DefD := ⟨("fine_order", none), "fine_order", "fine_order", defArgs s_fine_order, defBody s_fine_order, defScope s_fine_order, [], []⟩
def d_late_of : He.DefD := ⟨("late_of", none), "late_of", "late_of", defArgs s_late_of, defBody s_late_of, defScope s_late_of, [], []⟩
def d_order_told : He.DefD := ⟨("order_told", none), "order_told", "order_told", defArgs s_order_told, defBody s_order_told, defScope s_order_told, [], []⟩
def d_shows_order : He.DefD := ⟨("shows_order", none), "shows_order", "shows_order", defArgs s_shows_order, defBody s_shows_order, defScope s_shows_order, [], []⟩
def d_wait_of : He.DefD := ⟨("wait_of", none), "wait_of", "wait_of", defArgs s_wait_of, defBody s_wait_of, defScope s_wait_of, [], []⟩
def d_least_wait : He.DefD := ⟨("least_wait", none), "least_wait", "least_wait", defArgs s_least_wait, defBody s_least_wait, defScope s_least_wait, [], []⟩
def d_fairest : He.DefD := ⟨("fairest", none), "fairest", "fairest", defArgs s_fairest, defBody s_fairest, defScope s_fairest, [], []⟩
def d_law_pot : He.DefD := ⟨("_law_pot", none), "_law_pot", "_law_pot", defArgs s_law_pot, defBody s_law_pot, defScope s_law_pot, [], []⟩
def d_law_take : He.DefD := ⟨("_law_take", none), "_law_take", "_law_take", defArgs s_law_take, defBody s_law_take, defScope s_law_take, [], []⟩
def d_law_of : He.DefD := ⟨("_law_of", none), "_law_of", "_law_of", defArgs s_law_of, defBody s_law_of, defScope s_law_of, [], []⟩
def d_law_cells : He.DefD := ⟨("_law_cells", none), "_law_cells", "_law_cells", defArgs s_law_cells, defBody s_law_cells, defScope s_law_cells, [], []⟩
def d_law_up : He.DefD := ⟨("_law_up", none), "_law_up", "_law_up", defArgs s_law_up, defBody s_law_up, defScope s_law_up, [], []⟩
def d_law_out : He.DefD := ⟨("_law_out", none), "_law_out", "_law_out", defArgs s_law_out, defBody s_law_out, defScope s_law_out, [], []⟩
def d_law_from_below : He.DefD := ⟨("_law_from_below", none), "_law_from_below", "_law_from_below", defArgs s_law_from_below, defBody s_law_from_below, defScope s_law_from_below, [], []⟩
def d_law_right : He.DefD := ⟨("_law_right", none), "_law_right", "_law_right", defArgs s_law_right, defBody s_law_right, defScope s_law_right, [], []⟩
def d_law : He.DefD := ⟨("law", none), "law", "law", defArgs s_law, defBody s_law, defScope s_law, [], []⟩
def fn : List He.DefD := [d_is_integer, d_is_between, d_are_between, d_check_floors, d_check_stair, d_check_after, d_rounded_up, d_needs_of, d_least_of, d_down_told, d_shows_down, d_number_after, d_out_after, d_alone_by, d_alone_out, d_widest_need, d_is_order, d_check_order, d_check_dues, d_orders_of, d_goers, d_behind_tick, d_run_of, d_last_of, d_by_order, d_last_out, d_is_in_time, d_fine_order, d_late_of, d_order_told, d_shows_order, d_wait_of, d_least_wait, d_fairest, d_law_pot, d_law_take, d_law_of, d_law_cells, d_law_up, d_law_out, d_law_from_below, d_law_right, d_law]
def faB : List He.Fa := [.free "len", .free "sum", .free "min", .free "max", .free "all", .free "any", .free "sorted", .free "tuple", .free "list", .free "int", .free "abs", .free "repr", .free "str", .free "dict", .free "isinstance", .free "bool", .free "range", .free "enumerate", .free "zip", .free "set"]
def faG : List He.Fa := [.glo "is_integer", .glo "is_between", .glo "are_between", .glo "check_floors", .glo "check_stair", .glo "check_after", .glo "rounded_up", .glo "needs_of", .glo "least_of", .glo "down_told", .glo "shows_down", .glo "number_after", .glo "out_after", .glo "alone_by", .glo "alone_out", .glo "widest_need", .glo "is_order", .glo "check_order", .glo "check_dues", .glo "orders_of", .glo "goers", .glo "behind_tick", .glo "run_of", .glo "last_of", .glo "by_order", .glo "last_out", .glo "is_in_time", .glo "fine_order", .glo "late_of", .glo "order_told", .glo "shows_order", .glo "wait_of", .glo "least_wait", .glo "fairest", .glo "_law_pot", .glo "_law_take", .glo "_law_of", .glo "_law_cells", .glo "_law_up", .glo "_law_out", .glo "_law_from_below", .glo "_law_right", .glo "law"]
def faC : List He.Fa := [.int "MOST_WIDE" (20), .int "MOST_PEOPLE" (50), .int "MOST_FLOORS" (5), .int "MOST_AFTER" (400), .str "ORDER" "order", .str "FLOOR" "floor", .str "NONE" "none"]
def fa : List He.Fa := faB ++ (faG ++ faC)
abbrev R : PySem.W.OpenRow := PySem.W.OpenLaw.row PySem.Challenge.rw_outandshut_k72_whole_floors_by_what_is_l
abbrev hk : PySem.W.Hook := hookL 4 fa fn
def ob (s : PySem.W.SharedT) : He.AlD × Bool := obsL 4 fa fn (HandSHeadRun.getT s)
theorem ob_eq (s : PySem.W.SharedT) : ob s = hk.obs s.abs := obsL_eq (HandSHeadRun.getT_eq s)
def nm0 : List PySem.Str := ["__name__", "FireError", "BadAfter", "BadDues", "BadFloors", "BadOrder", "BadWide", "is_integer", "is_between", "are_between", "MOST_WIDE", "MOST_PEOPLE", "MOST_FLOORS", "MOST_AFTER", "check_floors", "check_stair", "check_after", "rounded_up", "needs_of", "least_of", "down_told", "shows_down", "number_after", "out_after", "alone_by", "alone_out", "widest_need", "ORDER", "FLOOR", "NONE"]
def nm1 : List PySem.Str := ["is_order", "check_order", "check_dues", "orders_of", "goers", "behind_tick", "run_of", "last_of", "by_order", "last_out", "is_in_time", "fine_order", "late_of", "order_told", "shows_order", "wait_of", "least_wait", "fairest", "_law_pot", "_law_take", "_law_of", "_law_cells", "_law_up", "_law_out", "_law_from_below", "_law_right"]
def names : List PySem.Str := nm0 ++ nm1
theorem run (w : World) : HandSHeadRun.RunEq R (PySem.W.view R.prog [60]) hk ob 6000 names w := by
  intro os
  kernel_rfl
end K72
end

section
set_option Elab.async false
set_option linter.all false
set_option maxRecDepth 100000
set_option maxHeartbeats 0
namespace K72
open PySem PySem.Spec PyProof.Rows L2 Ev
/-! ### what the defs do -/
def FUEL : Nat := 1000
def con : Str → Option D := fun x => if x = "MOST_WIDE" then some (.int 20) else if x = "MOST_PEOPLE" then some (.int 50) else if x = "MOST_FLOORS" then some (.int 5) else if x = "MOST_AFTER" then some (.int 400) else if x = "ORDER" then some (.str "order") else if x = "FLOOR" then some (.str "floor") else if x = "NONE" then some (.str "none") else  none
def G_0 : Gam := ⟨fun _ => none, con⟩
def den_is_integer : Den := denR 1 (runDef G_0 FUEL N_is_integer ir_is_integer)
def G_1 : Gam := G_0.add "is_integer" den_is_integer
def den_is_between : Den := denR 3 (runDef G_1 FUEL N_is_between ir_is_between)
def G_2 : Gam := G_1.add "is_between" den_is_between
def den_are_between : Den := denR 3 (runDef G_2 FUEL N_are_between ir_are_between)
def G_3 : Gam := G_2.add "are_between" den_are_between
def den_check_floors : Den := denR 1 (runDef G_3 FUEL N_check_floors ir_check_floors)
def G_4 : Gam := G_3.add "check_floors" den_check_floors
def den_check_stair : Den := denR 2 (runDef G_4 FUEL N_check_stair ir_check_stair)
def G_5 : Gam := G_4.add "check_stair" den_check_stair
def den_check_after : Den := denR 1 (runDef G_5 FUEL N_check_after ir_check_after)
def G_6 : Gam := G_5.add "check_after" den_check_after
def den_rounded_up : Den := denR 2 (runDef G_6 FUEL N_rounded_up ir_rounded_up)
def G_7 : Gam := G_6.add "rounded_up" den_rounded_up
def den_needs_of : Den := denR 2 (runDef G_7 FUEL N_needs_of ir_needs_of)
def G_8 : Gam := G_7.add "needs_of" den_needs_of
def den_least_of : Den := denR 2 (runDef G_8 FUEL N_least_of ir_least_of)
def G_9 : Gam := G_8.add "least_of" den_least_of
def den_down_told : Den := denR 2 (runDef G_9 FUEL N_down_told ir_down_told)
def G_10 : Gam := G_9.add "down_told" den_down_told
def den_shows_down : Den := denR 3 (runDef G_10 FUEL N_shows_down ir_shows_down)
def G_11 : Gam := G_10.add "shows_down" den_shows_down
def den_number_after : Den := denR 3 (runDef G_11 FUEL N_number_after ir_number_after)
def G_12 : Gam := G_11.add "number_after" den_number_after
def den_out_after : Den := denR 3 (runDef G_12 FUEL N_out_after ir_out_after)
def G_13 : Gam := G_12.add "out_after" den_out_after
def den_alone_by : Den := denR 2 (runDef G_13 FUEL N_alone_by ir_alone_by)
def G_14 : Gam := G_13.add "alone_by" den_alone_by
def den_alone_out : Den := denR 2 (runDef G_14 FUEL N_alone_out ir_alone_out)
def G_15 : Gam := G_14.add "alone_out" den_alone_out
def den_widest_need : Den := denR 2 (runDef G_15 FUEL N_widest_need ir_widest_need)
def G_16 : Gam := G_15.add "widest_need" den_widest_need
def den_is_order : Den := denR 2 (runDef G_16 FUEL N_is_order ir_is_order)
def G_17 : Gam := G_16.add "is_order" den_is_order
def den_check_order : Den := denR 3 (runDef G_17 FUEL N_check_order ir_check_order)
def G_18 : Gam := G_17.add "check_order" den_check_order
def den_check_dues : Den := denR 3 (runDef G_18 FUEL N_check_dues ir_check_dues)
def G_19 : Gam := G_18.add "check_dues" den_check_dues
def den_orders_of : Den := denR 1 (runDef G_19 FUEL N_orders_of ir_orders_of)
def G_20 : Gam := G_19.add "orders_of" den_orders_of
def den_goers : Den := denR 3 (runDef G_20 FUEL N_goers ir_goers)
def G_21 : Gam := G_20.add "goers" den_goers
def den_behind_tick : Den := denR 3 (runDef G_21 FUEL N_behind_tick ir_behind_tick)
def G_22 : Gam := G_21.add "behind_tick" den_behind_tick
def den_run_of : Den := denR 3 (runDef G_22 FUEL N_run_of ir_run_of)
def G_23 : Gam := G_22.add "run_of" den_run_of
def den_last_of : Den := denR 3 (runDef G_23 FUEL N_last_of ir_last_of)
def G_24 : Gam := G_23.add "last_of" den_last_of
def den_by_order : Den := denR 3 (runDef G_24 FUEL N_by_order ir_by_order)
def G_25 : Gam := G_24.add "by_order" den_by_order
def den_last_out : Den := denR 3 (runDef G_25 FUEL N_last_out ir_last_out)
def G_26 : Gam := G_25.add "last_out" den_last_out
def den_is_in_time : Den := denR 4 (runDef G_26 FUEL N_is_in_time ir_is_in_time)
def G_27 : Gam := G_26.add "is_in_time" den_is_in_time
def den_fine_order : Den := denR 3 (runDef G_27 FUEL N_fine_order ir_fine_order)
def G_28 : Gam := G_27.add "fine_order" den_fine_order
def den_late_of : Den := denR 3 (runDef G_28 FUEL N_late_of ir_late_of)
def G_29 : Gam := G_28.add "late_of" den_late_of
def den_order_told : Den := denR 3 (runDef G_29 FUEL N_order_told ir_order_told)
def G_30 : Gam := G_29.add "order_told" den_order_told
def den_shows_order : Den := denR 4 (runDef G_30 FUEL N_shows_order ir_shows_order)
def G_31 : Gam := G_30.add "shows_order" den_shows_order
def den_wait_of : Den := denR 3 (runDef G_31 FUEL N_wait_of ir_wait_of)
def G_32 : Gam := G_31.add "wait_of" den_wait_of
def den_least_wait : Den := denR 2 (runDef G_32 FUEL N_least_wait ir_least_wait)
def G_33 : Gam := G_32.add "least_wait" den_least_wait
def den_fairest : Den := denR 2 (runDef G_33 FUEL N_fairest ir_fairest)
def G_34 : Gam := G_33.add "fairest" den_fairest
def den_law_pot : Den := denR 2 (runDef G_34 FUEL N_law_pot ir_law_pot)
def G_35 : Gam := G_34.add "_law_pot" den_law_pot
def den_law_take : Den := denR 2 (runDef G_35 FUEL N_law_take ir_law_take)
def G_36 : Gam := G_35.add "_law_take" den_law_take
def den_law_of : Den := denR 2 (runDef G_36 FUEL N_law_of ir_law_of)
def G_37 : Gam := G_36.add "_law_of" den_law_of
def den_law_cells : Den := denR 2 (runDef G_37 FUEL N_law_cells ir_law_cells)
def G_38 : Gam := G_37.add "_law_cells" den_law_cells
def den_law_up : Den := denR 2 (runDef G_38 FUEL N_law_up ir_law_up)
def G_39 : Gam := G_38.add "_law_up" den_law_up
def den_law_out : Den := denR 3 (runDef G_39 FUEL N_law_out ir_law_out)
def G_40 : Gam := G_39.add "_law_out" den_law_out
def den_law_from_below : Den := denR 2 (runDef G_40 FUEL N_law_from_below ir_law_from_below)
def G_41 : Gam := G_40.add "_law_from_below" den_law_from_below
def den_law_right : Den := denR 1 (runDef G_41 FUEL N_law_right ir_law_right)
def G_42 : Gam := G_41.add "_law_right" den_law_right
def den_law : Den := denR 1 (runDef G_42 FUEL N_law ir_law)
def G_43 : Gam := G_42.add "law" den_law
/-! ### each keeps its promise -/
section
variable {P : Program} {w : World} {K : PySem.W.Frag} {mg : Str → Option Value} {base : Heap} {h : Heap}
theorem blt_ok (X : K.In h) (G : h.Ns mainGlobals mg) (c : He.SaysD fa fn K) : ∀ y ∈ bltNames, mg y = none := by
  intro y hy
  have e : y = "len" ∨ y = "sum" ∨ y = "min" ∨ y = "max" ∨ y = "all" ∨ y = "any" ∨ y = "sorted" ∨ y = "tuple" ∨ y = "list" ∨ y = "int" ∨ y = "abs" ∨ y = "repr" ∨ y = "str" ∨ y = "dict" ∨ y = "isinstance" ∨ y = "bool" ∨ y = "range" ∨ y = "enumerate" ∨ y = "zip" ∨ y = "set" := by simpa [bltNames] using hy
  rcases e with rfl | rfl | rfl | rfl | rfl | rfl | rfl | rfl | rfl | rfl | rfl | rfl | rfl | rfl | rfl | rfl | rfl | rfl | rfl | rfl
  · exact He.free_ok X G (c.fact 0 rfl)
  · exact He.free_ok X G (c.fact 1 rfl)
  · exact He.free_ok X G (c.fact 2 rfl)
  · exact He.free_ok X G (c.fact 3 rfl)
  · exact He.free_ok X G (c.fact 4 rfl)
  · exact He.free_ok X G (c.fact 5 rfl)
  · exact He.free_ok X G (c.fact 6 rfl)
  · exact He.free_ok X G (c.fact 7 rfl)
  · exact He.free_ok X G (c.fact 8 rfl)
  · exact He.free_ok X G (c.fact 9 rfl)
  · exact He.free_ok X G (c.fact 10 rfl)
  · exact He.free_ok X G (c.fact 11 rfl)
  · exact He.free_ok X G (c.fact 12 rfl)
  · exact He.free_ok X G (c.fact 13 rfl)
  · exact He.free_ok X G (c.fact 14 rfl)
  · exact He.free_ok X G (c.fact 15 rfl)
  · exact He.free_ok X G (c.fact 16 rfl)
  · exact He.free_ok X G (c.fact 17 rfl)
  · exact He.free_ok X G (c.fact 18 rfl)
  · exact He.free_ok X G (c.fact 19 rfl)
theorem con_ok (X : K.In h) (G : h.Ns mainGlobals mg) (c : He.SaysD fa fn K) (Γ : Gam) (hΓ : Γ.con = con) : ConT K mg Γ := by
  intro x d e
  rw [hΓ] at e
  unfold con at e
  split at e
  · rename_i ex
    subst ex
    cases e
    obtain ⟨t, ht⟩ := He.int_ok X G (c.fact 63 rfl)
    exact ⟨.int (20), _, ht, ⟨t, rfl⟩, fun _ _ => .int _⟩
  split at e
  · rename_i ex
    subst ex
    cases e
    obtain ⟨t, ht⟩ := He.int_ok X G (c.fact 64 rfl)
    exact ⟨.int (50), _, ht, ⟨t, rfl⟩, fun _ _ => .int _⟩
  split at e
  · rename_i ex
    subst ex
    cases e
    obtain ⟨t, ht⟩ := He.int_ok X G (c.fact 65 rfl)
    exact ⟨.int (5), _, ht, ⟨t, rfl⟩, fun _ _ => .int _⟩
  split at e
  · rename_i ex
    subst ex
    cases e
    obtain ⟨t, ht⟩ := He.int_ok X G (c.fact 66 rfl)
    exact ⟨.int (400), _, ht, ⟨t, rfl⟩, fun _ _ => .int _⟩
  split at e
  · rename_i ex
    subst ex
    cases e
    obtain ⟨t, ht⟩ := He.str_ok X G (c.fact 67 rfl)
    exact ⟨.str "order", _, ht, ⟨t, rfl⟩, fun _ _ => .str _⟩
  split at e
  · rename_i ex
    subst ex
    cases e
    obtain ⟨t, ht⟩ := He.str_ok X G (c.fact 68 rfl)
    exact ⟨.str "floor", _, ht, ⟨t, rfl⟩, fun _ _ => .str _⟩
  split at e
  · rename_i ex
    subst ex
    cases e
    obtain ⟨t, ht⟩ := He.str_ok X G (c.fact 69 rfl)
    exact ⟨.str "none", _, ht, ⟨t, rfl⟩, fun _ _ => .str _⟩
  cases e
theorem step_is_integer (X : K.In h) (G : h.Ns mainGlobals mg) (c : He.SaysD fa fn K) (T : FnT P w K mg base 0 G_0) : FnT P w K mg base 1 G_1 := by
  obtain ⟨fd, F⟩ := c.def_ 0 (d := d_is_integer) rfl
  exact T.add (fnd_of T F sc_is_integer ck_is_integer (blt_ok X G c) (con_ok X G c _ rfl) (denR_of (n := 1) (fuel := FUEL) rfl rfl)) (He.glo_ok X G (c.fact 20 (f := .glo "is_integer") rfl)) F.kp (F.bindsN fun _ _ _ _ _ _ us hl => match us, hl with | [_], _ => rfl)
theorem step_is_between (X : K.In h) (G : h.Ns mainGlobals mg) (c : He.SaysD fa fn K) (T : FnT P w K mg base 1 G_1) : FnT P w K mg base 2 G_2 := by
  obtain ⟨fd, F⟩ := c.def_ 1 (d := d_is_between) rfl
  exact T.add (fnd_of T F sc_is_between ck_is_between (blt_ok X G c) (con_ok X G c _ rfl) (denR_of (n := 3) (fuel := FUEL) rfl rfl)) (He.glo_ok X G (c.fact 21 (f := .glo "is_between") rfl)) F.kp (F.bindsN fun _ _ _ _ _ _ us hl => match us, hl with | [_, _, _], _ => rfl)
theorem step_are_between (X : K.In h) (G : h.Ns mainGlobals mg) (c : He.SaysD fa fn K) (T : FnT P w K mg base 2 G_2) : FnT P w K mg base 3 G_3 := by
  obtain ⟨fd, F⟩ := c.def_ 2 (d := d_are_between) rfl
  exact T.add (fnd_of T F sc_are_between ck_are_between (blt_ok X G c) (con_ok X G c _ rfl) (denR_of (n := 3) (fuel := FUEL) rfl rfl)) (He.glo_ok X G (c.fact 22 (f := .glo "are_between") rfl)) F.kp (F.bindsN fun _ _ _ _ _ _ us hl => match us, hl with | [_, _, _], _ => rfl)
theorem step_check_floors (X : K.In h) (G : h.Ns mainGlobals mg) (c : He.SaysD fa fn K) (T : FnT P w K mg base 3 G_3) : FnT P w K mg base 4 G_4 := by
  obtain ⟨fd, F⟩ := c.def_ 3 (d := d_check_floors) rfl
  exact T.add (fnd_of T F sc_check_floors ck_check_floors (blt_ok X G c) (con_ok X G c _ rfl) (denR_of (n := 1) (fuel := FUEL) rfl rfl)) (He.glo_ok X G (c.fact 23 (f := .glo "check_floors") rfl)) F.kp (F.bindsN fun _ _ _ _ _ _ us hl => match us, hl with | [_], _ => rfl)
theorem step_check_stair (X : K.In h) (G : h.Ns mainGlobals mg) (c : He.SaysD fa fn K) (T : FnT P w K mg base 4 G_4) : FnT P w K mg base 5 G_5 := by
  obtain ⟨fd, F⟩ := c.def_ 4 (d := d_check_stair) rfl
  exact T.add (fnd_of T F sc_check_stair ck_check_stair (blt_ok X G c) (con_ok X G c _ rfl) (denR_of (n := 2) (fuel := FUEL) rfl rfl)) (He.glo_ok X G (c.fact 24 (f := .glo "check_stair") rfl)) F.kp (F.bindsN fun _ _ _ _ _ _ us hl => match us, hl with | [_, _], _ => rfl)
theorem step_check_after (X : K.In h) (G : h.Ns mainGlobals mg) (c : He.SaysD fa fn K) (T : FnT P w K mg base 5 G_5) : FnT P w K mg base 6 G_6 := by
  obtain ⟨fd, F⟩ := c.def_ 5 (d := d_check_after) rfl
  exact T.add (fnd_of T F sc_check_after ck_check_after (blt_ok X G c) (con_ok X G c _ rfl) (denR_of (n := 1) (fuel := FUEL) rfl rfl)) (He.glo_ok X G (c.fact 25 (f := .glo "check_after") rfl)) F.kp (F.bindsN fun _ _ _ _ _ _ us hl => match us, hl with | [_], _ => rfl)
theorem step_rounded_up (X : K.In h) (G : h.Ns mainGlobals mg) (c : He.SaysD fa fn K) (T : FnT P w K mg base 6 G_6) : FnT P w K mg base 7 G_7 := by
  obtain ⟨fd, F⟩ := c.def_ 6 (d := d_rounded_up) rfl
  exact T.add (fnd_of T F sc_rounded_up ck_rounded_up (blt_ok X G c) (con_ok X G c _ rfl) (denR_of (n := 2) (fuel := FUEL) rfl rfl)) (He.glo_ok X G (c.fact 26 (f := .glo "rounded_up") rfl)) F.kp (F.bindsN fun _ _ _ _ _ _ us hl => match us, hl with | [_, _], _ => rfl)
theorem step_needs_of (X : K.In h) (G : h.Ns mainGlobals mg) (c : He.SaysD fa fn K) (T : FnT P w K mg base 7 G_7) : FnT P w K mg base 8 G_8 := by
  obtain ⟨fd, F⟩ := c.def_ 7 (d := d_needs_of) rfl
  exact T.add (fnd_of T F sc_needs_of ck_needs_of (blt_ok X G c) (con_ok X G c _ rfl) (denR_of (n := 2) (fuel := FUEL) rfl rfl)) (He.glo_ok X G (c.fact 27 (f := .glo "needs_of") rfl)) F.kp (F.bindsN fun _ _ _ _ _ _ us hl => match us, hl with | [_, _], _ => rfl)
theorem step_least_of (X : K.In h) (G : h.Ns mainGlobals mg) (c : He.SaysD fa fn K) (T : FnT P w K mg base 8 G_8) : FnT P w K mg base 9 G_9 := by
  obtain ⟨fd, F⟩ := c.def_ 8 (d := d_least_of) rfl
  exact T.add (fnd_of T F sc_least_of ck_least_of (blt_ok X G c) (con_ok X G c _ rfl) (denR_of (n := 2) (fuel := FUEL) rfl rfl)) (He.glo_ok X G (c.fact 28 (f := .glo "least_of") rfl)) F.kp (F.bindsN fun _ _ _ _ _ _ us hl => match us, hl with | [_, _], _ => rfl)
theorem step_down_told (X : K.In h) (G : h.Ns mainGlobals mg) (c : He.SaysD fa fn K) (T : FnT P w K mg base 9 G_9) : FnT P w K mg base 10 G_10 := by
  obtain ⟨fd, F⟩ := c.def_ 9 (d := d_down_told) rfl
  exact T.add (fnd_of T F sc_down_told ck_down_told (blt_ok X G c) (con_ok X G c _ rfl) (denR_of (n := 2) (fuel := FUEL) rfl rfl)) (He.glo_ok X G (c.fact 29 (f := .glo "down_told") rfl)) F.kp (F.bindsN fun _ _ _ _ _ _ us hl => match us, hl with | [_, _], _ => rfl)
theorem step_shows_down (X : K.In h) (G : h.Ns mainGlobals mg) (c : He.SaysD fa fn K) (T : FnT P w K mg base 10 G_10) : FnT P w K mg base 11 G_11 := by
  obtain ⟨fd, F⟩ := c.def_ 10 (d := d_shows_down) rfl
  exact T.add (fnd_of T F sc_shows_down ck_shows_down (blt_ok X G c) (con_ok X G c _ rfl) (denR_of (n := 3) (fuel := FUEL) rfl rfl)) (He.glo_ok X G (c.fact 30 (f := .glo "shows_down") rfl)) F.kp (F.bindsN fun _ _ _ _ _ _ us hl => match us, hl with | [_, _, _], _ => rfl)
theorem step_number_after (X : K.In h) (G : h.Ns mainGlobals mg) (c : He.SaysD fa fn K) (T : FnT P w K mg base 11 G_11) : FnT P w K mg base 12 G_12 := by
  obtain ⟨fd, F⟩ := c.def_ 11 (d := d_number_after) rfl
  exact T.add (fnd_of T F sc_number_after ck_number_after (blt_ok X G c) (con_ok X G c _ rfl) (denR_of (n := 3) (fuel := FUEL) rfl rfl)) (He.glo_ok X G (c.fact 31 (f := .glo "number_after") rfl)) F.kp (F.bindsN fun _ _ _ _ _ _ us hl => match us, hl with | [_, _, _], _ => rfl)
theorem step_out_after (X : K.In h) (G : h.Ns mainGlobals mg) (c : He.SaysD fa fn K) (T : FnT P w K mg base 12 G_12) : FnT P w K mg base 13 G_13 := by
  obtain ⟨fd, F⟩ := c.def_ 12 (d := d_out_after) rfl
  exact T.add (fnd_of T F sc_out_after ck_out_after (blt_ok X G c) (con_ok X G c _ rfl) (denR_of (n := 3) (fuel := FUEL) rfl rfl)) (He.glo_ok X G (c.fact 32 (f := .glo "out_after") rfl)) F.kp (F.bindsN fun _ _ _ _ _ _ us hl => match us, hl with | [_, _, _], _ => rfl)
theorem step_alone_by (X : K.In h) (G : h.Ns mainGlobals mg) (c : He.SaysD fa fn K) (T : FnT P w K mg base 13 G_13) : FnT P w K mg base 14 G_14 := by
  obtain ⟨fd, F⟩ := c.def_ 13 (d := d_alone_by) rfl
  exact T.add (fnd_of T F sc_alone_by ck_alone_by (blt_ok X G c) (con_ok X G c _ rfl) (denR_of (n := 2) (fuel := FUEL) rfl rfl)) (He.glo_ok X G (c.fact 33 (f := .glo "alone_by") rfl)) F.kp (F.bindsN fun _ _ _ _ _ _ us hl => match us, hl with | [_, _], _ => rfl)
theorem step_alone_out (X : K.In h) (G : h.Ns mainGlobals mg) (c : He.SaysD fa fn K) (T : FnT P w K mg base 14 G_14) : FnT P w K mg base 15 G_15 := by
  obtain ⟨fd, F⟩ := c.def_ 14 (d := d_alone_out) rfl
  exact T.add (fnd_of T F sc_alone_out ck_alone_out (blt_ok X G c) (con_ok X G c _ rfl) (denR_of (n := 2) (fuel := FUEL) rfl rfl)) (He.glo_ok X G (c.fact 34 (f := .glo "alone_out") rfl)) F.kp (F.bindsN fun _ _ _ _ _ _ us hl => match us, hl with | [_, _], _ => rfl)
theorem step_widest_need (X : K.In h) (G : h.Ns mainGlobals mg) (c : He.SaysD fa fn K) (T : FnT P w K mg base 15 G_15) : FnT P w K mg base 16 G_16 := by
  obtain ⟨fd, F⟩ := c.def_ 15 (d := d_widest_need) rfl
  exact T.add (fnd_of T F sc_widest_need ck_widest_need (blt_ok X G c) (con_ok X G c _ rfl) (denR_of (n := 2) (fuel := FUEL) rfl rfl)) (He.glo_ok X G (c.fact 35 (f := .glo "widest_need") rfl)) F.kp (F.bindsN fun _ _ _ _ _ _ us hl => match us, hl with | [_, _], _ => rfl)
theorem step_is_order (X : K.In h) (G : h.Ns mainGlobals mg) (c : He.SaysD fa fn K) (T : FnT P w K mg base 16 G_16) : FnT P w K mg base 17 G_17 := by
  obtain ⟨fd, F⟩ := c.def_ 16 (d := d_is_order) rfl
  exact T.add (fnd_of T F sc_is_order ck_is_order (blt_ok X G c) (con_ok X G c _ rfl) (denR_of (n := 2) (fuel := FUEL) rfl rfl)) (He.glo_ok X G (c.fact 36 (f := .glo "is_order") rfl)) F.kp (F.bindsN fun _ _ _ _ _ _ us hl => match us, hl with | [_, _], _ => rfl)
theorem step_check_order (X : K.In h) (G : h.Ns mainGlobals mg) (c : He.SaysD fa fn K) (T : FnT P w K mg base 17 G_17) : FnT P w K mg base 18 G_18 := by
  obtain ⟨fd, F⟩ := c.def_ 17 (d := d_check_order) rfl
  exact T.add (fnd_of T F sc_check_order ck_check_order (blt_ok X G c) (con_ok X G c _ rfl) (denR_of (n := 3) (fuel := FUEL) rfl rfl)) (He.glo_ok X G (c.fact 37 (f := .glo "check_order") rfl)) F.kp (F.bindsN fun _ _ _ _ _ _ us hl => match us, hl with | [_, _, _], _ => rfl)
theorem step_check_dues (X : K.In h) (G : h.Ns mainGlobals mg) (c : He.SaysD fa fn K) (T : FnT P w K mg base 18 G_18) : FnT P w K mg base 19 G_19 := by
  obtain ⟨fd, F⟩ := c.def_ 18 (d := d_check_dues) rfl
  exact T.add (fnd_of T F sc_check_dues ck_check_dues (blt_ok X G c) (con_ok X G c _ rfl) (denR_of (n := 3) (fuel := FUEL) rfl rfl)) (He.glo_ok X G (c.fact 38 (f := .glo "check_dues") rfl)) F.kp (F.bindsN fun _ _ _ _ _ _ us hl => match us, hl with | [_, _, _], _ => rfl)
theorem step_orders_of (X : K.In h) (G : h.Ns mainGlobals mg) (c : He.SaysD fa fn K) (T : FnT P w K mg base 19 G_19) : FnT P w K mg base 20 G_20 := by
  obtain ⟨fd, F⟩ := c.def_ 19 (d := d_orders_of) rfl
  exact T.add (fnd_of T F sc_orders_of ck_orders_of (blt_ok X G c) (con_ok X G c _ rfl) (denR_of (n := 1) (fuel := FUEL) rfl rfl)) (He.glo_ok X G (c.fact 39 (f := .glo "orders_of") rfl)) F.kp (F.bindsN fun _ _ _ _ _ _ us hl => match us, hl with | [_], _ => rfl)
theorem step_goers (X : K.In h) (G : h.Ns mainGlobals mg) (c : He.SaysD fa fn K) (T : FnT P w K mg base 20 G_20) : FnT P w K mg base 21 G_21 := by
  obtain ⟨fd, F⟩ := c.def_ 20 (d := d_goers) rfl
  exact T.add (fnd_of T F sc_goers ck_goers (blt_ok X G c) (con_ok X G c _ rfl) (denR_of (n := 3) (fuel := FUEL) rfl rfl)) (He.glo_ok X G (c.fact 40 (f := .glo "goers") rfl)) F.kp (F.bindsN fun _ _ _ _ _ _ us hl => match us, hl with | [_, _, _], _ => rfl)
theorem step_behind_tick (X : K.In h) (G : h.Ns mainGlobals mg) (c : He.SaysD fa fn K) (T : FnT P w K mg base 21 G_21) : FnT P w K mg base 22 G_22 := by
  obtain ⟨fd, F⟩ := c.def_ 21 (d := d_behind_tick) rfl
  exact T.add (fnd_of T F sc_behind_tick ck_behind_tick (blt_ok X G c) (con_ok X G c _ rfl) (denR_of (n := 3) (fuel := FUEL) rfl rfl)) (He.glo_ok X G (c.fact 41 (f := .glo "behind_tick") rfl)) F.kp (F.bindsN fun _ _ _ _ _ _ us hl => match us, hl with | [_, _, _], _ => rfl)
theorem step_run_of (X : K.In h) (G : h.Ns mainGlobals mg) (c : He.SaysD fa fn K) (T : FnT P w K mg base 22 G_22) : FnT P w K mg base 23 G_23 := by
  obtain ⟨fd, F⟩ := c.def_ 22 (d := d_run_of) rfl
  exact T.add (fnd_of T F sc_run_of ck_run_of (blt_ok X G c) (con_ok X G c _ rfl) (denR_of (n := 3) (fuel := FUEL) rfl rfl)) (He.glo_ok X G (c.fact 42 (f := .glo "run_of") rfl)) F.kp (F.bindsN fun _ _ _ _ _ _ us hl => match us, hl with | [_, _, _], _ => rfl)
theorem step_last_of (X : K.In h) (G : h.Ns mainGlobals mg) (c : He.SaysD fa fn K) (T : FnT P w K mg base 23 G_23) : FnT P w K mg base 24 G_24 := by
  obtain ⟨fd, F⟩ := c.def_ 23 (d := d_last_of) rfl
  exact T.add (fnd_of T F sc_last_of ck_last_of (blt_ok X G c) (con_ok X G c _ rfl) (denR_of (n := 3) (fuel := FUEL) rfl rfl)) (He.glo_ok X G (c.fact 43 (f := .glo "last_of") rfl)) F.kp (F.bindsN fun _ _ _ _ _ _ us hl => match us, hl with | [_, _, _], _ => rfl)
theorem step_by_order (X : K.In h) (G : h.Ns mainGlobals mg) (c : He.SaysD fa fn K) (T : FnT P w K mg base 24 G_24) : FnT P w K mg base 25 G_25 := by
  obtain ⟨fd, F⟩ := c.def_ 24 (d := d_by_order) rfl
  exact T.add (fnd_of T F sc_by_order ck_by_order (blt_ok X G c) (con_ok X G c _ rfl) (denR_of (n := 3) (fuel := FUEL) rfl rfl)) (He.glo_ok X G (c.fact 44 (f := .glo "by_order") rfl)) F.kp (F.bindsN fun _ _ _ _ _ _ us hl => match us, hl with | [_, _, _], _ => rfl)
theorem step_last_out (X : K.In h) (G : h.Ns mainGlobals mg) (c : He.SaysD fa fn K) (T : FnT P w K mg base 25 G_25) : FnT P w K mg base 26 G_26 := by
  obtain ⟨fd, F⟩ := c.def_ 25 (d := d_last_out) rfl
  exact T.add (fnd_of T F sc_last_out ck_last_out (blt_ok X G c) (con_ok X G c _ rfl) (denR_of (n := 3) (fuel := FUEL) rfl rfl)) (He.glo_ok X G (c.fact 45 (f := .glo "last_out") rfl)) F.kp (F.bindsN fun _ _ _ _ _ _ us hl => match us, hl with | [_, _, _], _ => rfl)
theorem step_is_in_time (X : K.In h) (G : h.Ns mainGlobals mg) (c : He.SaysD fa fn K) (T : FnT P w K mg base 26 G_26) : FnT P w K mg base 27 G_27 := by
  obtain ⟨fd, F⟩ := c.def_ 26 (d := d_is_in_time) rfl
  exact T.add (fnd_of T F sc_is_in_time ck_is_in_time (blt_ok X G c) (con_ok X G c _ rfl) (denR_of (n := 4) (fuel := FUEL) rfl rfl)) (He.glo_ok X G (c.fact 46 (f := .glo "is_in_time") rfl)) F.kp (F.bindsN fun _ _ _ _ _ _ us hl => match us, hl with | [_, _, _, _], _ => rfl)
theorem step_fine_order (X : K.In h) (G : h.Ns mainGlobals mg) (c : He.SaysD fa fn K) (T : FnT P w K mg base 27 G_27) : FnT P w K mg base 28 G_28 := by
  obtain ⟨fd, F⟩ := c.def_ 27 (d := d_fine_order) rfl
  exact T.add (fnd_of T F sc_fine_order ck_fine_order (blt_ok X G c) (con_ok X G c _ rfl) (denR_of (n := 3) (fuel := FUEL) rfl rfl)) (He.glo_ok X G (c.fact 47 (f := .glo "fine_order") rfl)) F.kp (F.bindsN fun _ _ _ _ _ _ us hl => match us, hl with | [_, _, _], _ => rfl)
theorem step_late_of (X : K.In h) (G : h.Ns mainGlobals mg) (c : He.SaysD fa fn K) (T : FnT P w K mg base 28 G_28) : FnT P w K mg base 29 G_29 := by
  obtain ⟨fd, F⟩ := c.def_ 28 (d := d_late_of) rfl
  exact T.add (fnd_of T F sc_late_of ck_late_of (blt_ok X G c) (con_ok X G c _ rfl) (denR_of (n := 3) (fuel := FUEL) rfl rfl)) (He.glo_ok X G (c.fact 48 (f := .glo "late_of") rfl)) F.kp (F.bindsN fun _ _ _ _ _ _ us hl => match us, hl with | [_, _, _], _ => rfl)
theorem step_order_told (X : K.In h) (G : h.Ns mainGlobals mg) (c : He.SaysD fa fn K) (T : FnT P w K mg base 29 G_29) : FnT P w K mg base 30 G_30 := by
  obtain ⟨fd, F⟩ := c.def_ 29 (d := d_order_told) rfl
  exact T.add (fnd_of T F sc_order_told ck_order_told (blt_ok X G c) (con_ok X G c _ rfl) (denR_of (n := 3) (fuel := FUEL) rfl rfl)) (He.glo_ok X G (c.fact 49 (f := .glo "order_told") rfl)) F.kp (F.bindsN fun _ _ _ _ _ _ us hl => match us, hl with | [_, _, _], _ => rfl)
theorem step_shows_order (X : K.In h) (G : h.Ns mainGlobals mg) (c : He.SaysD fa fn K) (T : FnT P w K mg base 30 G_30) : FnT P w K mg base 31 G_31 := by
  obtain ⟨fd, F⟩ := c.def_ 30 (d := d_shows_order) rfl
  exact T.add (fnd_of T F sc_shows_order ck_shows_order (blt_ok X G c) (con_ok X G c _ rfl) (denR_of (n := 4) (fuel := FUEL) rfl rfl)) (He.glo_ok X G (c.fact 50 (f := .glo "shows_order") rfl)) F.kp (F.bindsN fun _ _ _ _ _ _ us hl => match us, hl with | [_, _, _, _], _ => rfl)
theorem step_wait_of (X : K.In h) (G : h.Ns mainGlobals mg) (c : He.SaysD fa fn K) (T : FnT P w K mg base 31 G_31) : FnT P w K mg base 32 G_32 := by
  obtain ⟨fd, F⟩ := c.def_ 31 (d := d_wait_of) rfl
  exact T.add (fnd_of T F sc_wait_of ck_wait_of (blt_ok X G c) (con_ok X G c _ rfl) (denR_of (n := 3) (fuel := FUEL) rfl rfl)) (He.glo_ok X G (c.fact 51 (f := .glo "wait_of") rfl)) F.kp (F.bindsN fun _ _ _ _ _ _ us hl => match us, hl with | [_, _, _], _ => rfl)
theorem step_least_wait (X : K.In h) (G : h.Ns mainGlobals mg) (c : He.SaysD fa fn K) (T : FnT P w K mg base 32 G_32) : FnT P w K mg base 33 G_33 := by
  obtain ⟨fd, F⟩ := c.def_ 32 (d := d_least_wait) rfl
  exact T.add (fnd_of T F sc_least_wait ck_least_wait (blt_ok X G c) (con_ok X G c _ rfl) (denR_of (n := 2) (fuel := FUEL) rfl rfl)) (He.glo_ok X G (c.fact 52 (f := .glo "least_wait") rfl)) F.kp (F.bindsN fun _ _ _ _ _ _ us hl => match us, hl with | [_, _], _ => rfl)
theorem step_fairest (X : K.In h) (G : h.Ns mainGlobals mg) (c : He.SaysD fa fn K) (T : FnT P w K mg base 33 G_33) : FnT P w K mg base 34 G_34 := by
  obtain ⟨fd, F⟩ := c.def_ 33 (d := d_fairest) rfl
  exact T.add (fnd_of T F sc_fairest ck_fairest (blt_ok X G c) (con_ok X G c _ rfl) (denR_of (n := 2) (fuel := FUEL) rfl rfl)) (He.glo_ok X G (c.fact 53 (f := .glo "fairest") rfl)) F.kp (F.bindsN fun _ _ _ _ _ _ us hl => match us, hl with | [_, _], _ => rfl)
theorem step_law_pot (X : K.In h) (G : h.Ns mainGlobals mg) (c : He.SaysD fa fn K) (T : FnT P w K mg base 34 G_34) : FnT P w K mg base 35 G_35 := by
  obtain ⟨fd, F⟩ := c.def_ 34 (d := d_law_pot) rfl
  exact T.add (fnd_of T F sc_law_pot ck_law_pot (blt_ok X G c) (con_ok X G c _ rfl) (denR_of (n := 2) (fuel := FUEL) rfl rfl)) (He.glo_ok X G (c.fact 54 (f := .glo "_law_pot") rfl)) F.kp (F.bindsN fun _ _ _ _ _ _ us hl => match us, hl with | [_, _], _ => rfl)
theorem step_law_take (X : K.In h) (G : h.Ns mainGlobals mg) (c : He.SaysD fa fn K) (T : FnT P w K mg base 35 G_35) : FnT P w K mg base 36 G_36 := by
  obtain ⟨fd, F⟩ := c.def_ 35 (d := d_law_take) rfl
  exact T.add (fnd_of T F sc_law_take ck_law_take (blt_ok X G c) (con_ok X G c _ rfl) (denR_of (n := 2) (fuel := FUEL) rfl rfl)) (He.glo_ok X G (c.fact 55 (f := .glo "_law_take") rfl)) F.kp (F.bindsN fun _ _ _ _ _ _ us hl => match us, hl with | [_, _], _ => rfl)
theorem step_law_of (X : K.In h) (G : h.Ns mainGlobals mg) (c : He.SaysD fa fn K) (T : FnT P w K mg base 36 G_36) : FnT P w K mg base 37 G_37 := by
  obtain ⟨fd, F⟩ := c.def_ 36 (d := d_law_of) rfl
  exact T.add (fnd_of T F sc_law_of ck_law_of (blt_ok X G c) (con_ok X G c _ rfl) (denR_of (n := 2) (fuel := FUEL) rfl rfl)) (He.glo_ok X G (c.fact 56 (f := .glo "_law_of") rfl)) F.kp (F.bindsN fun _ _ _ _ _ _ us hl => match us, hl with | [_, _], _ => rfl)
theorem step_law_cells (X : K.In h) (G : h.Ns mainGlobals mg) (c : He.SaysD fa fn K) (T : FnT P w K mg base 37 G_37) : FnT P w K mg base 38 G_38 := by
  obtain ⟨fd, F⟩ := c.def_ 37 (d := d_law_cells) rfl
  exact T.add (fnd_of T F sc_law_cells ck_law_cells (blt_ok X G c) (con_ok X G c _ rfl) (denR_of (n := 2) (fuel := FUEL) rfl rfl)) (He.glo_ok X G (c.fact 57 (f := .glo "_law_cells") rfl)) F.kp (F.bindsN fun _ _ _ _ _ _ us hl => match us, hl with | [_, _], _ => rfl)
theorem step_law_up (X : K.In h) (G : h.Ns mainGlobals mg) (c : He.SaysD fa fn K) (T : FnT P w K mg base 38 G_38) : FnT P w K mg base 39 G_39 := by
  obtain ⟨fd, F⟩ := c.def_ 38 (d := d_law_up) rfl
  exact T.add (fnd_of T F sc_law_up ck_law_up (blt_ok X G c) (con_ok X G c _ rfl) (denR_of (n := 2) (fuel := FUEL) rfl rfl)) (He.glo_ok X G (c.fact 58 (f := .glo "_law_up") rfl)) F.kp (F.bindsN fun _ _ _ _ _ _ us hl => match us, hl with | [_, _], _ => rfl)
theorem step_law_out (X : K.In h) (G : h.Ns mainGlobals mg) (c : He.SaysD fa fn K) (T : FnT P w K mg base 39 G_39) : FnT P w K mg base 40 G_40 := by
  obtain ⟨fd, F⟩ := c.def_ 39 (d := d_law_out) rfl
  exact T.add (fnd_of T F sc_law_out ck_law_out (blt_ok X G c) (con_ok X G c _ rfl) (denR_of (n := 3) (fuel := FUEL) rfl rfl)) (He.glo_ok X G (c.fact 59 (f := .glo "_law_out") rfl)) F.kp (F.bindsN fun _ _ _ _ _ _ us hl => match us, hl with | [_, _, _], _ => rfl)
theorem step_law_from_below (X : K.In h) (G : h.Ns mainGlobals mg) (c : He.SaysD fa fn K) (T : FnT P w K mg base 40 G_40) : FnT P w K mg base 41 G_41 := by
  obtain ⟨fd, F⟩ := c.def_ 40 (d := d_law_from_below) rfl
  exact T.add (fnd_of T F sc_law_from_below ck_law_from_below (blt_ok X G c) (con_ok X G c _ rfl) (denR_of (n := 2) (fuel := FUEL) rfl rfl)) (He.glo_ok X G (c.fact 60 (f := .glo "_law_from_below") rfl)) F.kp (F.bindsN fun _ _ _ _ _ _ us hl => match us, hl with | [_, _], _ => rfl)
theorem step_law_right (X : K.In h) (G : h.Ns mainGlobals mg) (c : He.SaysD fa fn K) (T : FnT P w K mg base 41 G_41) : FnT P w K mg base 42 G_42 := by
  obtain ⟨fd, F⟩ := c.def_ 41 (d := d_law_right) rfl
  exact T.add (fnd_of T F sc_law_right ck_law_right (blt_ok X G c) (con_ok X G c _ rfl) (denR_of (n := 1) (fuel := FUEL) rfl rfl)) (He.glo_ok X G (c.fact 61 (f := .glo "_law_right") rfl)) F.kp (F.bindsN fun _ _ _ _ _ _ us hl => match us, hl with | [_], _ => rfl)
theorem step_law (X : K.In h) (G : h.Ns mainGlobals mg) (c : He.SaysD fa fn K) (T : FnT P w K mg base 42 G_42) : FnT P w K mg base 43 G_43 := by
  obtain ⟨fd, F⟩ := c.def_ 42 (d := d_law) rfl
  exact T.add (fnd_of T F sc_law ck_law (blt_ok X G c) (con_ok X G c _ rfl) (denR_of (n := 1) (fuel := FUEL) rfl rfl)) (He.glo_ok X G (c.fact 62 (f := .glo "law") rfl)) F.kp (F.bindsN fun _ _ _ _ _ _ us hl => match us, hl with | [_], _ => rfl)
theorem all_ok (X : K.In h) (G : h.Ns mainGlobals mg) (c : He.SaysD fa fn K) : FnT P w K mg base 42 G_42 :=
  step_law_right X G c (step_law_from_below X G c (step_law_out X G c (step_law_up X G c (step_law_cells X G c (step_law_of X G c (step_law_take X G c (step_law_pot X G c (step_fairest X G c (step_least_wait X G c (step_wait_of X G c (step_shows_order X G c (step_order_told X G c (step_late_of X G c (step_fine_order X G c (step_is_in_time X G c (step_last_out X G c (step_by_order X G c (step_last_of X G c (step_run_of X G c (step_behind_tick X G c (step_goers X G c (step_orders_of X G c (step_check_dues X G c (step_check_order X G c (step_is_order X G c (step_widest_need X G c (step_alone_out X G c (step_alone_by X G c (step_out_after X G c (step_number_after X G c (step_shows_down X G c (step_down_told X G c (step_least_of X G c (step_needs_of X G c (step_rounded_up X G c (step_check_after X G c (step_check_stair X G c (step_check_floors X G c (step_are_between X G c (step_is_between X G c (step_is_integer X G c (FnT.nil))))))))))))))))))))))))))))))))))))))))))
theorem facts {f : Addr} (X : K.In h) (G : h.Ns mainGlobals mg) (hfa : mg ("law" : Str) = some (.ref f)) (c : He.SaysD fa fn K) :
    ∃ fd : FuncData, (∀ (s : Shared) (v : Value), BindsTo s fd ⟨[v], []⟩ [("script", v)]) ∧ ∀ base : Heap, K.In base → base.Ns mainGlobals mg → Fnd P w K mg base 43 f fd ["script"] (spD K den_law) := by
  obtain ⟨fd, F⟩ := c.def_ 42 (d := d_law) rfl
  have e := hfa.symm.trans (He.glo_ok X G (c.fact 62 (f := .glo "law") rfl))
  cases e
  have b := FunD.bindsA (ps := ["script"]) F fun _ _ _ _ _ _ us hl => match us, hl with | [_], _ => rfl
  exact ⟨fd, fun s v => b s [v] rfl, fun base _ _ => fnd_of (all_ok X G c) F sc_law ck_law (blt_ok X G c) (con_ok X G c _ rfl) (denR_of (n := 1) (fuel := FUEL) rfl rfl)⟩
end
end K72
end

section
set_option Elab.async false
set_option linter.all false
set_option maxRecDepth 100000
set_option maxHeartbeats 4000000
namespace K72
open Ev
theorem fn_is_between_is_integer : G_1.fn "is_integer" = some den_is_integer := Eq.trans rfl rfl
theorem fn_are_between_is_between : G_2.fn "is_between" = some den_is_between := Eq.trans rfl rfl
theorem fn_check_floors_are_between : G_3.fn "are_between" = some den_are_between := Eq.trans rfl rfl
theorem con_check_floors_MOST_FLOORS : G_3.con "MOST_FLOORS" = some (.int 5) := Eq.trans rfl rfl
theorem con_check_floors_MOST_PEOPLE : G_3.con "MOST_PEOPLE" = some (.int 50) := Eq.trans rfl rfl
theorem fn_check_stair_check_floors : G_4.fn "check_floors" = some den_check_floors := Eq.trans rfl rfl
theorem fn_check_stair_is_between : G_4.fn "is_between" = some den_is_between := Eq.trans rfl rfl
theorem con_check_stair_MOST_WIDE : G_4.con "MOST_WIDE" = some (.int 20) := Eq.trans rfl rfl
theorem fn_check_after_is_between : G_5.fn "is_between" = some den_is_between := Eq.trans rfl rfl
theorem con_check_after_MOST_AFTER : G_5.con "MOST_AFTER" = some (.int 400) := Eq.trans rfl rfl
theorem fn_needs_of_rounded_up : G_7.fn "rounded_up" = some den_rounded_up := Eq.trans rfl rfl
theorem fn_least_of_needs_of : G_8.fn "needs_of" = some den_needs_of := Eq.trans rfl rfl
theorem fn_down_told_check_stair : G_9.fn "check_stair" = some den_check_stair := Eq.trans rfl rfl
theorem fn_down_told_least_of : G_9.fn "least_of" = some den_least_of := Eq.trans rfl rfl
theorem fn_down_told_needs_of : G_9.fn "needs_of" = some den_needs_of := Eq.trans rfl rfl
theorem fn_shows_down_check_stair : G_10.fn "check_stair" = some den_check_stair := Eq.trans rfl rfl
theorem fn_shows_down_is_between : G_10.fn "is_between" = some den_is_between := Eq.trans rfl rfl
theorem fn_shows_down_least_of : G_10.fn "least_of" = some den_least_of := Eq.trans rfl rfl
theorem fn_shows_down_needs_of : G_10.fn "needs_of" = some den_needs_of := Eq.trans rfl rfl
theorem con_shows_down_MOST_AFTER : G_10.con "MOST_AFTER" = some (.int 400) := Eq.trans rfl rfl
theorem fn_out_after_check_after : G_12.fn "check_after" = some den_check_after := Eq.trans rfl rfl
theorem fn_out_after_check_stair : G_12.fn "check_stair" = some den_check_stair := Eq.trans rfl rfl
theorem fn_out_after_number_after : G_12.fn "number_after" = some den_number_after := Eq.trans rfl rfl
theorem fn_alone_by_rounded_up : G_13.fn "rounded_up" = some den_rounded_up := Eq.trans rfl rfl
theorem fn_alone_out_alone_by : G_14.fn "alone_by" = some den_alone_by := Eq.trans rfl rfl
theorem fn_alone_out_check_stair : G_14.fn "check_stair" = some den_check_stair := Eq.trans rfl rfl
theorem fn_widest_need_check_after : G_15.fn "check_after" = some den_check_after := Eq.trans rfl rfl
theorem fn_widest_need_check_floors : G_15.fn "check_floors" = some den_check_floors := Eq.trans rfl rfl
theorem fn_widest_need_least_of : G_15.fn "least_of" = some den_least_of := Eq.trans rfl rfl
theorem con_widest_need_MOST_WIDE : G_15.con "MOST_WIDE" = some (.int 20) := Eq.trans rfl rfl
theorem fn_is_order_are_between : G_16.fn "are_between" = some den_are_between := Eq.trans rfl rfl
theorem fn_check_order_check_stair : G_17.fn "check_stair" = some den_check_stair := Eq.trans rfl rfl
theorem fn_check_order_is_order : G_17.fn "is_order" = some den_is_order := Eq.trans rfl rfl
theorem fn_check_dues_are_between : G_18.fn "are_between" = some den_are_between := Eq.trans rfl rfl
theorem fn_check_dues_check_stair : G_18.fn "check_stair" = some den_check_stair := Eq.trans rfl rfl
theorem con_check_dues_MOST_AFTER : G_18.con "MOST_AFTER" = some (.int 400) := Eq.trans rfl rfl
theorem fn_run_of_behind_tick : G_22.fn "behind_tick" = some den_behind_tick := Eq.trans rfl rfl
theorem fn_run_of_goers : G_22.fn "goers" = some den_goers := Eq.trans rfl rfl
theorem fn_last_of_run_of : G_23.fn "run_of" = some den_run_of := Eq.trans rfl rfl
theorem fn_by_order_check_order : G_24.fn "check_order" = some den_check_order := Eq.trans rfl rfl
theorem fn_by_order_run_of : G_24.fn "run_of" = some den_run_of := Eq.trans rfl rfl
theorem fn_last_out_check_order : G_25.fn "check_order" = some den_check_order := Eq.trans rfl rfl
theorem fn_last_out_last_of : G_25.fn "last_of" = some den_last_of := Eq.trans rfl rfl
theorem fn_is_in_time_last_of : G_26.fn "last_of" = some den_last_of := Eq.trans rfl rfl
theorem fn_fine_order_is_in_time : G_27.fn "is_in_time" = some den_is_in_time := Eq.trans rfl rfl
theorem fn_fine_order_orders_of : G_27.fn "orders_of" = some den_orders_of := Eq.trans rfl rfl
theorem fn_late_of_alone_by : G_28.fn "alone_by" = some den_alone_by := Eq.trans rfl rfl
theorem fn_order_told_check_dues : G_29.fn "check_dues" = some den_check_dues := Eq.trans rfl rfl
theorem fn_order_told_fine_order : G_29.fn "fine_order" = some den_fine_order := Eq.trans rfl rfl
theorem fn_order_told_late_of : G_29.fn "late_of" = some den_late_of := Eq.trans rfl rfl
theorem con_order_told_FLOOR : G_29.con "FLOOR" = some (.str "floor") := Eq.trans rfl rfl
theorem con_order_told_NONE : G_29.con "NONE" = some (.str "none") := Eq.trans rfl rfl
theorem con_order_told_ORDER : G_29.con "ORDER" = some (.str "order") := Eq.trans rfl rfl
theorem fn_shows_order_check_dues : G_30.fn "check_dues" = some den_check_dues := Eq.trans rfl rfl
theorem fn_shows_order_fine_order : G_30.fn "fine_order" = some den_fine_order := Eq.trans rfl rfl
theorem fn_shows_order_is_between : G_30.fn "is_between" = some den_is_between := Eq.trans rfl rfl
theorem fn_shows_order_is_in_time : G_30.fn "is_in_time" = some den_is_in_time := Eq.trans rfl rfl
theorem fn_shows_order_is_order : G_30.fn "is_order" = some den_is_order := Eq.trans rfl rfl
theorem fn_shows_order_late_of : G_30.fn "late_of" = some den_late_of := Eq.trans rfl rfl
theorem con_shows_order_FLOOR : G_30.con "FLOOR" = some (.str "floor") := Eq.trans rfl rfl
theorem con_shows_order_NONE : G_30.con "NONE" = some (.str "none") := Eq.trans rfl rfl
theorem con_shows_order_ORDER : G_30.con "ORDER" = some (.str "order") := Eq.trans rfl rfl
theorem fn_wait_of_alone_by : G_31.fn "alone_by" = some den_alone_by := Eq.trans rfl rfl
theorem fn_wait_of_last_of : G_31.fn "last_of" = some den_last_of := Eq.trans rfl rfl
theorem fn_least_wait_orders_of : G_32.fn "orders_of" = some den_orders_of := Eq.trans rfl rfl
theorem fn_least_wait_wait_of : G_32.fn "wait_of" = some den_wait_of := Eq.trans rfl rfl
theorem fn_fairest_check_stair : G_33.fn "check_stair" = some den_check_stair := Eq.trans rfl rfl
theorem fn_fairest_least_wait : G_33.fn "least_wait" = some den_least_wait := Eq.trans rfl rfl
theorem fn_law_of_law_take : G_36.fn "_law_take" = some den_law_take := Eq.trans rfl rfl
theorem fn_law_from_below_law_up : G_40.fn "_law_up" = some den_law_up := Eq.trans rfl rfl
theorem fn_law_right_law_from_below : G_41.fn "_law_from_below" = some den_law_from_below := Eq.trans rfl rfl
theorem fn_law_right_law_of : G_41.fn "_law_of" = some den_law_of := Eq.trans rfl rfl
theorem fn_law_right_law_out : G_41.fn "_law_out" = some den_law_out := Eq.trans rfl rfl
theorem fn_law_right_law_take : G_41.fn "_law_take" = some den_law_take := Eq.trans rfl rfl
theorem fn_law_right_law_up : G_41.fn "_law_up" = some den_law_up := Eq.trans rfl rfl
theorem fn_law_right_alone_out : G_41.fn "alone_out" = some den_alone_out := Eq.trans rfl rfl
theorem fn_law_right_by_order : G_41.fn "by_order" = some den_by_order := Eq.trans rfl rfl
theorem fn_law_right_down_told : G_41.fn "down_told" = some den_down_told := Eq.trans rfl rfl
theorem fn_law_right_fairest : G_41.fn "fairest" = some den_fairest := Eq.trans rfl rfl
theorem fn_law_right_last_out : G_41.fn "last_out" = some den_last_out := Eq.trans rfl rfl
theorem fn_law_right_order_told : G_41.fn "order_told" = some den_order_told := Eq.trans rfl rfl
theorem fn_law_right_out_after : G_41.fn "out_after" = some den_out_after := Eq.trans rfl rfl
theorem fn_law_right_shows_down : G_41.fn "shows_down" = some den_shows_down := Eq.trans rfl rfl
theorem fn_law_right_shows_order : G_41.fn "shows_order" = some den_shows_order := Eq.trans rfl rfl
theorem fn_law_right_widest_need : G_41.fn "widest_need" = some den_widest_need := Eq.trans rfl rfl
theorem fn_law_law_cells : G_42.fn "_law_cells" = some den_law_cells := Eq.trans rfl rfl
theorem fn_law_law_pot : G_42.fn "_law_pot" = some den_law_pot := Eq.trans rfl rfl
theorem fn_law_law_right : G_42.fn "_law_right" = some den_law_right := Eq.trans rfl rfl
end K72
end

section
set_option Elab.async false
set_option linter.all false
set_option maxRecDepth 100000
set_option maxHeartbeats 4000000
namespace K72
open Ev
open PySem (Str Operator CmpOp)
structure Ok (fs : List Int) : Prop where
  lo : ∀ a ∈ fs, 0 ≤ a ∧ a ≤ 50
  l1 : 1 ≤ fs.length
  l5 : fs.length ≤ 5
theorem lim5 {n : Nat} (h : n ≤ 300) : n ≤ LIM := by unfold LIM; omega
def up (a w : Int) : Int := (a + w - 1) / w
theorem v_rounded (a w : Int) (st : List SO) (h1 : 0 < w) (h2 : w < 1073741824) : den_rounded_up [.int a, .int w] st = some (.d (.int (up a w)), st) := by
  refine run_of (fl := .ret (.d (.int ((a + w - 1) / w)))) (ss := ⟨[some (.d (.int a)), some (.d (.int w))], st⟩) ?_ (exit_d _ _ _) rfl
  simp [ev_c, ev_v, ev_g, ev_bin, ev_neg, ev_not, ev_and, ev_or, ev_cmp, ev_chn, ev_ite, ev_tup, ev_lst, ev_idx, ev_slc, ev_call, ev_bi, ev_mt, ev_heap, ev_coll, ev_rev, evT_c, evT_v, evT_not, evT_and, evT_or, evT_ite, evT_cmp, evT_chn, evT_call, evT_bi, evs_nil, evs_cons, evDs_nil, evDs_star, evDs_c, evDs_v, evDs_g, evDs_bin, evDs_neg, evDs_not, evDs_and, evDs_or, evDs_cmp, evDs_chn, evDs_ite, evDs_tup, evDs_lst, evDs_idx, evDs_slc, evDs_call, evDs_bi, evDs_mt, evDs_lc, evDs_heap, evDs_coll, evDs_rev, evI_of, evI_range, evI_enum, evI_zip, evTs_nil, evTs_cons, asgT_v, asgT_tup, asgT_idx, asgTs_nil, asgTs_cons, exec_asg, exec_own, exec_par, exec_ex, exec_ret, exec_retN, exec_iff, execs_nil, execs_cons, bo_add, bo_sub, bo_mul, bo_fd, bo_mod, bo_pow, bo_addT, bo_rep, co_lt, co_le, co_gt, co_ge, co_eq, co_ne, co_isb, co_isnb, co_isN, co_isnN, isN_int, isN_non, isN_tup, isN_lst, co_eqs, co_nes, eqD_str, co_neL1, co_neL2, co_neL3, co_eqL1, in_tup, in_own, tr_b, res_int, res_bl, res_str, res_non, res_tup, res_lst, res_new, res_slot, res_ref, resD_int, resD_bl, resD_str, resD_non, resD_tup, resD_lst, seq_tup, seq_lst, seq_own, seq_rf, lseq_lst, lseq_own, lseq_rf, bi_len, bi_sum, bi_all, bi_any, bi_tuple, bi_max2, bi_min2, bi_int, bi_intb, bi_abs, bi_isI, ti_int, ti_bl, ti_str, ti_tup, ti_lst, mt_app, mt_ext, ty_app, ty_ext, ix_seq, sl_tup, sl_lst, sl_own, rv_tup, esc_d, esc_new, esc_slot, ofM_tup, ofM_lst, enM_tup, enM_lst, asEV_t, asEV_f, ownM_new, putAt_slot, soAt_slot, getV_at, setV_at, partI_na, partI_c, partI_v, partI_bin, callM_some, zp_2, zp_3, mtM_at, lim_0, lim_1, lim_2, lim_3, lim_4, lim_5, lim_6, lim_7, lim_8, entry_at, bnd_at, ret_at, opt_at, rsv_at, rsvs_nil, rsvs_at, rsvDs_at, resAll_nil, resAll_cons, resDs_nil, resDs_cons, par2_at, kindM_at, setM_lst, heapM_new, dat_d, dat_own, wipeE_nil, wipeE_cons, backE_nil, backE_cons, backV_at, lcB_at, N_rounded_up, ir_rounded_up, h1, h2]
theorem v_is_integer (a : Int) (st : List SO) : den_is_integer [.int a] st = some (.d (.bl true), st) := by
  refine run_of (fl := .ret (.d (.bl true))) (ss := ⟨[some (.d (.int a))], st⟩) ?_ (exit_d _ _ _) rfl
  simp [ev_c, ev_v, ev_g, ev_bin, ev_neg, ev_not, ev_and, ev_or, ev_cmp, ev_chn, ev_ite, ev_tup, ev_lst, ev_idx, ev_slc, ev_call, ev_bi, ev_mt, ev_heap, ev_coll, ev_rev, evT_c, evT_v, evT_not, evT_and, evT_or, evT_ite, evT_cmp, evT_chn, evT_call, evT_bi, evs_nil, evs_cons, evDs_nil, evDs_star, evDs_c, evDs_v, evDs_g, evDs_bin, evDs_neg, evDs_not, evDs_and, evDs_or, evDs_cmp, evDs_chn, evDs_ite, evDs_tup, evDs_lst, evDs_idx, evDs_slc, evDs_call, evDs_bi, evDs_mt, evDs_lc, evDs_heap, evDs_coll, evDs_rev, evI_of, evI_range, evI_enum, evI_zip, evTs_nil, evTs_cons, asgT_v, asgT_tup, asgT_idx, asgTs_nil, asgTs_cons, exec_asg, exec_own, exec_par, exec_ex, exec_ret, exec_retN, exec_iff, execs_nil, execs_cons, bo_add, bo_sub, bo_mul, bo_fd, bo_mod, bo_pow, bo_addT, bo_rep, co_lt, co_le, co_gt, co_ge, co_eq, co_ne, co_isb, co_isnb, co_isN, co_isnN, isN_int, isN_non, isN_tup, isN_lst, co_eqs, co_nes, eqD_str, co_neL1, co_neL2, co_neL3, co_eqL1, in_tup, in_own, tr_b, res_int, res_bl, res_str, res_non, res_tup, res_lst, res_new, res_slot, res_ref, resD_int, resD_bl, resD_str, resD_non, resD_tup, resD_lst, seq_tup, seq_lst, seq_own, seq_rf, lseq_lst, lseq_own, lseq_rf, bi_len, bi_sum, bi_all, bi_any, bi_tuple, bi_max2, bi_min2, bi_int, bi_intb, bi_abs, bi_isI, ti_int, ti_bl, ti_str, ti_tup, ti_lst, mt_app, mt_ext, ty_app, ty_ext, ix_seq, sl_tup, sl_lst, sl_own, rv_tup, esc_d, esc_new, esc_slot, ofM_tup, ofM_lst, enM_tup, enM_lst, asEV_t, asEV_f, ownM_new, putAt_slot, soAt_slot, getV_at, setV_at, partI_na, partI_c, partI_v, partI_bin, callM_some, zp_2, zp_3, mtM_at, lim_0, lim_1, lim_2, lim_3, lim_4, lim_5, lim_6, lim_7, lim_8, entry_at, bnd_at, ret_at, opt_at, rsv_at, rsvs_nil, rsvs_at, rsvDs_at, resAll_nil, resAll_cons, resDs_nil, resDs_cons, par2_at, kindM_at, setM_lst, heapM_new, dat_d, dat_own, wipeE_nil, wipeE_cons, backE_nil, backE_cons, backV_at, lcB_at, N_is_integer, ir_is_integer]
theorem v_is_between (a l h : Int) (st : List SO) : den_is_between [.int a, .int l, .int h] st = some (.d (.bl (decide (l ≤ a) && decide (a ≤ h))), st) := by
  refine run_of (fl := .ret (.d (.bl _))) (ss := ⟨[some (.d (.int a)), some (.d (.int l)), some (.d (.int h))], st⟩) ?_ (exit_d _ _ _) rfl
  by_cases h1 : l ≤ a <;> simp [ev_c, ev_v, ev_g, ev_bin, ev_neg, ev_not, ev_and, ev_or, ev_cmp, ev_chn, ev_ite, ev_tup, ev_lst, ev_idx, ev_slc, ev_call, ev_bi, ev_mt, ev_heap, ev_coll, ev_rev, evT_c, evT_v, evT_not, evT_and, evT_or, evT_ite, evT_cmp, evT_chn, evT_call, evT_bi, evs_nil, evs_cons, evDs_nil, evDs_star, evDs_c, evDs_v, evDs_g, evDs_bin, evDs_neg, evDs_not, evDs_and, evDs_or, evDs_cmp, evDs_chn, evDs_ite, evDs_tup, evDs_lst, evDs_idx, evDs_slc, evDs_call, evDs_bi, evDs_mt, evDs_lc, evDs_heap, evDs_coll, evDs_rev, evI_of, evI_range, evI_enum, evI_zip, evTs_nil, evTs_cons, asgT_v, asgT_tup, asgT_idx, asgTs_nil, asgTs_cons, exec_asg, exec_own, exec_par, exec_ex, exec_ret, exec_retN, exec_iff, execs_nil, execs_cons, bo_add, bo_sub, bo_mul, bo_fd, bo_mod, bo_pow, bo_addT, bo_rep, co_lt, co_le, co_gt, co_ge, co_eq, co_ne, co_isb, co_isnb, co_isN, co_isnN, isN_int, isN_non, isN_tup, isN_lst, co_eqs, co_nes, eqD_str, co_neL1, co_neL2, co_neL3, co_eqL1, in_tup, in_own, tr_b, res_int, res_bl, res_str, res_non, res_tup, res_lst, res_new, res_slot, res_ref, resD_int, resD_bl, resD_str, resD_non, resD_tup, resD_lst, seq_tup, seq_lst, seq_own, seq_rf, lseq_lst, lseq_own, lseq_rf, bi_len, bi_sum, bi_all, bi_any, bi_tuple, bi_max2, bi_min2, bi_int, bi_intb, bi_abs, bi_isI, ti_int, ti_bl, ti_str, ti_tup, ti_lst, mt_app, mt_ext, ty_app, ty_ext, ix_seq, sl_tup, sl_lst, sl_own, rv_tup, esc_d, esc_new, esc_slot, ofM_tup, ofM_lst, enM_tup, enM_lst, asEV_t, asEV_f, ownM_new, putAt_slot, soAt_slot, getV_at, setV_at, partI_na, partI_c, partI_v, partI_bin, callM_some, zp_2, zp_3, mtM_at, lim_0, lim_1, lim_2, lim_3, lim_4, lim_5, lim_6, lim_7, lim_8, entry_at, bnd_at, ret_at, opt_at, rsv_at, rsvs_nil, rsvs_at, rsvDs_at, resAll_nil, resAll_cons, resDs_nil, resDs_cons, par2_at, kindM_at, setM_lst, heapM_new, dat_d, dat_own, wipeE_nil, wipeE_cons, backE_nil, backE_cons, backV_at, lcB_at, N_is_between, ir_is_between, fn_is_between_is_integer, v_is_integer, h1]
theorem v_are_between (fs : List Int) (l h : Int) (st : List SO) (hl : fs.length ≤ LIM) : den_are_between [(D.tup (List.map D.int fs)), .int l, .int h] st = some (.d (.bl (fs.all fun a => decide (l ≤ a) && decide (a ≤ h))), st) := by
  refine run_of (fl := .ret (.d (.bl _))) (ss := ⟨[some (.d ((D.tup (List.map D.int fs)))), some (.d (.int l)), some (.d (.int h)), none], st⟩) ?_ (exit_d _ _ _) rfl
  have e := lc_map (Γ := G_2) (own := [3]) (t := .v 3) (it := .of (.v 0)) (ifs := []) (elt := .call "is_between" [.v 3, .v 1, .v 2]) (ss := ⟨[some (.d ((D.tup (List.map D.int fs)))), some (.d (.int l)), some (.d (.int h)), none], st⟩) (env := [some (.d ((D.tup (List.map D.int fs)))), some (.d (.int l)), some (.d (.int h)), none]) (st := st)
    fs .int (fun a => .bl (decide (l ≤ a) && decide (a ≤ h))) (by simp [ev_c, ev_v, ev_g, ev_bin, ev_neg, ev_not, ev_and, ev_or, ev_cmp, ev_chn, ev_ite, ev_tup, ev_lst, ev_idx, ev_slc, ev_call, ev_bi, ev_mt, ev_heap, ev_coll, ev_rev, evT_c, evT_v, evT_not, evT_and, evT_or, evT_ite, evT_cmp, evT_chn, evT_call, evT_bi, evs_nil, evs_cons, evDs_nil, evDs_star, evDs_c, evDs_v, evDs_g, evDs_bin, evDs_neg, evDs_not, evDs_and, evDs_or, evDs_cmp, evDs_chn, evDs_ite, evDs_tup, evDs_lst, evDs_idx, evDs_slc, evDs_call, evDs_bi, evDs_mt, evDs_lc, evDs_heap, evDs_coll, evDs_rev, evI_of, evI_range, evI_enum, evI_zip, evTs_nil, evTs_cons, asgT_v, asgT_tup, asgT_idx, asgTs_nil, asgTs_cons, exec_asg, exec_own, exec_par, exec_ex, exec_ret, exec_retN, exec_iff, execs_nil, execs_cons, bo_add, bo_sub, bo_mul, bo_fd, bo_mod, bo_pow, bo_addT, bo_rep, co_lt, co_le, co_gt, co_ge, co_eq, co_ne, co_isb, co_isnb, co_isN, co_isnN, isN_int, isN_non, isN_tup, isN_lst, co_eqs, co_nes, eqD_str, co_neL1, co_neL2, co_neL3, co_eqL1, in_tup, in_own, tr_b, res_int, res_bl, res_str, res_non, res_tup, res_lst, res_new, res_slot, res_ref, resD_int, resD_bl, resD_str, resD_non, resD_tup, resD_lst, seq_tup, seq_lst, seq_own, seq_rf, lseq_lst, lseq_own, lseq_rf, bi_len, bi_sum, bi_all, bi_any, bi_tuple, bi_max2, bi_min2, bi_int, bi_intb, bi_abs, bi_isI, ti_int, ti_bl, ti_str, ti_tup, ti_lst, mt_app, mt_ext, ty_app, ty_ext, ix_seq, sl_tup, sl_lst, sl_own, rv_tup, esc_d, esc_new, esc_slot, ofM_tup, ofM_lst, enM_tup, enM_lst, asEV_t, asEV_f, ownM_new, putAt_slot, soAt_slot, getV_at, setV_at, partI_na, partI_c, partI_v, partI_bin, callM_some, zp_2, zp_3, mtM_at, lim_0, lim_1, lim_2, lim_3, lim_4, lim_5, lim_6, lim_7, lim_8, entry_at, bnd_at, ret_at, opt_at, rsv_at, rsvs_nil, rsvs_at, rsvDs_at, resAll_nil, resAll_cons, resDs_nil, resDs_cons, par2_at, kindM_at, setM_lst, heapM_new, dat_d, dat_own, wipeE_nil, wipeE_cons, backE_nil, backE_cons, backV_at, lcB_at]) (fun a ha => ⟨[some (.d ((D.tup (List.map D.int fs)))), some (.d (.int l)), some (.d (.int h)), some (.d (.int a))], by simp [ev_c, ev_v, ev_g, ev_bin, ev_neg, ev_not, ev_and, ev_or, ev_cmp, ev_chn, ev_ite, ev_tup, ev_lst, ev_idx, ev_slc, ev_call, ev_bi, ev_mt, ev_heap, ev_coll, ev_rev, evT_c, evT_v, evT_not, evT_and, evT_or, evT_ite, evT_cmp, evT_chn, evT_call, evT_bi, evs_nil, evs_cons, evDs_nil, evDs_star, evDs_c, evDs_v, evDs_g, evDs_bin, evDs_neg, evDs_not, evDs_and, evDs_or, evDs_cmp, evDs_chn, evDs_ite, evDs_tup, evDs_lst, evDs_idx, evDs_slc, evDs_call, evDs_bi, evDs_mt, evDs_lc, evDs_heap, evDs_coll, evDs_rev, evI_of, evI_range, evI_enum, evI_zip, evTs_nil, evTs_cons, asgT_v, asgT_tup, asgT_idx, asgTs_nil, asgTs_cons, exec_asg, exec_own, exec_par, exec_ex, exec_ret, exec_retN, exec_iff, execs_nil, execs_cons, bo_add, bo_sub, bo_mul, bo_fd, bo_mod, bo_pow, bo_addT, bo_rep, co_lt, co_le, co_gt, co_ge, co_eq, co_ne, co_isb, co_isnb, co_isN, co_isnN, isN_int, isN_non, isN_tup, isN_lst, co_eqs, co_nes, eqD_str, co_neL1, co_neL2, co_neL3, co_eqL1, in_tup, in_own, tr_b, res_int, res_bl, res_str, res_non, res_tup, res_lst, res_new, res_slot, res_ref, resD_int, resD_bl, resD_str, resD_non, resD_tup, resD_lst, seq_tup, seq_lst, seq_own, seq_rf, lseq_lst, lseq_own, lseq_rf, bi_len, bi_sum, bi_all, bi_any, bi_tuple, bi_max2, bi_min2, bi_int, bi_intb, bi_abs, bi_isI, ti_int, ti_bl, ti_str, ti_tup, ti_lst, mt_app, mt_ext, ty_app, ty_ext, ix_seq, sl_tup, sl_lst, sl_own, rv_tup, esc_d, esc_new, esc_slot, ofM_tup, ofM_lst, enM_tup, enM_lst, asEV_t, asEV_f, ownM_new, putAt_slot, soAt_slot, getV_at, setV_at, partI_na, partI_c, partI_v, partI_bin, callM_some, zp_2, zp_3, mtM_at, lim_0, lim_1, lim_2, lim_3, lim_4, lim_5, lim_6, lim_7, lim_8, entry_at, bnd_at, ret_at, opt_at, rsv_at, rsvs_nil, rsvs_at, rsvDs_at, resAll_nil, resAll_cons, resDs_nil, resDs_cons, par2_at, kindM_at, setM_lst, heapM_new, dat_d, dat_own, wipeE_nil, wipeE_cons, backE_nil, backE_cons, backV_at, lcB_at, N_are_between, ir_are_between, fn_are_between_is_between, v_is_between], by simp [wipeE]⟩) hl
  simp [ev_c, ev_v, ev_g, ev_bin, ev_neg, ev_not, ev_and, ev_or, ev_cmp, ev_chn, ev_ite, ev_tup, ev_lst, ev_idx, ev_slc, ev_call, ev_bi, ev_mt, ev_heap, ev_coll, ev_rev, evT_c, evT_v, evT_not, evT_and, evT_or, evT_ite, evT_cmp, evT_chn, evT_call, evT_bi, evs_nil, evs_cons, evDs_nil, evDs_star, evDs_c, evDs_v, evDs_g, evDs_bin, evDs_neg, evDs_not, evDs_and, evDs_or, evDs_cmp, evDs_chn, evDs_ite, evDs_tup, evDs_lst, evDs_idx, evDs_slc, evDs_call, evDs_bi, evDs_mt, evDs_lc, evDs_heap, evDs_coll, evDs_rev, evI_of, evI_range, evI_enum, evI_zip, evTs_nil, evTs_cons, asgT_v, asgT_tup, asgT_idx, asgTs_nil, asgTs_cons, exec_asg, exec_own, exec_par, exec_ex, exec_ret, exec_retN, exec_iff, execs_nil, execs_cons, bo_add, bo_sub, bo_mul, bo_fd, bo_mod, bo_pow, bo_addT, bo_rep, co_lt, co_le, co_gt, co_ge, co_eq, co_ne, co_isb, co_isnb, co_isN, co_isnN, isN_int, isN_non, isN_tup, isN_lst, co_eqs, co_nes, eqD_str, co_neL1, co_neL2, co_neL3, co_eqL1, in_tup, in_own, tr_b, res_int, res_bl, res_str, res_non, res_tup, res_lst, res_new, res_slot, res_ref, resD_int, resD_bl, resD_str, resD_non, resD_tup, resD_lst, seq_tup, seq_lst, seq_own, seq_rf, lseq_lst, lseq_own, lseq_rf, bi_len, bi_sum, bi_all, bi_any, bi_tuple, bi_max2, bi_min2, bi_int, bi_intb, bi_abs, bi_isI, ti_int, ti_bl, ti_str, ti_tup, ti_lst, mt_app, mt_ext, ty_app, ty_ext, ix_seq, sl_tup, sl_lst, sl_own, rv_tup, esc_d, esc_new, esc_slot, ofM_tup, ofM_lst, enM_tup, enM_lst, asEV_t, asEV_f, ownM_new, putAt_slot, soAt_slot, getV_at, setV_at, partI_na, partI_c, partI_v, partI_bin, callM_some, zp_2, zp_3, mtM_at, lim_0, lim_1, lim_2, lim_3, lim_4, lim_5, lim_6, lim_7, lim_8, entry_at, bnd_at, ret_at, opt_at, rsv_at, rsvs_nil, rsvs_at, rsvDs_at, resAll_nil, resAll_cons, resDs_nil, resDs_cons, par2_at, kindM_at, setM_lst, heapM_new, dat_d, dat_own, wipeE_nil, wipeE_cons, backE_nil, backE_cons, backV_at, lcB_at, N_are_between, ir_are_between, fn_are_between_is_between, e, bls_map, List.all_map]
theorem all_in {fs : List Int} {l h : Int} (H : ∀ a ∈ fs, l ≤ a ∧ a ≤ h) : (fs.all fun a => decide (l ≤ a) && decide (a ≤ h)) = true := by
  simpa using H
theorem v_check_floors (fs : List Int) (st : List SO) (H : Ok fs) : den_check_floors [(D.tup (List.map D.int fs))] st = some (.d .non, st) := by
  refine run_of (fl := .nx) (ss := ⟨[some (.d ((D.tup (List.map D.int fs))))], st⟩) ?_ (exit_nx _ _) rfl
  have h1 := H.l1
  have h5 := H.l5
  have c1 : (1 : Int) ≤ fs.length := by omega
  have c5 : (fs.length : Int) ≤ 5 := by omega
  simp [ev_c, ev_v, ev_g, ev_bin, ev_neg, ev_not, ev_and, ev_or, ev_cmp, ev_chn, ev_ite, ev_tup, ev_lst, ev_idx, ev_slc, ev_call, ev_bi, ev_mt, ev_heap, ev_coll, ev_rev, evT_c, evT_v, evT_not, evT_and, evT_or, evT_ite, evT_cmp, evT_chn, evT_call, evT_bi, evs_nil, evs_cons, evDs_nil, evDs_star, evDs_c, evDs_v, evDs_g, evDs_bin, evDs_neg, evDs_not, evDs_and, evDs_or, evDs_cmp, evDs_chn, evDs_ite, evDs_tup, evDs_lst, evDs_idx, evDs_slc, evDs_call, evDs_bi, evDs_mt, evDs_lc, evDs_heap, evDs_coll, evDs_rev, evI_of, evI_range, evI_enum, evI_zip, evTs_nil, evTs_cons, asgT_v, asgT_tup, asgT_idx, asgTs_nil, asgTs_cons, exec_asg, exec_own, exec_par, exec_ex, exec_ret, exec_retN, exec_iff, execs_nil, execs_cons, bo_add, bo_sub, bo_mul, bo_fd, bo_mod, bo_pow, bo_addT, bo_rep, co_lt, co_le, co_gt, co_ge, co_eq, co_ne, co_isb, co_isnb, co_isN, co_isnN, isN_int, isN_non, isN_tup, isN_lst, co_eqs, co_nes, eqD_str, co_neL1, co_neL2, co_neL3, co_eqL1, in_tup, in_own, tr_b, res_int, res_bl, res_str, res_non, res_tup, res_lst, res_new, res_slot, res_ref, resD_int, resD_bl, resD_str, resD_non, resD_tup, resD_lst, seq_tup, seq_lst, seq_own, seq_rf, lseq_lst, lseq_own, lseq_rf, bi_len, bi_sum, bi_all, bi_any, bi_tuple, bi_max2, bi_min2, bi_int, bi_intb, bi_abs, bi_isI, ti_int, ti_bl, ti_str, ti_tup, ti_lst, mt_app, mt_ext, ty_app, ty_ext, ix_seq, sl_tup, sl_lst, sl_own, rv_tup, esc_d, esc_new, esc_slot, ofM_tup, ofM_lst, enM_tup, enM_lst, asEV_t, asEV_f, ownM_new, putAt_slot, soAt_slot, getV_at, setV_at, partI_na, partI_c, partI_v, partI_bin, callM_some, zp_2, zp_3, mtM_at, lim_0, lim_1, lim_2, lim_3, lim_4, lim_5, lim_6, lim_7, lim_8, entry_at, bnd_at, ret_at, opt_at, rsv_at, rsvs_nil, rsvs_at, rsvDs_at, resAll_nil, resAll_cons, resDs_nil, resDs_cons, par2_at, kindM_at, setM_lst, heapM_new, dat_d, dat_own, wipeE_nil, wipeE_cons, backE_nil, backE_cons, backV_at, lcB_at, N_check_floors, ir_check_floors, fn_check_floors_are_between, con_check_floors_MOST_FLOORS, con_check_floors_MOST_PEOPLE, v_are_between fs 0 50 st (lim5 (by omega)), all_in H.lo, c1, c5]
end K72
end

section
set_option Elab.async false
set_option linter.all false
set_option maxRecDepth 100000
set_option maxHeartbeats 4000000
namespace K72
open Ev
open PySem (Str Operator CmpOp)
structure Wd (w : Int) : Prop where
  lo : 1 ≤ w
  hi : w ≤ 20
theorem v_check_stair (fs : List Int) (w : Int) (st : List SO) (H : Ok fs) (W : Wd w) : den_check_stair [(D.tup (List.map D.int fs)), .int w] st = some (.d .non, st) := by
  refine run_of (fl := .nx) (ss := ⟨[some (.d ((D.tup (List.map D.int fs)))), some (.d (.int w))], st⟩) ?_ (exit_nx _ _) rfl
  have h1 := W.lo
  have h5 := W.hi
  simp [ev_c, ev_v, ev_g, ev_bin, ev_neg, ev_not, ev_and, ev_or, ev_cmp, ev_chn, ev_ite, ev_tup, ev_lst, ev_idx, ev_slc, ev_call, ev_bi, ev_mt, ev_heap, ev_coll, ev_rev, evT_c, evT_v, evT_not, evT_and, evT_or, evT_ite, evT_cmp, evT_chn, evT_call, evT_bi, evs_nil, evs_cons, evDs_nil, evDs_star, evDs_c, evDs_v, evDs_g, evDs_bin, evDs_neg, evDs_not, evDs_and, evDs_or, evDs_cmp, evDs_chn, evDs_ite, evDs_tup, evDs_lst, evDs_idx, evDs_slc, evDs_call, evDs_bi, evDs_mt, evDs_lc, evDs_heap, evDs_coll, evDs_rev, evI_of, evI_range, evI_enum, evI_zip, evTs_nil, evTs_cons, asgT_v, asgT_tup, asgT_idx, asgTs_nil, asgTs_cons, exec_asg, exec_own, exec_par, exec_ex, exec_ret, exec_retN, exec_iff, execs_nil, execs_cons, bo_add, bo_sub, bo_mul, bo_fd, bo_mod, bo_pow, bo_addT, bo_rep, co_lt, co_le, co_gt, co_ge, co_eq, co_ne, co_isb, co_isnb, co_isN, co_isnN, isN_int, isN_non, isN_tup, isN_lst, co_eqs, co_nes, eqD_str, co_neL1, co_neL2, co_neL3, co_eqL1, in_tup, in_own, tr_b, res_int, res_bl, res_str, res_non, res_tup, res_lst, res_new, res_slot, res_ref, resD_int, resD_bl, resD_str, resD_non, resD_tup, resD_lst, seq_tup, seq_lst, seq_own, seq_rf, lseq_lst, lseq_own, lseq_rf, bi_len, bi_sum, bi_all, bi_any, bi_tuple, bi_max2, bi_min2, bi_int, bi_intb, bi_abs, bi_isI, ti_int, ti_bl, ti_str, ti_tup, ti_lst, mt_app, mt_ext, ty_app, ty_ext, ix_seq, sl_tup, sl_lst, sl_own, rv_tup, esc_d, esc_new, esc_slot, ofM_tup, ofM_lst, enM_tup, enM_lst, asEV_t, asEV_f, ownM_new, putAt_slot, soAt_slot, getV_at, setV_at, partI_na, partI_c, partI_v, partI_bin, callM_some, zp_2, zp_3, mtM_at, lim_0, lim_1, lim_2, lim_3, lim_4, lim_5, lim_6, lim_7, lim_8, entry_at, bnd_at, ret_at, opt_at, rsv_at, rsvs_nil, rsvs_at, rsvDs_at, resAll_nil, resAll_cons, resDs_nil, resDs_cons, par2_at, kindM_at, setM_lst, heapM_new, dat_d, dat_own, wipeE_nil, wipeE_cons, backE_nil, backE_cons, backV_at, lcB_at, N_check_stair, ir_check_stair, fn_check_stair_check_floors, fn_check_stair_is_between, con_check_stair_MOST_WIDE, v_check_floors fs st H, v_is_between, h1, h5]
theorem v_check_after (t : Int) (st : List SO) (h1 : 0 ≤ t) (h5 : t ≤ 400) : den_check_after [.int t] st = some (.d .non, st) := by
  refine run_of (fl := .nx) (ss := ⟨[some (.d (.int t))], st⟩) ?_ (exit_nx _ _) rfl
  simp [ev_c, ev_v, ev_g, ev_bin, ev_neg, ev_not, ev_and, ev_or, ev_cmp, ev_chn, ev_ite, ev_tup, ev_lst, ev_idx, ev_slc, ev_call, ev_bi, ev_mt, ev_heap, ev_coll, ev_rev, evT_c, evT_v, evT_not, evT_and, evT_or, evT_ite, evT_cmp, evT_chn, evT_call, evT_bi, evs_nil, evs_cons, evDs_nil, evDs_star, evDs_c, evDs_v, evDs_g, evDs_bin, evDs_neg, evDs_not, evDs_and, evDs_or, evDs_cmp, evDs_chn, evDs_ite, evDs_tup, evDs_lst, evDs_idx, evDs_slc, evDs_call, evDs_bi, evDs_mt, evDs_lc, evDs_heap, evDs_coll, evDs_rev, evI_of, evI_range, evI_enum, evI_zip, evTs_nil, evTs_cons, asgT_v, asgT_tup, asgT_idx, asgTs_nil, asgTs_cons, exec_asg, exec_own, exec_par, exec_ex, exec_ret, exec_retN, exec_iff, execs_nil, execs_cons, bo_add, bo_sub, bo_mul, bo_fd, bo_mod, bo_pow, bo_addT, bo_rep, co_lt, co_le, co_gt, co_ge, co_eq, co_ne, co_isb, co_isnb, co_isN, co_isnN, isN_int, isN_non, isN_tup, isN_lst, co_eqs, co_nes, eqD_str, co_neL1, co_neL2, co_neL3, co_eqL1, in_tup, in_own, tr_b, res_int, res_bl, res_str, res_non, res_tup, res_lst, res_new, res_slot, res_ref, resD_int, resD_bl, resD_str, resD_non, resD_tup, resD_lst, seq_tup, seq_lst, seq_own, seq_rf, lseq_lst, lseq_own, lseq_rf, bi_len, bi_sum, bi_all, bi_any, bi_tuple, bi_max2, bi_min2, bi_int, bi_intb, bi_abs, bi_isI, ti_int, ti_bl, ti_str, ti_tup, ti_lst, mt_app, mt_ext, ty_app, ty_ext, ix_seq, sl_tup, sl_lst, sl_own, rv_tup, esc_d, esc_new, esc_slot, ofM_tup, ofM_lst, enM_tup, enM_lst, asEV_t, asEV_f, ownM_new, putAt_slot, soAt_slot, getV_at, setV_at, partI_na, partI_c, partI_v, partI_bin, callM_some, zp_2, zp_3, mtM_at, lim_0, lim_1, lim_2, lim_3, lim_4, lim_5, lim_6, lim_7, lim_8, entry_at, bnd_at, ret_at, opt_at, rsv_at, rsvs_nil, rsvs_at, rsvDs_at, resAll_nil, resAll_cons, resDs_nil, resDs_cons, par2_at, kindM_at, setM_lst, heapM_new, dat_d, dat_own, wipeE_nil, wipeE_cons, backE_nil, backE_cons, backV_at, lcB_at, N_check_after, ir_check_after, fn_check_after_is_between, con_check_after_MOST_AFTER, v_is_between, h1, h5]
def nd (fs : List Int) (w : Int) (k : Nat) : Int := if 0 < (fs.drop k).sum then (k : Int) + up (fs.drop k).sum w else 0
def ndT (fs : List Int) (w : Int) (k : Nat) : D := .tup [.int (nd fs w k), .int ((k : Int) + 1)]
theorem v_needs_of (fs : List Int) (w : Int) (st : List SO) (hl : fs.length ≤ 300) (W : Wd w) : den_needs_of [(D.tup (List.map D.int fs)), .int w] st = some (.new (.lst ((List.range fs.length).map (ndT fs w))), st) := by
  have h1 := W.lo
  have h5 := W.hi
  let S : List Nat → SS := fun pre => ⟨[some (.d ((D.tup (List.map D.int fs)))), some (.d (.int w)), some (.own (.lst (pre.map (ndT fs w)))), pre.getLast?.map fun k : Nat => .d (.int k), pre.getLast?.map fun k => .d (.int (fs.drop k).sum)], st⟩
  refine run_of (fl := .ret (.slot 2)) (ss := S (List.range fs.length)) ?_ (exit_own _ _ _ _ rfl) rfl
  refine (exec_seq (s1 := S []) (by simp [ev_c, ev_v, ev_g, ev_bin, ev_neg, ev_not, ev_and, ev_or, ev_cmp, ev_chn, ev_ite, ev_tup, ev_lst, ev_idx, ev_slc, ev_call, ev_bi, ev_mt, ev_heap, ev_coll, ev_rev, evT_c, evT_v, evT_not, evT_and, evT_or, evT_ite, evT_cmp, evT_chn, evT_call, evT_bi, evs_nil, evs_cons, evDs_nil, evDs_star, evDs_c, evDs_v, evDs_g, evDs_bin, evDs_neg, evDs_not, evDs_and, evDs_or, evDs_cmp, evDs_chn, evDs_ite, evDs_tup, evDs_lst, evDs_idx, evDs_slc, evDs_call, evDs_bi, evDs_mt, evDs_lc, evDs_heap, evDs_coll, evDs_rev, evI_of, evI_range, evI_enum, evI_zip, evTs_nil, evTs_cons, asgT_v, asgT_tup, asgT_idx, asgTs_nil, asgTs_cons, exec_asg, exec_own, exec_par, exec_ex, exec_ret, exec_retN, exec_iff, execs_nil, execs_cons, bo_add, bo_sub, bo_mul, bo_fd, bo_mod, bo_pow, bo_addT, bo_rep, co_lt, co_le, co_gt, co_ge, co_eq, co_ne, co_isb, co_isnb, co_isN, co_isnN, isN_int, isN_non, isN_tup, isN_lst, co_eqs, co_nes, eqD_str, co_neL1, co_neL2, co_neL3, co_eqL1, in_tup, in_own, tr_b, res_int, res_bl, res_str, res_non, res_tup, res_lst, res_new, res_slot, res_ref, resD_int, resD_bl, resD_str, resD_non, resD_tup, resD_lst, seq_tup, seq_lst, seq_own, seq_rf, lseq_lst, lseq_own, lseq_rf, bi_len, bi_sum, bi_all, bi_any, bi_tuple, bi_max2, bi_min2, bi_int, bi_intb, bi_abs, bi_isI, ti_int, ti_bl, ti_str, ti_tup, ti_lst, mt_app, mt_ext, ty_app, ty_ext, ix_seq, sl_tup, sl_lst, sl_own, rv_tup, esc_d, esc_new, esc_slot, ofM_tup, ofM_lst, enM_tup, enM_lst, asEV_t, asEV_f, ownM_new, putAt_slot, soAt_slot, getV_at, setV_at, partI_na, partI_c, partI_v, partI_bin, callM_some, zp_2, zp_3, mtM_at, lim_0, lim_1, lim_2, lim_3, lim_4, lim_5, lim_6, lim_7, lim_8, entry_at, bnd_at, ret_at, opt_at, rsv_at, rsvs_nil, rsvs_at, rsvDs_at, resAll_nil, resAll_cons, resDs_nil, resDs_cons, par2_at, kindM_at, setM_lst, heapM_new, dat_d, dat_own, wipeE_nil, wipeE_cons, backE_nil, backE_cons, backV_at, lcB_at, N_needs_of, ir_needs_of, fn_needs_of_rounded_up, S])).trans ?_
  refine (exec_seq (s1 := S (List.range fs.length)) ?_).trans (by simp [ev_c, ev_v, ev_g, ev_bin, ev_neg, ev_not, ev_and, ev_or, ev_cmp, ev_chn, ev_ite, ev_tup, ev_lst, ev_idx, ev_slc, ev_call, ev_bi, ev_mt, ev_heap, ev_coll, ev_rev, evT_c, evT_v, evT_not, evT_and, evT_or, evT_ite, evT_cmp, evT_chn, evT_call, evT_bi, evs_nil, evs_cons, evDs_nil, evDs_star, evDs_c, evDs_v, evDs_g, evDs_bin, evDs_neg, evDs_not, evDs_and, evDs_or, evDs_cmp, evDs_chn, evDs_ite, evDs_tup, evDs_lst, evDs_idx, evDs_slc, evDs_call, evDs_bi, evDs_mt, evDs_lc, evDs_heap, evDs_coll, evDs_rev, evI_of, evI_range, evI_enum, evI_zip, evTs_nil, evTs_cons, asgT_v, asgT_tup, asgT_idx, asgTs_nil, asgTs_cons, exec_asg, exec_own, exec_par, exec_ex, exec_ret, exec_retN, exec_iff, execs_nil, execs_cons, bo_add, bo_sub, bo_mul, bo_fd, bo_mod, bo_pow, bo_addT, bo_rep, co_lt, co_le, co_gt, co_ge, co_eq, co_ne, co_isb, co_isnb, co_isN, co_isnN, isN_int, isN_non, isN_tup, isN_lst, co_eqs, co_nes, eqD_str, co_neL1, co_neL2, co_neL3, co_eqL1, in_tup, in_own, tr_b, res_int, res_bl, res_str, res_non, res_tup, res_lst, res_new, res_slot, res_ref, resD_int, resD_bl, resD_str, resD_non, resD_tup, resD_lst, seq_tup, seq_lst, seq_own, seq_rf, lseq_lst, lseq_own, lseq_rf, bi_len, bi_sum, bi_all, bi_any, bi_tuple, bi_max2, bi_min2, bi_int, bi_intb, bi_abs, bi_isI, ti_int, ti_bl, ti_str, ti_tup, ti_lst, mt_app, mt_ext, ty_app, ty_ext, ix_seq, sl_tup, sl_lst, sl_own, rv_tup, esc_d, esc_new, esc_slot, ofM_tup, ofM_lst, enM_tup, enM_lst, asEV_t, asEV_f, ownM_new, putAt_slot, soAt_slot, getV_at, setV_at, partI_na, partI_c, partI_v, partI_bin, callM_some, zp_2, zp_3, mtM_at, lim_0, lim_1, lim_2, lim_3, lim_4, lim_5, lim_6, lim_7, lim_8, entry_at, bnd_at, ret_at, opt_at, rsv_at, rsvs_nil, rsvs_at, rsvDs_at, resAll_nil, resAll_cons, resDs_nil, resDs_cons, par2_at, kindM_at, setM_lst, heapM_new, dat_d, dat_own, wipeE_nil, wipeE_cons, backE_nil, backE_cons, backV_at, lcB_at, S])
  refine exec_for_pre S (fun k : Nat => .int k) _ ?_ ?_
  · exact evI_rangeN (by simp [ev_c, ev_v, ev_g, ev_bin, ev_neg, ev_not, ev_and, ev_or, ev_cmp, ev_chn, ev_ite, ev_tup, ev_lst, ev_idx, ev_slc, ev_call, ev_bi, ev_mt, ev_heap, ev_coll, ev_rev, evT_c, evT_v, evT_not, evT_and, evT_or, evT_ite, evT_cmp, evT_chn, evT_call, evT_bi, evs_nil, evs_cons, evDs_nil, evDs_star, evDs_c, evDs_v, evDs_g, evDs_bin, evDs_neg, evDs_not, evDs_and, evDs_or, evDs_cmp, evDs_chn, evDs_ite, evDs_tup, evDs_lst, evDs_idx, evDs_slc, evDs_call, evDs_bi, evDs_mt, evDs_lc, evDs_heap, evDs_coll, evDs_rev, evI_of, evI_range, evI_enum, evI_zip, evTs_nil, evTs_cons, asgT_v, asgT_tup, asgT_idx, asgTs_nil, asgTs_cons, exec_asg, exec_own, exec_par, exec_ex, exec_ret, exec_retN, exec_iff, execs_nil, execs_cons, bo_add, bo_sub, bo_mul, bo_fd, bo_mod, bo_pow, bo_addT, bo_rep, co_lt, co_le, co_gt, co_ge, co_eq, co_ne, co_isb, co_isnb, co_isN, co_isnN, isN_int, isN_non, isN_tup, isN_lst, co_eqs, co_nes, eqD_str, co_neL1, co_neL2, co_neL3, co_eqL1, in_tup, in_own, tr_b, res_int, res_bl, res_str, res_non, res_tup, res_lst, res_new, res_slot, res_ref, resD_int, resD_bl, resD_str, resD_non, resD_tup, resD_lst, seq_tup, seq_lst, seq_own, seq_rf, lseq_lst, lseq_own, lseq_rf, bi_len, bi_sum, bi_all, bi_any, bi_tuple, bi_max2, bi_min2, bi_int, bi_intb, bi_abs, bi_isI, ti_int, ti_bl, ti_str, ti_tup, ti_lst, mt_app, mt_ext, ty_app, ty_ext, ix_seq, sl_tup, sl_lst, sl_own, rv_tup, esc_d, esc_new, esc_slot, ofM_tup, ofM_lst, enM_tup, enM_lst, asEV_t, asEV_f, ownM_new, putAt_slot, soAt_slot, getV_at, setV_at, partI_na, partI_c, partI_v, partI_bin, callM_some, zp_2, zp_3, mtM_at, lim_0, lim_1, lim_2, lim_3, lim_4, lim_5, lim_6, lim_7, lim_8, entry_at, bnd_at, ret_at, opt_at, rsv_at, rsvs_nil, rsvs_at, rsvDs_at, resAll_nil, resAll_cons, resDs_nil, resDs_cons, par2_at, kindM_at, setM_lst, heapM_new, dat_d, dat_own, wipeE_nil, wipeE_cons, backE_nil, backE_cons, backV_at, lcB_at, S]) (lim5 hl)
  · intro pre k post e
    have hp : pre.length < 1000 := by
      have := congrArg List.length e
      simp at this
      omega
    have hp : pre.length < LIM := by unfold LIM; omega
    refine ⟨⟨[some (.d ((D.tup (List.map D.int fs)))), some (.d (.int w)), some (.own (.lst (pre.map (ndT fs w)))), some (.d (.int k)), pre.getLast?.map fun k => .d (.int (fs.drop k).sum)], st⟩, .nx, by simp [ev_c, ev_v, ev_g, ev_bin, ev_neg, ev_not, ev_and, ev_or, ev_cmp, ev_chn, ev_ite, ev_tup, ev_lst, ev_idx, ev_slc, ev_call, ev_bi, ev_mt, ev_heap, ev_coll, ev_rev, evT_c, evT_v, evT_not, evT_and, evT_or, evT_ite, evT_cmp, evT_chn, evT_call, evT_bi, evs_nil, evs_cons, evDs_nil, evDs_star, evDs_c, evDs_v, evDs_g, evDs_bin, evDs_neg, evDs_not, evDs_and, evDs_or, evDs_cmp, evDs_chn, evDs_ite, evDs_tup, evDs_lst, evDs_idx, evDs_slc, evDs_call, evDs_bi, evDs_mt, evDs_lc, evDs_heap, evDs_coll, evDs_rev, evI_of, evI_range, evI_enum, evI_zip, evTs_nil, evTs_cons, asgT_v, asgT_tup, asgT_idx, asgTs_nil, asgTs_cons, exec_asg, exec_own, exec_par, exec_ex, exec_ret, exec_retN, exec_iff, execs_nil, execs_cons, bo_add, bo_sub, bo_mul, bo_fd, bo_mod, bo_pow, bo_addT, bo_rep, co_lt, co_le, co_gt, co_ge, co_eq, co_ne, co_isb, co_isnb, co_isN, co_isnN, isN_int, isN_non, isN_tup, isN_lst, co_eqs, co_nes, eqD_str, co_neL1, co_neL2, co_neL3, co_eqL1, in_tup, in_own, tr_b, res_int, res_bl, res_str, res_non, res_tup, res_lst, res_new, res_slot, res_ref, resD_int, resD_bl, resD_str, resD_non, resD_tup, resD_lst, seq_tup, seq_lst, seq_own, seq_rf, lseq_lst, lseq_own, lseq_rf, bi_len, bi_sum, bi_all, bi_any, bi_tuple, bi_max2, bi_min2, bi_int, bi_intb, bi_abs, bi_isI, ti_int, ti_bl, ti_str, ti_tup, ti_lst, mt_app, mt_ext, ty_app, ty_ext, ix_seq, sl_tup, sl_lst, sl_own, rv_tup, esc_d, esc_new, esc_slot, ofM_tup, ofM_lst, enM_tup, enM_lst, asEV_t, asEV_f, ownM_new, putAt_slot, soAt_slot, getV_at, setV_at, partI_na, partI_c, partI_v, partI_bin, callM_some, zp_2, zp_3, mtM_at, lim_0, lim_1, lim_2, lim_3, lim_4, lim_5, lim_6, lim_7, lim_8, entry_at, bnd_at, ret_at, opt_at, rsv_at, rsvs_nil, rsvs_at, rsvDs_at, resAll_nil, resAll_cons, resDs_nil, resDs_cons, par2_at, kindM_at, setM_lst, heapM_new, dat_d, dat_own, wipeE_nil, wipeE_cons, backE_nil, backE_cons, backV_at, lcB_at, S], ?_, .inl rfl⟩
    by_cases q : 0 < (fs.drop k).sum
    · simp [ev_c, ev_v, ev_g, ev_bin, ev_neg, ev_not, ev_and, ev_or, ev_cmp, ev_chn, ev_ite, ev_tup, ev_lst, ev_idx, ev_slc, ev_call, ev_bi, ev_mt, ev_heap, ev_coll, ev_rev, evT_c, evT_v, evT_not, evT_and, evT_or, evT_ite, evT_cmp, evT_chn, evT_call, evT_bi, evs_nil, evs_cons, evDs_nil, evDs_star, evDs_c, evDs_v, evDs_g, evDs_bin, evDs_neg, evDs_not, evDs_and, evDs_or, evDs_cmp, evDs_chn, evDs_ite, evDs_tup, evDs_lst, evDs_idx, evDs_slc, evDs_call, evDs_bi, evDs_mt, evDs_lc, evDs_heap, evDs_coll, evDs_rev, evI_of, evI_range, evI_enum, evI_zip, evTs_nil, evTs_cons, asgT_v, asgT_tup, asgT_idx, asgTs_nil, asgTs_cons, exec_asg, exec_own, exec_par, exec_ex, exec_ret, exec_retN, exec_iff, execs_nil, execs_cons, bo_add, bo_sub, bo_mul, bo_fd, bo_mod, bo_pow, bo_addT, bo_rep, co_lt, co_le, co_gt, co_ge, co_eq, co_ne, co_isb, co_isnb, co_isN, co_isnN, isN_int, isN_non, isN_tup, isN_lst, co_eqs, co_nes, eqD_str, co_neL1, co_neL2, co_neL3, co_eqL1, in_tup, in_own, tr_b, res_int, res_bl, res_str, res_non, res_tup, res_lst, res_new, res_slot, res_ref, resD_int, resD_bl, resD_str, resD_non, resD_tup, resD_lst, seq_tup, seq_lst, seq_own, seq_rf, lseq_lst, lseq_own, lseq_rf, bi_len, bi_sum, bi_all, bi_any, bi_tuple, bi_max2, bi_min2, bi_int, bi_intb, bi_abs, bi_isI, ti_int, ti_bl, ti_str, ti_tup, ti_lst, mt_app, mt_ext, ty_app, ty_ext, ix_seq, sl_tup, sl_lst, sl_own, rv_tup, esc_d, esc_new, esc_slot, ofM_tup, ofM_lst, enM_tup, enM_lst, asEV_t, asEV_f, ownM_new, putAt_slot, soAt_slot, getV_at, setV_at, partI_na, partI_c, partI_v, partI_bin, callM_some, zp_2, zp_3, mtM_at, lim_0, lim_1, lim_2, lim_3, lim_4, lim_5, lim_6, lim_7, lim_8, entry_at, bnd_at, ret_at, opt_at, rsv_at, rsvs_nil, rsvs_at, rsvDs_at, resAll_nil, resAll_cons, resDs_nil, resDs_cons, par2_at, kindM_at, setM_lst, heapM_new, dat_d, dat_own, wipeE_nil, wipeE_cons, backE_nil, backE_cons, backV_at, lcB_at, N_needs_of, ir_needs_of, fn_needs_of_rounded_up, S, cut_drop, ints_drop, hp, v_rounded, ndT, nd, q, (by omega : 0 < w), (by omega : w < 1073741824)]
    · simp [ev_c, ev_v, ev_g, ev_bin, ev_neg, ev_not, ev_and, ev_or, ev_cmp, ev_chn, ev_ite, ev_tup, ev_lst, ev_idx, ev_slc, ev_call, ev_bi, ev_mt, ev_heap, ev_coll, ev_rev, evT_c, evT_v, evT_not, evT_and, evT_or, evT_ite, evT_cmp, evT_chn, evT_call, evT_bi, evs_nil, evs_cons, evDs_nil, evDs_star, evDs_c, evDs_v, evDs_g, evDs_bin, evDs_neg, evDs_not, evDs_and, evDs_or, evDs_cmp, evDs_chn, evDs_ite, evDs_tup, evDs_lst, evDs_idx, evDs_slc, evDs_call, evDs_bi, evDs_mt, evDs_lc, evDs_heap, evDs_coll, evDs_rev, evI_of, evI_range, evI_enum, evI_zip, evTs_nil, evTs_cons, asgT_v, asgT_tup, asgT_idx, asgTs_nil, asgTs_cons, exec_asg, exec_own, exec_par, exec_ex, exec_ret, exec_retN, exec_iff, execs_nil, execs_cons, bo_add, bo_sub, bo_mul, bo_fd, bo_mod, bo_pow, bo_addT, bo_rep, co_lt, co_le, co_gt, co_ge, co_eq, co_ne, co_isb, co_isnb, co_isN, co_isnN, isN_int, isN_non, isN_tup, isN_lst, co_eqs, co_nes, eqD_str, co_neL1, co_neL2, co_neL3, co_eqL1, in_tup, in_own, tr_b, res_int, res_bl, res_str, res_non, res_tup, res_lst, res_new, res_slot, res_ref, resD_int, resD_bl, resD_str, resD_non, resD_tup, resD_lst, seq_tup, seq_lst, seq_own, seq_rf, lseq_lst, lseq_own, lseq_rf, bi_len, bi_sum, bi_all, bi_any, bi_tuple, bi_max2, bi_min2, bi_int, bi_intb, bi_abs, bi_isI, ti_int, ti_bl, ti_str, ti_tup, ti_lst, mt_app, mt_ext, ty_app, ty_ext, ix_seq, sl_tup, sl_lst, sl_own, rv_tup, esc_d, esc_new, esc_slot, ofM_tup, ofM_lst, enM_tup, enM_lst, asEV_t, asEV_f, ownM_new, putAt_slot, soAt_slot, getV_at, setV_at, partI_na, partI_c, partI_v, partI_bin, callM_some, zp_2, zp_3, mtM_at, lim_0, lim_1, lim_2, lim_3, lim_4, lim_5, lim_6, lim_7, lim_8, entry_at, bnd_at, ret_at, opt_at, rsv_at, rsvs_nil, rsvs_at, rsvDs_at, resAll_nil, resAll_cons, resDs_nil, resDs_cons, par2_at, kindM_at, setM_lst, heapM_new, dat_d, dat_own, wipeE_nil, wipeE_cons, backE_nil, backE_cons, backV_at, lcB_at, N_needs_of, ir_needs_of, fn_needs_of_rounded_up, S, cut_drop, ints_drop, hp, v_rounded, ndT, nd, q, (by omega : 0 < w), (by omega : w < 1073741824)]
end K72
end

section
set_option Elab.async false
set_option linter.all false
set_option maxRecDepth 100000
set_option maxHeartbeats 4000000
namespace Ev
open PySem (Str Operator CmpOp)
def mxL : List Int → Int
  | [] => 0
  | x :: xs => mxF x xs
def mnL : List Int → Int
  | [] => 0
  | x :: xs => mnF x xs
theorem mxL_le {xs : List Int} {b : Int} (h : xs ≠ []) : mxL xs ≤ b ↔ ∀ y ∈ xs, y ≤ b := by
  cases xs with
  | nil => exact absurd rfl h
  | cons x xs => simp [mxL, mxF_le]
theorem le_mnL {xs : List Int} {b : Int} (h : xs ≠ []) : b ≤ mnL xs ↔ ∀ y ∈ xs, b ≤ y := by
  cases xs with
  | nil => exact absurd rfl h
  | cons x xs => simp [mnL, le_mnF]
theorem mxF_mem (x : Int) (xs : List Int) : mxF x xs = x ∨ mxF x xs ∈ xs := by
  induction xs generalizing x with
  | nil => exact .inl rfl
  | cons y ys ih =>
    have e : mxF x (y :: ys) = mxF (if x < y then y else x) ys := rfl
    rw [e]
    rcases ih (if x < y then y else x) with h | h
    · split at h
      · right; rw [if_pos ‹_›, h]; exact List.mem_cons_self
      · left; rw [if_neg ‹_›, h]
    · right; exact List.mem_cons_of_mem _ h
theorem mxL_mem {xs : List Int} (h : xs ≠ []) : mxL xs ∈ xs := by
  cases xs with
  | nil => exact absurd rfl h
  | cons x xs =>
    rcases mxF_mem x xs with e | e
    · show mxF x xs ∈ _
      rw [e]; exact List.mem_cons_self
    · exact List.mem_cons_of_mem _ e
theorem bi_maxL (r : RA) (xs : List Int) (h : r.seq = some (xs.map .int)) (hn : xs ≠ []) : biop .max [r] = some (.d (.int (mxL xs))) := by
  cases xs with
  | nil => exact absurd rfl hn
  | cons x xs => exact biop_max x xs r h
theorem bi_minL (r : RA) (xs : List Int) (h : r.seq = some (xs.map .int)) (hn : xs ≠ []) : biop .min [r] = some (.d (.int (mnL xs))) := by
  cases xs with
  | nil => exact absurd rfl hn
  | cons x xs => exact biop_min x xs r h
end Ev
namespace K72
open Ev
open PySem (Str Operator CmpOp)
def least (fs : List Int) (w : Int) : Int := mxL ((List.range fs.length).map (nd fs w))
theorem range_ne {n : Nat} (h : 1 ≤ n) : List.range n ≠ [] := by
  intro e
  have := congrArg List.length e
  simp at this
  omega
theorem v_least_of (fs : List Int) (w : Int) (st : List SO) (h1 : 1 ≤ fs.length) (hl : fs.length ≤ 300) (W : Wd w) : den_least_of [(D.tup (List.map D.int fs)), .int w] st = some (.d (.int (least fs w)), st) := by
  refine run_of (fl := .ret (.d (.int (least fs w)))) (ss := ⟨[some (.d ((D.tup (List.map D.int fs)))), some (.d (.int w)), none, none], st⟩) ?_ (exit_d _ _ _) rfl
  have e := lc_map (Γ := G_8) (own := [2, 3]) (t := .tup [.v 2, .v 3]) (it := .of (.call "needs_of" [.v 0, .v 1])) (ifs := []) (elt := .v 2) (ss := ⟨[some (.d ((D.tup (List.map D.int fs)))), some (.d (.int w)), none, none], st⟩) (env := [some (.d ((D.tup (List.map D.int fs)))), some (.d (.int w)), none, none]) (st := st)
    (List.range fs.length) (ndT fs w) (fun k => .int (nd fs w k)) (by simp [ev_c, ev_v, ev_g, ev_bin, ev_neg, ev_not, ev_and, ev_or, ev_cmp, ev_chn, ev_ite, ev_tup, ev_lst, ev_idx, ev_slc, ev_call, ev_bi, ev_mt, ev_heap, ev_coll, ev_rev, evT_c, evT_v, evT_not, evT_and, evT_or, evT_ite, evT_cmp, evT_chn, evT_call, evT_bi, evs_nil, evs_cons, evDs_nil, evDs_star, evDs_c, evDs_v, evDs_g, evDs_bin, evDs_neg, evDs_not, evDs_and, evDs_or, evDs_cmp, evDs_chn, evDs_ite, evDs_tup, evDs_lst, evDs_idx, evDs_slc, evDs_call, evDs_bi, evDs_mt, evDs_lc, evDs_heap, evDs_coll, evDs_rev, evI_of, evI_range, evI_enum, evI_zip, evTs_nil, evTs_cons, asgT_v, asgT_tup, asgT_idx, asgTs_nil, asgTs_cons, exec_asg, exec_own, exec_par, exec_ex, exec_ret, exec_retN, exec_iff, execs_nil, execs_cons, bo_add, bo_sub, bo_mul, bo_fd, bo_mod, bo_pow, bo_addT, bo_rep, co_lt, co_le, co_gt, co_ge, co_eq, co_ne, co_isb, co_isnb, co_isN, co_isnN, isN_int, isN_non, isN_tup, isN_lst, co_eqs, co_nes, eqD_str, co_neL1, co_neL2, co_neL3, co_eqL1, in_tup, in_own, tr_b, res_int, res_bl, res_str, res_non, res_tup, res_lst, res_new, res_slot, res_ref, resD_int, resD_bl, resD_str, resD_non, resD_tup, resD_lst, seq_tup, seq_lst, seq_own, seq_rf, lseq_lst, lseq_own, lseq_rf, bi_len, bi_sum, bi_all, bi_any, bi_tuple, bi_max2, bi_min2, bi_int, bi_intb, bi_abs, bi_isI, ti_int, ti_bl, ti_str, ti_tup, ti_lst, mt_app, mt_ext, ty_app, ty_ext, ix_seq, sl_tup, sl_lst, sl_own, rv_tup, esc_d, esc_new, esc_slot, ofM_tup, ofM_lst, enM_tup, enM_lst, asEV_t, asEV_f, ownM_new, putAt_slot, soAt_slot, getV_at, setV_at, partI_na, partI_c, partI_v, partI_bin, callM_some, zp_2, zp_3, mtM_at, lim_0, lim_1, lim_2, lim_3, lim_4, lim_5, lim_6, lim_7, lim_8, entry_at, bnd_at, ret_at, opt_at, rsv_at, rsvs_nil, rsvs_at, rsvDs_at, resAll_nil, resAll_cons, resDs_nil, resDs_cons, par2_at, kindM_at, setM_lst, heapM_new, dat_d, dat_own, wipeE_nil, wipeE_cons, backE_nil, backE_cons, backV_at, lcB_at, N_least_of, ir_least_of, fn_least_of_needs_of, v_needs_of fs w st hl W]) (fun k _ => ⟨[some (.d ((D.tup (List.map D.int fs)))), some (.d (.int w)), some (.d (.int (nd fs w k))), some (.d (.int (k + 1)))], by simp [ev_c, ev_v, ev_g, ev_bin, ev_neg, ev_not, ev_and, ev_or, ev_cmp, ev_chn, ev_ite, ev_tup, ev_lst, ev_idx, ev_slc, ev_call, ev_bi, ev_mt, ev_heap, ev_coll, ev_rev, evT_c, evT_v, evT_not, evT_and, evT_or, evT_ite, evT_cmp, evT_chn, evT_call, evT_bi, evs_nil, evs_cons, evDs_nil, evDs_star, evDs_c, evDs_v, evDs_g, evDs_bin, evDs_neg, evDs_not, evDs_and, evDs_or, evDs_cmp, evDs_chn, evDs_ite, evDs_tup, evDs_lst, evDs_idx, evDs_slc, evDs_call, evDs_bi, evDs_mt, evDs_lc, evDs_heap, evDs_coll, evDs_rev, evI_of, evI_range, evI_enum, evI_zip, evTs_nil, evTs_cons, asgT_v, asgT_tup, asgT_idx, asgTs_nil, asgTs_cons, exec_asg, exec_own, exec_par, exec_ex, exec_ret, exec_retN, exec_iff, execs_nil, execs_cons, bo_add, bo_sub, bo_mul, bo_fd, bo_mod, bo_pow, bo_addT, bo_rep, co_lt, co_le, co_gt, co_ge, co_eq, co_ne, co_isb, co_isnb, co_isN, co_isnN, isN_int, isN_non, isN_tup, isN_lst, co_eqs, co_nes, eqD_str, co_neL1, co_neL2, co_neL3, co_eqL1, in_tup, in_own, tr_b, res_int, res_bl, res_str, res_non, res_tup, res_lst, res_new, res_slot, res_ref, resD_int, resD_bl, resD_str, resD_non, resD_tup, resD_lst, seq_tup, seq_lst, seq_own, seq_rf, lseq_lst, lseq_own, lseq_rf, bi_len, bi_sum, bi_all, bi_any, bi_tuple, bi_max2, bi_min2, bi_int, bi_intb, bi_abs, bi_isI, ti_int, ti_bl, ti_str, ti_tup, ti_lst, mt_app, mt_ext, ty_app, ty_ext, ix_seq, sl_tup, sl_lst, sl_own, rv_tup, esc_d, esc_new, esc_slot, ofM_tup, ofM_lst, enM_tup, enM_lst, asEV_t, asEV_f, ownM_new, putAt_slot, soAt_slot, getV_at, setV_at, partI_na, partI_c, partI_v, partI_bin, callM_some, zp_2, zp_3, mtM_at, lim_0, lim_1, lim_2, lim_3, lim_4, lim_5, lim_6, lim_7, lim_8, entry_at, bnd_at, ret_at, opt_at, rsv_at, rsvs_nil, rsvs_at, rsvDs_at, resAll_nil, resAll_cons, resDs_nil, resDs_cons, par2_at, kindM_at, setM_lst, heapM_new, dat_d, dat_own, wipeE_nil, wipeE_cons, backE_nil, backE_cons, backV_at, lcB_at, ndT], by simp [wipeE_nil, wipeE_cons]⟩) (by rw [List.length_range]; exact lim5 hl)
  have hm := bi_maxL (.own (.lst ((List.range fs.length).map fun k => .int (nd fs w k)))) ((List.range fs.length).map (nd fs w)) (by simp [RA.seq, SO.seq]) (by simpa using range_ne h1)
  have e2 : ev G_8 (.bi .max [.lc [2, 3] (.tup [.v 2, .v 3]) (.of (.call "needs_of" [.v 0, .v 1])) [] (.v 2)]) ⟨[some (.d ((D.tup (List.map D.int fs)))), some (.d (.int w)), none, none], st⟩ = some (.d (.int (least fs w)), ⟨[some (.d ((D.tup (List.map D.int fs)))), some (.d (.int w)), none, none], st⟩) := by
    rw [ev_bi, evs_cons, bnd_assoc, bnd_of e]
    simp [ev_c, ev_v, ev_g, ev_bin, ev_neg, ev_not, ev_and, ev_or, ev_cmp, ev_chn, ev_ite, ev_tup, ev_lst, ev_idx, ev_slc, ev_call, ev_bi, ev_mt, ev_heap, ev_coll, ev_rev, evT_c, evT_v, evT_not, evT_and, evT_or, evT_ite, evT_cmp, evT_chn, evT_call, evT_bi, evs_nil, evs_cons, evDs_nil, evDs_star, evDs_c, evDs_v, evDs_g, evDs_bin, evDs_neg, evDs_not, evDs_and, evDs_or, evDs_cmp, evDs_chn, evDs_ite, evDs_tup, evDs_lst, evDs_idx, evDs_slc, evDs_call, evDs_bi, evDs_mt, evDs_lc, evDs_heap, evDs_coll, evDs_rev, evI_of, evI_range, evI_enum, evI_zip, evTs_nil, evTs_cons, asgT_v, asgT_tup, asgT_idx, asgTs_nil, asgTs_cons, exec_asg, exec_own, exec_par, exec_ex, exec_ret, exec_retN, exec_iff, execs_nil, execs_cons, bo_add, bo_sub, bo_mul, bo_fd, bo_mod, bo_pow, bo_addT, bo_rep, co_lt, co_le, co_gt, co_ge, co_eq, co_ne, co_isb, co_isnb, co_isN, co_isnN, isN_int, isN_non, isN_tup, isN_lst, co_eqs, co_nes, eqD_str, co_neL1, co_neL2, co_neL3, co_eqL1, in_tup, in_own, tr_b, res_int, res_bl, res_str, res_non, res_tup, res_lst, res_new, res_slot, res_ref, resD_int, resD_bl, resD_str, resD_non, resD_tup, resD_lst, seq_tup, seq_lst, seq_own, seq_rf, lseq_lst, lseq_own, lseq_rf, bi_len, bi_sum, bi_all, bi_any, bi_tuple, bi_max2, bi_min2, bi_int, bi_intb, bi_abs, bi_isI, ti_int, ti_bl, ti_str, ti_tup, ti_lst, mt_app, mt_ext, ty_app, ty_ext, ix_seq, sl_tup, sl_lst, sl_own, rv_tup, esc_d, esc_new, esc_slot, ofM_tup, ofM_lst, enM_tup, enM_lst, asEV_t, asEV_f, ownM_new, putAt_slot, soAt_slot, getV_at, setV_at, partI_na, partI_c, partI_v, partI_bin, callM_some, zp_2, zp_3, mtM_at, lim_0, lim_1, lim_2, lim_3, lim_4, lim_5, lim_6, lim_7, lim_8, entry_at, bnd_at, ret_at, opt_at, rsv_at, rsvs_nil, rsvs_at, rsvDs_at, resAll_nil, resAll_cons, resDs_nil, resDs_cons, par2_at, kindM_at, setM_lst, heapM_new, dat_d, dat_own, wipeE_nil, wipeE_cons, backE_nil, backE_cons, backV_at, lcB_at, hm, least]
  show execs G_8 FUEL [.ret (.bi .max [.lc [2, 3] (.tup [.v 2, .v 3]) (.of (.call "needs_of" [.v 0, .v 1])) [] (.v 2)])] ⟨[some (.d ((D.tup (List.map D.int fs)))), some (.d (.int w)), none, none], st⟩ = _
  rw [execs_cons, exec_ret, bnd_assoc, bnd_of e2]
  rfl
theorem dt_1 (fs : List Int) (w : Int) (st : List SO) (H : Ok fs) (W : Wd w) : exec G_9 FUEL (.ex (.call "check_stair" [.v 0, .v 1])) ⟨[some (.d ((D.tup (List.map D.int fs)))), some (.d (.int w)), none, none, none], st⟩ = some (.nx, ⟨[some (.d ((D.tup (List.map D.int fs)))), some (.d (.int w)), none, none, none], st⟩) := by simp [ev_c, ev_v, ev_g, ev_bin, ev_neg, ev_not, ev_and, ev_or, ev_cmp, ev_chn, ev_ite, ev_tup, ev_lst, ev_idx, ev_slc, ev_call, ev_bi, ev_mt, ev_heap, ev_coll, ev_rev, evT_c, evT_v, evT_not, evT_and, evT_or, evT_ite, evT_cmp, evT_chn, evT_call, evT_bi, evs_nil, evs_cons, evDs_nil, evDs_star, evDs_c, evDs_v, evDs_g, evDs_bin, evDs_neg, evDs_not, evDs_and, evDs_or, evDs_cmp, evDs_chn, evDs_ite, evDs_tup, evDs_lst, evDs_idx, evDs_slc, evDs_call, evDs_bi, evDs_mt, evDs_lc, evDs_heap, evDs_coll, evDs_rev, evI_of, evI_range, evI_enum, evI_zip, evTs_nil, evTs_cons, asgT_v, asgT_tup, asgT_idx, asgTs_nil, asgTs_cons, exec_asg, exec_own, exec_par, exec_ex, exec_ret, exec_retN, exec_iff, execs_nil, execs_cons, bo_add, bo_sub, bo_mul, bo_fd, bo_mod, bo_pow, bo_addT, bo_rep, co_lt, co_le, co_gt, co_ge, co_eq, co_ne, co_isb, co_isnb, co_isN, co_isnN, isN_int, isN_non, isN_tup, isN_lst, co_eqs, co_nes, eqD_str, co_neL1, co_neL2, co_neL3, co_eqL1, in_tup, in_own, tr_b, res_int, res_bl, res_str, res_non, res_tup, res_lst, res_new, res_slot, res_ref, resD_int, resD_bl, resD_str, resD_non, resD_tup, resD_lst, seq_tup, seq_lst, seq_own, seq_rf, lseq_lst, lseq_own, lseq_rf, bi_len, bi_sum, bi_all, bi_any, bi_tuple, bi_max2, bi_min2, bi_int, bi_intb, bi_abs, bi_isI, ti_int, ti_bl, ti_str, ti_tup, ti_lst, mt_app, mt_ext, ty_app, ty_ext, ix_seq, sl_tup, sl_lst, sl_own, rv_tup, esc_d, esc_new, esc_slot, ofM_tup, ofM_lst, enM_tup, enM_lst, asEV_t, asEV_f, ownM_new, putAt_slot, soAt_slot, getV_at, setV_at, partI_na, partI_c, partI_v, partI_bin, callM_some, zp_2, zp_3, mtM_at, lim_0, lim_1, lim_2, lim_3, lim_4, lim_5, lim_6, lim_7, lim_8, entry_at, bnd_at, ret_at, opt_at, rsv_at, rsvs_nil, rsvs_at, rsvDs_at, resAll_nil, resAll_cons, resDs_nil, resDs_cons, par2_at, kindM_at, setM_lst, heapM_new, dat_d, dat_own, wipeE_nil, wipeE_cons, backE_nil, backE_cons, backV_at, lcB_at, N_down_told, ir_down_told, fn_down_told_check_stair, fn_down_told_least_of, fn_down_told_needs_of, v_check_stair fs w st H W]
theorem dt_2 (fs : List Int) (w : Int) (st : List SO) (H : Ok fs) (W : Wd w) : exec G_9 FUEL (.asg (.v 2) (.call "least_of" [.v 0, .v 1])) ⟨[some (.d ((D.tup (List.map D.int fs)))), some (.d (.int w)), none, none, none], st⟩ = some (.nx, ⟨[some (.d ((D.tup (List.map D.int fs)))), some (.d (.int w)), some (.d (.int (least fs w))), none, none], st⟩) := by
  have h1 := H.l1
  have h5 := H.l5
  exact x_asg (f_call fn_down_told_least_of (f_cons rfl (f_v rfl) rfl (f_cons rfl (f_v rfl) rfl (f_nil _))) (v_least_of fs w st h1 (by omega) W)) rfl rfl
theorem dt_3 (fs : List Int) (w : Int) (st : List SO) (q : ¬ least fs w = 0) : exec G_9 FUEL (.iff (.cmp .Eq (.v 2) (.c (.int 0))) [.ret (.tup [.c (.int 0), .c (.non)])] []) ⟨[some (.d ((D.tup (List.map D.int fs)))), some (.d (.int w)), some (.d (.int (least fs w))), none, none], st⟩ = some (.nx, ⟨[some (.d ((D.tup (List.map D.int fs)))), some (.d (.int w)), some (.d (.int (least fs w))), none, none], st⟩) := by simp [ev_c, ev_v, ev_g, ev_bin, ev_neg, ev_not, ev_and, ev_or, ev_cmp, ev_chn, ev_ite, ev_tup, ev_lst, ev_idx, ev_slc, ev_call, ev_bi, ev_mt, ev_heap, ev_coll, ev_rev, evT_c, evT_v, evT_not, evT_and, evT_or, evT_ite, evT_cmp, evT_chn, evT_call, evT_bi, evs_nil, evs_cons, evDs_nil, evDs_star, evDs_c, evDs_v, evDs_g, evDs_bin, evDs_neg, evDs_not, evDs_and, evDs_or, evDs_cmp, evDs_chn, evDs_ite, evDs_tup, evDs_lst, evDs_idx, evDs_slc, evDs_call, evDs_bi, evDs_mt, evDs_lc, evDs_heap, evDs_coll, evDs_rev, evI_of, evI_range, evI_enum, evI_zip, evTs_nil, evTs_cons, asgT_v, asgT_tup, asgT_idx, asgTs_nil, asgTs_cons, exec_asg, exec_own, exec_par, exec_ex, exec_ret, exec_retN, exec_iff, execs_nil, execs_cons, bo_add, bo_sub, bo_mul, bo_fd, bo_mod, bo_pow, bo_addT, bo_rep, co_lt, co_le, co_gt, co_ge, co_eq, co_ne, co_isb, co_isnb, co_isN, co_isnN, isN_int, isN_non, isN_tup, isN_lst, co_eqs, co_nes, eqD_str, co_neL1, co_neL2, co_neL3, co_eqL1, in_tup, in_own, tr_b, res_int, res_bl, res_str, res_non, res_tup, res_lst, res_new, res_slot, res_ref, resD_int, resD_bl, resD_str, resD_non, resD_tup, resD_lst, seq_tup, seq_lst, seq_own, seq_rf, lseq_lst, lseq_own, lseq_rf, bi_len, bi_sum, bi_all, bi_any, bi_tuple, bi_max2, bi_min2, bi_int, bi_intb, bi_abs, bi_isI, ti_int, ti_bl, ti_str, ti_tup, ti_lst, mt_app, mt_ext, ty_app, ty_ext, ix_seq, sl_tup, sl_lst, sl_own, rv_tup, esc_d, esc_new, esc_slot, ofM_tup, ofM_lst, enM_tup, enM_lst, asEV_t, asEV_f, ownM_new, putAt_slot, soAt_slot, getV_at, setV_at, partI_na, partI_c, partI_v, partI_bin, callM_some, zp_2, zp_3, mtM_at, lim_0, lim_1, lim_2, lim_3, lim_4, lim_5, lim_6, lim_7, lim_8, entry_at, bnd_at, ret_at, opt_at, rsv_at, rsvs_nil, rsvs_at, rsvDs_at, resAll_nil, resAll_cons, resDs_nil, resDs_cons, par2_at, kindM_at, setM_lst, heapM_new, dat_d, dat_own, wipeE_nil, wipeE_cons, backE_nil, backE_cons, backV_at, lcB_at, q]
theorem dt_i (fs : List Int) (w : Int) (st : List SO) (H : Ok fs) (W : Wd w) : evI G_9 (.of (.call "needs_of" [.v 0, .v 1])) ⟨[some (.d ((D.tup (List.map D.int fs)))), some (.d (.int w)), some (.d (.int (least fs w))), none, none], st⟩ = some ((List.range fs.length).map (ndT fs w), ⟨[some (.d ((D.tup (List.map D.int fs)))), some (.d (.int w)), some (.d (.int (least fs w))), none, none], st⟩) := by
  have h5 := H.l5
  simp [ev_c, ev_v, ev_g, ev_bin, ev_neg, ev_not, ev_and, ev_or, ev_cmp, ev_chn, ev_ite, ev_tup, ev_lst, ev_idx, ev_slc, ev_call, ev_bi, ev_mt, ev_heap, ev_coll, ev_rev, evT_c, evT_v, evT_not, evT_and, evT_or, evT_ite, evT_cmp, evT_chn, evT_call, evT_bi, evs_nil, evs_cons, evDs_nil, evDs_star, evDs_c, evDs_v, evDs_g, evDs_bin, evDs_neg, evDs_not, evDs_and, evDs_or, evDs_cmp, evDs_chn, evDs_ite, evDs_tup, evDs_lst, evDs_idx, evDs_slc, evDs_call, evDs_bi, evDs_mt, evDs_lc, evDs_heap, evDs_coll, evDs_rev, evI_of, evI_range, evI_enum, evI_zip, evTs_nil, evTs_cons, asgT_v, asgT_tup, asgT_idx, asgTs_nil, asgTs_cons, exec_asg, exec_own, exec_par, exec_ex, exec_ret, exec_retN, exec_iff, execs_nil, execs_cons, bo_add, bo_sub, bo_mul, bo_fd, bo_mod, bo_pow, bo_addT, bo_rep, co_lt, co_le, co_gt, co_ge, co_eq, co_ne, co_isb, co_isnb, co_isN, co_isnN, isN_int, isN_non, isN_tup, isN_lst, co_eqs, co_nes, eqD_str, co_neL1, co_neL2, co_neL3, co_eqL1, in_tup, in_own, tr_b, res_int, res_bl, res_str, res_non, res_tup, res_lst, res_new, res_slot, res_ref, resD_int, resD_bl, resD_str, resD_non, resD_tup, resD_lst, seq_tup, seq_lst, seq_own, seq_rf, lseq_lst, lseq_own, lseq_rf, bi_len, bi_sum, bi_all, bi_any, bi_tuple, bi_max2, bi_min2, bi_int, bi_intb, bi_abs, bi_isI, ti_int, ti_bl, ti_str, ti_tup, ti_lst, mt_app, mt_ext, ty_app, ty_ext, ix_seq, sl_tup, sl_lst, sl_own, rv_tup, esc_d, esc_new, esc_slot, ofM_tup, ofM_lst, enM_tup, enM_lst, asEV_t, asEV_f, ownM_new, putAt_slot, soAt_slot, getV_at, setV_at, partI_na, partI_c, partI_v, partI_bin, callM_some, zp_2, zp_3, mtM_at, lim_0, lim_1, lim_2, lim_3, lim_4, lim_5, lim_6, lim_7, lim_8, entry_at, bnd_at, ret_at, opt_at, rsv_at, rsvs_nil, rsvs_at, rsvDs_at, resAll_nil, resAll_cons, resDs_nil, resDs_cons, par2_at, kindM_at, setM_lst, heapM_new, dat_d, dat_own, wipeE_nil, wipeE_cons, backE_nil, backE_cons, backV_at, lcB_at, N_down_told, ir_down_told, fn_down_told_check_stair, fn_down_told_least_of, fn_down_told_needs_of, v_needs_of fs w st (by omega) W]
theorem dt_b (fs : List Int) (w : Int) (st : List SO) (k : Nat) : lcB G_9 (.tup [.v 3, .v 4]) [.cmp .Eq (.v 3) (.v 2)] (.v 4) (ndT fs w k) ⟨[some (.d ((D.tup (List.map D.int fs)))), some (.d (.int w)), some (.d (.int (least fs w))), none, none], st⟩ = some (if decide (nd fs w k = least fs w) = true then some (.int (k + 1)) else none, ⟨[some (.d ((D.tup (List.map D.int fs)))), some (.d (.int w)), some (.d (.int (least fs w))), some (.d (.int (nd fs w k))), some (.d (.int (k + 1)))], st⟩) := by
  by_cases r : nd fs w k = least fs w <;> simp [ev_c, ev_v, ev_g, ev_bin, ev_neg, ev_not, ev_and, ev_or, ev_cmp, ev_chn, ev_ite, ev_tup, ev_lst, ev_idx, ev_slc, ev_call, ev_bi, ev_mt, ev_heap, ev_coll, ev_rev, evT_c, evT_v, evT_not, evT_and, evT_or, evT_ite, evT_cmp, evT_chn, evT_call, evT_bi, evs_nil, evs_cons, evDs_nil, evDs_star, evDs_c, evDs_v, evDs_g, evDs_bin, evDs_neg, evDs_not, evDs_and, evDs_or, evDs_cmp, evDs_chn, evDs_ite, evDs_tup, evDs_lst, evDs_idx, evDs_slc, evDs_call, evDs_bi, evDs_mt, evDs_lc, evDs_heap, evDs_coll, evDs_rev, evI_of, evI_range, evI_enum, evI_zip, evTs_nil, evTs_cons, asgT_v, asgT_tup, asgT_idx, asgTs_nil, asgTs_cons, exec_asg, exec_own, exec_par, exec_ex, exec_ret, exec_retN, exec_iff, execs_nil, execs_cons, bo_add, bo_sub, bo_mul, bo_fd, bo_mod, bo_pow, bo_addT, bo_rep, co_lt, co_le, co_gt, co_ge, co_eq, co_ne, co_isb, co_isnb, co_isN, co_isnN, isN_int, isN_non, isN_tup, isN_lst, co_eqs, co_nes, eqD_str, co_neL1, co_neL2, co_neL3, co_eqL1, in_tup, in_own, tr_b, res_int, res_bl, res_str, res_non, res_tup, res_lst, res_new, res_slot, res_ref, resD_int, resD_bl, resD_str, resD_non, resD_tup, resD_lst, seq_tup, seq_lst, seq_own, seq_rf, lseq_lst, lseq_own, lseq_rf, bi_len, bi_sum, bi_all, bi_any, bi_tuple, bi_max2, bi_min2, bi_int, bi_intb, bi_abs, bi_isI, ti_int, ti_bl, ti_str, ti_tup, ti_lst, mt_app, mt_ext, ty_app, ty_ext, ix_seq, sl_tup, sl_lst, sl_own, rv_tup, esc_d, esc_new, esc_slot, ofM_tup, ofM_lst, enM_tup, enM_lst, asEV_t, asEV_f, ownM_new, putAt_slot, soAt_slot, getV_at, setV_at, partI_na, partI_c, partI_v, partI_bin, callM_some, zp_2, zp_3, mtM_at, lim_0, lim_1, lim_2, lim_3, lim_4, lim_5, lim_6, lim_7, lim_8, entry_at, bnd_at, ret_at, opt_at, rsv_at, rsvs_nil, rsvs_at, rsvDs_at, resAll_nil, resAll_cons, resDs_nil, resDs_cons, par2_at, kindM_at, setM_lst, heapM_new, dat_d, dat_own, wipeE_nil, wipeE_cons, backE_nil, backE_cons, backV_at, lcB_at, ndT, r]
theorem v_down_told (fs : List Int) (w : Int) (st : List SO) (H : Ok fs) (W : Wd w) : ∃ d, den_down_told [(D.tup (List.map D.int fs)), .int w] st = some (.d (.tup [.int (least fs w), d]), st) := by
  have h1 := H.l1
  have h5 := H.l5
  by_cases q : least fs w = 0
  · refine ⟨.non, run_of (fl := .ret (.d (.tup [.int 0, .non]))) (ss := ⟨[some (.d ((D.tup (List.map D.int fs)))), some (.d (.int w)), some (.d (.int (least fs w))), none, none], st⟩) ?_ (q ▸ exit_d _ _ _) rfl⟩
    exact xs_cons (dt_1 fs w st H W) (xs_cons (dt_2 fs w st H W) (xs_out (x_iff (k := true) (f_cmpT (f_v rfl) (f_c _ _) rfl rfl (by rw [co_eq, q]; rfl)) (xs_out (x_ret (f_tup (f_cons rfl (f_c _ _) rfl (f_cons rfl (f_c _ _) rfl (f_nil _))) lim_2))))))
  · obtain ⟨k, hk, ek⟩ := List.mem_map.mp (mxL_mem (xs := (List.range fs.length).map (nd fs w)) (by simpa using range_ne h1))
    have e := lc_fil (Γ := G_9) (own := [3, 4]) (t := .tup [.v 3, .v 4]) (it := .of (.call "needs_of" [.v 0, .v 1])) (ifs := [.cmp .Eq (.v 3) (.v 2)]) (elt := .v 4) (ss := ⟨[some (.d ((D.tup (List.map D.int fs)))), some (.d (.int w)), some (.d (.int (least fs w))), none, none], st⟩) (env := [some (.d ((D.tup (List.map D.int fs)))), some (.d (.int w)), some (.d (.int (least fs w))), none, none]) (st := st)
      (List.range fs.length) (ndT fs w) (fun k => decide (nd fs w k = least fs w)) (fun k => .int (k + 1)) (dt_i fs w st H W) (fun k _ => ⟨_, dt_b fs w st k, rfl⟩) (by rw [List.length_range]; exact lim5 (by omega))
    cases ee : (List.range fs.length).filter (fun k => decide (nd fs w k = least fs w)) with
    | nil =>
      exfalso
      have : k ∈ (List.range fs.length).filter (fun k => decide (nd fs w k = least fs w)) := List.mem_filter.mpr ⟨hk, decide_eq_true (show nd fs w k = least fs w from ek)⟩
      rw [ee] at this
      cases this
    | cons x xs =>
      rw [ee] at e
      have ha : atD (List.map (fun k : Nat => D.int ((k : Int) + 1)) (x :: xs)) 0 = some (.int ((x : Int) + 1)) := at_map (fun k : Nat => D.int ((k : Int) + 1)) (x :: xs) 0 (by simp)
      refine ⟨.int (x + 1), run_of (fl := .ret (.d (.tup [.int (least fs w), .int (x + 1)]))) (ss := ⟨[some (.d ((D.tup (List.map D.int fs)))), some (.d (.int w)), some (.d (.int (least fs w))), none, none], st⟩) ?_ (exit_d _ _ _) rfl⟩
      exact xs_cons (dt_1 fs w st H W) (xs_cons (dt_2 fs w st H W) (xs_cons (dt_3 fs w st q) (xs_out (x_ret (f_tup (f_cons rfl (f_v rfl) rfl (f_cons rfl (f_idx e (f_c _ _) rfl rfl ((ix_seq _ _).trans ha)) rfl (f_nil _))) lim_2)))))
end K72
end

section
set_option Elab.async false
set_option linter.all false
set_option maxRecDepth 100000
set_option maxHeartbeats 4000000
namespace Ev
open PySem (Str Operator CmpOp)
theorem evI_enumT {Γ : Gam} {e : E} {ss s1 : SS} {fs : List Int} (h : ev Γ e ss = some (.d (.tup (fs.map .int)), s1)) (hl : fs.length ≤ LIM) : evI Γ (.enum e) ss = some (fs.zipIdx.map fun p => .tup [.int (p.2 : Int), .int p.1], s1) := by
  refine f_enum h (s2 := s1) rfl ?_
  rw [enM_tup, List.length_map, if_pos hl, enumD_map]
  rfl
end Ev
namespace K72
open Ev
open PySem (Str Operator CmpOp)
def al1 (w : Int) (p : Int × Nat) : Int := if 0 < p.1 then (p.2 : Int) + up p.1 w else 0
def al (fs : List Int) (w : Int) : List Int := fs.zipIdx.map (al1 w)
theorem ab_b (fs : List Int) (w : Int) (st : List SO) (W : Wd w) (p : Int × Nat) : lcB G_13 (.tup [.v 2, .v 3]) [] (.ite (.cmp .Gt (.v 3) (.c (.int 0))) (.bin .Add (.v 2) (.call "rounded_up" [.v 3, .v 1])) (.c (.int 0))) (.tup [.int (p.2 : Int), .int p.1]) ⟨[some (.d ((D.tup (List.map D.int fs)))), some (.d (.int w)), none, none], st⟩ = some (some (.int (al1 w p)), ⟨[some (.d ((D.tup (List.map D.int fs)))), some (.d (.int w)), some (.d (.int (p.2 : Int))), some (.d (.int p.1))], st⟩) := by
  have h1 := W.lo
  have h5 := W.hi
  have e := v_rounded p.1 w st (by omega) (by omega)
  have c : ev G_13 (.call "rounded_up" [.v 3, .v 1]) ⟨[some (.d ((D.tup (List.map D.int fs)))), some (.d (.int w)), some (.d (.int (p.2 : Int))), some (.d (.int p.1))], st⟩ = some (.d (.int (up p.1 w)), ⟨[some (.d ((D.tup (List.map D.int fs)))), some (.d (.int w)), some (.d (.int (p.2 : Int))), some (.d (.int p.1))], st⟩) :=
    f_call fn_alone_by_rounded_up (f_cons rfl (f_v rfl) rfl (f_cons rfl (f_v rfl) rfl (f_nil _))) e
  generalize E.call "rounded_up" [.v 3, .v 1] = q at c ⊢
  unfold al1
  by_cases r : 0 < p.1 <;> simp [ev_c, ev_v, ev_g, ev_bin, ev_neg, ev_not, ev_and, ev_or, ev_cmp, ev_chn, ev_ite, ev_tup, ev_lst, ev_idx, ev_slc, ev_call, ev_bi, ev_mt, ev_heap, ev_coll, ev_rev, evT_c, evT_v, evT_not, evT_and, evT_or, evT_ite, evT_cmp, evT_chn, evT_call, evT_bi, evs_nil, evs_cons, evDs_nil, evDs_star, evDs_c, evDs_v, evDs_g, evDs_bin, evDs_neg, evDs_not, evDs_and, evDs_or, evDs_cmp, evDs_chn, evDs_ite, evDs_tup, evDs_lst, evDs_idx, evDs_slc, evDs_call, evDs_bi, evDs_mt, evDs_lc, evDs_heap, evDs_coll, evDs_rev, evI_of, evI_range, evI_enum, evI_zip, evTs_nil, evTs_cons, asgT_v, asgT_tup, asgT_idx, asgTs_nil, asgTs_cons, exec_asg, exec_own, exec_par, exec_ex, exec_ret, exec_retN, exec_iff, execs_nil, execs_cons, bo_add, bo_sub, bo_mul, bo_fd, bo_mod, bo_pow, bo_addT, bo_rep, co_lt, co_le, co_gt, co_ge, co_eq, co_ne, co_isb, co_isnb, co_isN, co_isnN, isN_int, isN_non, isN_tup, isN_lst, co_eqs, co_nes, eqD_str, co_neL1, co_neL2, co_neL3, co_eqL1, in_tup, in_own, tr_b, res_int, res_bl, res_str, res_non, res_tup, res_lst, res_new, res_slot, res_ref, resD_int, resD_bl, resD_str, resD_non, resD_tup, resD_lst, seq_tup, seq_lst, seq_own, seq_rf, lseq_lst, lseq_own, lseq_rf, bi_len, bi_sum, bi_all, bi_any, bi_tuple, bi_max2, bi_min2, bi_int, bi_intb, bi_abs, bi_isI, ti_int, ti_bl, ti_str, ti_tup, ti_lst, mt_app, mt_ext, ty_app, ty_ext, ix_seq, sl_tup, sl_lst, sl_own, rv_tup, esc_d, esc_new, esc_slot, ofM_tup, ofM_lst, enM_tup, enM_lst, asEV_t, asEV_f, ownM_new, putAt_slot, soAt_slot, getV_at, setV_at, partI_na, partI_c, partI_v, partI_bin, callM_some, zp_2, zp_3, mtM_at, lim_0, lim_1, lim_2, lim_3, lim_4, lim_5, lim_6, lim_7, lim_8, entry_at, bnd_at, ret_at, opt_at, rsv_at, rsvs_nil, rsvs_at, rsvDs_at, resAll_nil, resAll_cons, resDs_nil, resDs_cons, par2_at, kindM_at, setM_lst, heapM_new, dat_d, dat_own, wipeE_nil, wipeE_cons, backE_nil, backE_cons, backV_at, lcB_at, c, r]
theorem v_alone_by (fs : List Int) (w : Int) (st : List SO) (hl : fs.length ≤ 300) (W : Wd w) : den_alone_by [(D.tup (List.map D.int fs)), .int w] st = some (.new (.lst ((al fs w).map .int)), st) := by
  have e := lc_map (Γ := G_13) (own := [2, 3]) (t := .tup [.v 2, .v 3]) (it := .enum (.v 0)) (ifs := []) (elt := .ite (.cmp .Gt (.v 3) (.c (.int 0))) (.bin .Add (.v 2) (.call "rounded_up" [.v 3, .v 1])) (.c (.int 0))) (ss := ⟨[some (.d ((D.tup (List.map D.int fs)))), some (.d (.int w)), none, none], st⟩) (env := [some (.d ((D.tup (List.map D.int fs)))), some (.d (.int w)), none, none]) (st := st)
    fs.zipIdx (fun p => .tup [.int (p.2 : Int), .int p.1]) (fun p => .int (al1 w p)) (evI_enumT (f_v rfl) (lim5 hl)) (fun p _ => ⟨_, ab_b fs w st W p, rfl⟩) (by rw [List.length_zipIdx]; exact lim5 hl)
  refine run_of (fl := .ret (.new (.lst ((al fs w).map .int)))) (ss := ⟨[some (.d ((D.tup (List.map D.int fs)))), some (.d (.int w)), none, none], st⟩) (xs_out (x_ret (e.trans ?_))) (exit_new _ _ _) rfl
  unfold al
  rw [List.map_map]
  rfl
theorem v_alone_out (fs : List Int) (w : Int) (st : List SO) (H : Ok fs) (W : Wd w) : den_alone_out [(D.tup (List.map D.int fs)), .int w] st = some (.d ((D.tup (List.map D.int (al fs w)))), st) := by
  have h5 := H.l5
  have e1 : exec G_14 FUEL (.ex (.call "check_stair" [.v 0, .v 1])) ⟨[some (.d ((D.tup (List.map D.int fs)))), some (.d (.int w))], st⟩ = some (.nx, ⟨[some (.d ((D.tup (List.map D.int fs)))), some (.d (.int w))], st⟩) := x_ex (f_call fn_alone_out_check_stair (f_cons rfl (f_v rfl) rfl (f_cons rfl (f_v rfl) rfl (f_nil _))) (v_check_stair fs w st H W))
  refine run_of (fl := .ret (.d ((D.tup (List.map D.int (al fs w)))))) (ss := ⟨[some (.d ((D.tup (List.map D.int fs)))), some (.d (.int w))], st⟩) (xs_cons e1 (xs_out (x_ret (f_bi1 (f_call fn_alone_out_alone_by (f_cons rfl (f_v rfl) rfl (f_cons rfl (f_v rfl) rfl (f_nil _))) (v_alone_by fs w st (by omega) W)) rfl rfl)))) (exit_d _ _ _) rfl
end K72
end

section
set_option Elab.async false
set_option linter.all false
set_option maxRecDepth 100000
set_option maxHeartbeats 4000000
namespace K72
open Ev
open PySem (Str Operator CmpOp)
def bd (fs : List Int) (w t : Int) (k : Nat) : Int := (fs.take k).sum + w * max 0 (t - k)
def outP (fs : List Int) (w t : Int) : Int := mnL (fs.sum :: (List.range (fs.length + 1)).map (bd fs w t))
theorem na_b (fs : List Int) (w t : Int) (st : List SO) (W : Wd w) (k : Nat) : lcB G_11 (.v 4) [] (.bin .Add (.bi .sum [.slc (.v 0) (.na) (.v 4)]) (.bin .Mult (.v 1) (.bi .max [.c (.int 0), .bin .Sub (.v 2) (.v 4)]))) (.int (k : Int)) ⟨[some (.d ((D.tup (List.map D.int fs)))), some (.d (.int w)), some (.d (.int t)), none, none], st⟩ = some (some (.int (bd fs w t k)), ⟨[some (.d ((D.tup (List.map D.int fs)))), some (.d (.int w)), some (.d (.int t)), none, some (.d (.int (k : Int)))], st⟩) := by
  have h1 := W.lo
  have h5 := W.hi
  have e1 : ev G_11 (.bi .sum [.slc (.v 0) (.na) (.v 4)]) ⟨[some (.d ((D.tup (List.map D.int fs)))), some (.d (.int w)), some (.d (.int t)), none, some (.d (.int (k : Int)))], st⟩ = some (.d (.int (fs.take k).sum), ⟨[some (.d ((D.tup (List.map D.int fs)))), some (.d (.int w)), some (.d (.int t)), none, some (.d (.int (k : Int)))], st⟩) := by
    simp [ev_c, ev_v, ev_g, ev_bin, ev_neg, ev_not, ev_and, ev_or, ev_cmp, ev_chn, ev_ite, ev_tup, ev_lst, ev_idx, ev_slc, ev_call, ev_bi, ev_mt, ev_heap, ev_coll, ev_rev, evT_c, evT_v, evT_not, evT_and, evT_or, evT_ite, evT_cmp, evT_chn, evT_call, evT_bi, evs_nil, evs_cons, evDs_nil, evDs_star, evDs_c, evDs_v, evDs_g, evDs_bin, evDs_neg, evDs_not, evDs_and, evDs_or, evDs_cmp, evDs_chn, evDs_ite, evDs_tup, evDs_lst, evDs_idx, evDs_slc, evDs_call, evDs_bi, evDs_mt, evDs_lc, evDs_heap, evDs_coll, evDs_rev, evI_of, evI_range, evI_enum, evI_zip, evTs_nil, evTs_cons, asgT_v, asgT_tup, asgT_idx, asgTs_nil, asgTs_cons, exec_asg, exec_own, exec_par, exec_ex, exec_ret, exec_retN, exec_iff, execs_nil, execs_cons, bo_add, bo_sub, bo_mul, bo_fd, bo_mod, bo_pow, bo_addT, bo_rep, co_lt, co_le, co_gt, co_ge, co_eq, co_ne, co_isb, co_isnb, co_isN, co_isnN, isN_int, isN_non, isN_tup, isN_lst, co_eqs, co_nes, eqD_str, co_neL1, co_neL2, co_neL3, co_eqL1, in_tup, in_own, tr_b, res_int, res_bl, res_str, res_non, res_tup, res_lst, res_new, res_slot, res_ref, resD_int, resD_bl, resD_str, resD_non, resD_tup, resD_lst, seq_tup, seq_lst, seq_own, seq_rf, lseq_lst, lseq_own, lseq_rf, bi_len, bi_sum, bi_all, bi_any, bi_tuple, bi_max2, bi_min2, bi_int, bi_intb, bi_abs, bi_isI, ti_int, ti_bl, ti_str, ti_tup, ti_lst, mt_app, mt_ext, ty_app, ty_ext, ix_seq, sl_tup, sl_lst, sl_own, rv_tup, esc_d, esc_new, esc_slot, ofM_tup, ofM_lst, enM_tup, enM_lst, asEV_t, asEV_f, ownM_new, putAt_slot, soAt_slot, getV_at, setV_at, partI_na, partI_c, partI_v, partI_bin, callM_some, zp_2, zp_3, mtM_at, lim_0, lim_1, lim_2, lim_3, lim_4, lim_5, lim_6, lim_7, lim_8, entry_at, bnd_at, ret_at, opt_at, rsv_at, rsvs_nil, rsvs_at, rsvDs_at, resAll_nil, resAll_cons, resDs_nil, resDs_cons, par2_at, kindM_at, setM_lst, heapM_new, dat_d, dat_own, wipeE_nil, wipeE_cons, backE_nil, backE_cons, backV_at, lcB_at, cut_take, ints_take]
  have e2 : ev G_11 (.bi .max [.c (.int 0), .bin .Sub (.v 2) (.v 4)]) ⟨[some (.d ((D.tup (List.map D.int fs)))), some (.d (.int w)), some (.d (.int t)), none, some (.d (.int (k : Int)))], st⟩ = some (.d (.int (max 0 (t - k))), ⟨[some (.d ((D.tup (List.map D.int fs)))), some (.d (.int w)), some (.d (.int t)), none, some (.d (.int (k : Int)))], st⟩) := by
    simp [ev_c, ev_v, ev_g, ev_bin, ev_neg, ev_not, ev_and, ev_or, ev_cmp, ev_chn, ev_ite, ev_tup, ev_lst, ev_idx, ev_slc, ev_call, ev_bi, ev_mt, ev_heap, ev_coll, ev_rev, evT_c, evT_v, evT_not, evT_and, evT_or, evT_ite, evT_cmp, evT_chn, evT_call, evT_bi, evs_nil, evs_cons, evDs_nil, evDs_star, evDs_c, evDs_v, evDs_g, evDs_bin, evDs_neg, evDs_not, evDs_and, evDs_or, evDs_cmp, evDs_chn, evDs_ite, evDs_tup, evDs_lst, evDs_idx, evDs_slc, evDs_call, evDs_bi, evDs_mt, evDs_lc, evDs_heap, evDs_coll, evDs_rev, evI_of, evI_range, evI_enum, evI_zip, evTs_nil, evTs_cons, asgT_v, asgT_tup, asgT_idx, asgTs_nil, asgTs_cons, exec_asg, exec_own, exec_par, exec_ex, exec_ret, exec_retN, exec_iff, execs_nil, execs_cons, bo_add, bo_sub, bo_mul, bo_fd, bo_mod, bo_pow, bo_addT, bo_rep, co_lt, co_le, co_gt, co_ge, co_eq, co_ne, co_isb, co_isnb, co_isN, co_isnN, isN_int, isN_non, isN_tup, isN_lst, co_eqs, co_nes, eqD_str, co_neL1, co_neL2, co_neL3, co_eqL1, in_tup, in_own, tr_b, res_int, res_bl, res_str, res_non, res_tup, res_lst, res_new, res_slot, res_ref, resD_int, resD_bl, resD_str, resD_non, resD_tup, resD_lst, seq_tup, seq_lst, seq_own, seq_rf, lseq_lst, lseq_own, lseq_rf, bi_len, bi_sum, bi_all, bi_any, bi_tuple, bi_max2, bi_min2, bi_int, bi_intb, bi_abs, bi_isI, ti_int, ti_bl, ti_str, ti_tup, ti_lst, mt_app, mt_ext, ty_app, ty_ext, ix_seq, sl_tup, sl_lst, sl_own, rv_tup, esc_d, esc_new, esc_slot, ofM_tup, ofM_lst, enM_tup, enM_lst, asEV_t, asEV_f, ownM_new, putAt_slot, soAt_slot, getV_at, setV_at, partI_na, partI_c, partI_v, partI_bin, callM_some, zp_2, zp_3, mtM_at, lim_0, lim_1, lim_2, lim_3, lim_4, lim_5, lim_6, lim_7, lim_8, entry_at, bnd_at, ret_at, opt_at, rsv_at, rsvs_nil, rsvs_at, rsvDs_at, resAll_nil, resAll_cons, resDs_nil, resDs_cons, par2_at, kindM_at, setM_lst, heapM_new, dat_d, dat_own, wipeE_nil, wipeE_cons, backE_nil, backE_cons, backV_at, lcB_at]
  have e3 : ev G_11 (.bin .Add (.bi .sum [.slc (.v 0) (.na) (.v 4)]) (.bin .Mult (.v 1) (.bi .max [.c (.int 0), .bin .Sub (.v 2) (.v 4)]))) ⟨[some (.d ((D.tup (List.map D.int fs)))), some (.d (.int w)), some (.d (.int t)), none, some (.d (.int (k : Int)))], st⟩ = some (.d (.int (bd fs w t k)), ⟨[some (.d ((D.tup (List.map D.int fs)))), some (.d (.int w)), some (.d (.int t)), none, some (.d (.int (k : Int)))], st⟩) := f_bin e1 (f_bin (f_v rfl) e2 rfl rfl (by rw [bo_mul, if_pos (.inl ⟨by omega, by omega⟩)])) rfl rfl rfl
  exact f_lcB rfl e3 rfl
theorem v_number_after (fs : List Int) (w t : Int) (st : List SO) (hl : fs.length ≤ 200) (W : Wd w) : den_number_after [(D.tup (List.map D.int fs)), .int w, .int t] st = some (.d (.int (outP fs w t)), st) := by
  have e := lc_map (Γ := G_11) (own := [4]) (t := .v 4) (it := .range [.bin .Add (.bi .len [.v 0]) (.c (.int 1))]) (ifs := []) (elt := (.bin .Add (.bi .sum [.slc (.v 0) (.na) (.v 4)]) (.bin .Mult (.v 1) (.bi .max [.c (.int 0), .bin .Sub (.v 2) (.v 4)])))) (ss := ⟨[some (.d ((D.tup (List.map D.int fs)))), some (.d (.int w)), some (.d (.int t)), none, none], st⟩) (env := [some (.d ((D.tup (List.map D.int fs)))), some (.d (.int w)), some (.d (.int t)), none, none]) (st := st)
    (List.range (fs.length + 1)) (fun k => .int (k : Int)) (fun k => .int (bd fs w t k)) (evI_rangeN (n := fs.length + 1) (by simp [ev_c, ev_v, ev_g, ev_bin, ev_neg, ev_not, ev_and, ev_or, ev_cmp, ev_chn, ev_ite, ev_tup, ev_lst, ev_idx, ev_slc, ev_call, ev_bi, ev_mt, ev_heap, ev_coll, ev_rev, evT_c, evT_v, evT_not, evT_and, evT_or, evT_ite, evT_cmp, evT_chn, evT_call, evT_bi, evs_nil, evs_cons, evDs_nil, evDs_star, evDs_c, evDs_v, evDs_g, evDs_bin, evDs_neg, evDs_not, evDs_and, evDs_or, evDs_cmp, evDs_chn, evDs_ite, evDs_tup, evDs_lst, evDs_idx, evDs_slc, evDs_call, evDs_bi, evDs_mt, evDs_lc, evDs_heap, evDs_coll, evDs_rev, evI_of, evI_range, evI_enum, evI_zip, evTs_nil, evTs_cons, asgT_v, asgT_tup, asgT_idx, asgTs_nil, asgTs_cons, exec_asg, exec_own, exec_par, exec_ex, exec_ret, exec_retN, exec_iff, execs_nil, execs_cons, bo_add, bo_sub, bo_mul, bo_fd, bo_mod, bo_pow, bo_addT, bo_rep, co_lt, co_le, co_gt, co_ge, co_eq, co_ne, co_isb, co_isnb, co_isN, co_isnN, isN_int, isN_non, isN_tup, isN_lst, co_eqs, co_nes, eqD_str, co_neL1, co_neL2, co_neL3, co_eqL1, in_tup, in_own, tr_b, res_int, res_bl, res_str, res_non, res_tup, res_lst, res_new, res_slot, res_ref, resD_int, resD_bl, resD_str, resD_non, resD_tup, resD_lst, seq_tup, seq_lst, seq_own, seq_rf, lseq_lst, lseq_own, lseq_rf, bi_len, bi_sum, bi_all, bi_any, bi_tuple, bi_max2, bi_min2, bi_int, bi_intb, bi_abs, bi_isI, ti_int, ti_bl, ti_str, ti_tup, ti_lst, mt_app, mt_ext, ty_app, ty_ext, ix_seq, sl_tup, sl_lst, sl_own, rv_tup, esc_d, esc_new, esc_slot, ofM_tup, ofM_lst, enM_tup, enM_lst, asEV_t, asEV_f, ownM_new, putAt_slot, soAt_slot, getV_at, setV_at, partI_na, partI_c, partI_v, partI_bin, callM_some, zp_2, zp_3, mtM_at, lim_0, lim_1, lim_2, lim_3, lim_4, lim_5, lim_6, lim_7, lim_8, entry_at, bnd_at, ret_at, opt_at, rsv_at, rsvs_nil, rsvs_at, rsvDs_at, resAll_nil, resAll_cons, resDs_nil, resDs_cons, par2_at, kindM_at, setM_lst, heapM_new, dat_d, dat_own, wipeE_nil, wipeE_cons, backE_nil, backE_cons, backV_at, lcB_at]) (lim5 (by omega))) (fun k _ => ⟨_, na_b fs w t st W k, rfl⟩) (by rw [List.length_range]; exact lim5 (by omega))
  have e1 : ev G_11 (.bi .sum [.v 0]) ⟨[some (.d ((D.tup (List.map D.int fs)))), some (.d (.int w)), some (.d (.int t)), some (.d (.lst ((List.range (fs.length + 1)).map fun k => .int (bd fs w t k)))), none], st⟩ = some (.d (.int fs.sum), ⟨[some (.d ((D.tup (List.map D.int fs)))), some (.d (.int w)), some (.d (.int t)), some (.d (.lst ((List.range (fs.length + 1)).map fun k => .int (bd fs w t k)))), none], st⟩) := by simp [ev_c, ev_v, ev_g, ev_bin, ev_neg, ev_not, ev_and, ev_or, ev_cmp, ev_chn, ev_ite, ev_tup, ev_lst, ev_idx, ev_slc, ev_call, ev_bi, ev_mt, ev_heap, ev_coll, ev_rev, evT_c, evT_v, evT_not, evT_and, evT_or, evT_ite, evT_cmp, evT_chn, evT_call, evT_bi, evs_nil, evs_cons, evDs_nil, evDs_star, evDs_c, evDs_v, evDs_g, evDs_bin, evDs_neg, evDs_not, evDs_and, evDs_or, evDs_cmp, evDs_chn, evDs_ite, evDs_tup, evDs_lst, evDs_idx, evDs_slc, evDs_call, evDs_bi, evDs_mt, evDs_lc, evDs_heap, evDs_coll, evDs_rev, evI_of, evI_range, evI_enum, evI_zip, evTs_nil, evTs_cons, asgT_v, asgT_tup, asgT_idx, asgTs_nil, asgTs_cons, exec_asg, exec_own, exec_par, exec_ex, exec_ret, exec_retN, exec_iff, execs_nil, execs_cons, bo_add, bo_sub, bo_mul, bo_fd, bo_mod, bo_pow, bo_addT, bo_rep, co_lt, co_le, co_gt, co_ge, co_eq, co_ne, co_isb, co_isnb, co_isN, co_isnN, isN_int, isN_non, isN_tup, isN_lst, co_eqs, co_nes, eqD_str, co_neL1, co_neL2, co_neL3, co_eqL1, in_tup, in_own, tr_b, res_int, res_bl, res_str, res_non, res_tup, res_lst, res_new, res_slot, res_ref, resD_int, resD_bl, resD_str, resD_non, resD_tup, resD_lst, seq_tup, seq_lst, seq_own, seq_rf, lseq_lst, lseq_own, lseq_rf, bi_len, bi_sum, bi_all, bi_any, bi_tuple, bi_max2, bi_min2, bi_int, bi_intb, bi_abs, bi_isI, ti_int, ti_bl, ti_str, ti_tup, ti_lst, mt_app, mt_ext, ty_app, ty_ext, ix_seq, sl_tup, sl_lst, sl_own, rv_tup, esc_d, esc_new, esc_slot, ofM_tup, ofM_lst, enM_tup, enM_lst, asEV_t, asEV_f, ownM_new, putAt_slot, soAt_slot, getV_at, setV_at, partI_na, partI_c, partI_v, partI_bin, callM_some, zp_2, zp_3, mtM_at, lim_0, lim_1, lim_2, lim_3, lim_4, lim_5, lim_6, lim_7, lim_8, entry_at, bnd_at, ret_at, opt_at, rsv_at, rsvs_nil, rsvs_at, rsvDs_at, resAll_nil, resAll_cons, resDs_nil, resDs_cons, par2_at, kindM_at, setM_lst, heapM_new, dat_d, dat_own, wipeE_nil, wipeE_cons, backE_nil, backE_cons, backV_at, lcB_at, ints_map]
  have hm := bi_minL (.own (.lst (.int fs.sum :: ((List.range (fs.length + 1)).map (fun k => D.int (bd fs w t k)) ++ [])))) (fs.sum :: (List.range (fs.length + 1)).map (bd fs w t)) (by simp [RA.seq, SO.seq]) (by simp)
  exact run_of (xs_cons (x_asg e rfl rfl) (xs_out (x_ret (f_bi1 (f_lst (f_cons rfl e1 rfl (f_star (f_v rfl) rfl rfl (f_nil _))) (by simp; exact lim5 (by omega))) rfl hm)))) (exit_d _ _ _) rfl
theorem v_out_after (fs : List Int) (w t : Int) (st : List SO) (H : Ok fs) (W : Wd w) (h0 : 0 ≤ t) (h4 : t ≤ 400) : den_out_after [(D.tup (List.map D.int fs)), .int w, .int t] st = some (.d (.int (outP fs w t)), st) := by
  have h5 := H.l5
  exact run_of (xs_cons (x_ex (f_call fn_out_after_check_stair (f_cons rfl (f_v rfl) rfl (f_cons rfl (f_v rfl) rfl (f_nil _))) (v_check_stair fs w st H W))) (xs_cons (x_ex (f_call fn_out_after_check_after (f_cons rfl (f_v rfl) rfl (f_nil _)) (v_check_after t st h0 h4)))
    (xs_out (x_ret (f_call fn_out_after_number_after (f_cons rfl (f_v rfl) rfl (f_cons rfl (f_v rfl) rfl (f_cons rfl (f_v rfl) rfl (f_nil _)))) (v_number_after fs w t st (by omega) W)))))) (exit_d _ _ _) rfl
end K72
end

section
set_option Elab.async false
set_option linter.all false
set_option maxRecDepth 100000
set_option maxHeartbeats 4000000
namespace Ev
open PySem (Str Operator CmpOp)
theorem ne_nil (xs : List Int) : cmpop .NotEq (.d (.lst (xs.map .int))) (.own (.lst [])) = some (!decide (xs = [])) := by
  rw [co_neL2, eqD_nil]; rfl
end Ev
namespace K72
open Ev
open PySem (Str Operator CmpOp)
def fine (fs : List Int) (t : Int) : List Int := ((List.range 20).filter fun k : Nat => decide (least fs (((1 : Nat) : Int) + (k : Int)) ≤ t)).map fun k : Nat => ((1 : Nat) : Int) + (k : Int)
def hd : List Int → D
  | [] => .non
  | x :: _ => .int x
theorem v_widest (fs : List Int) (t : Int) (st : List SO) (H : Ok fs) (h0 : 0 ≤ t) (h4 : t ≤ 400) : den_widest_need [(D.tup (List.map D.int fs)), .int t] st = some (.d (hd (fine fs t)), st) := by
  have h1 := H.l1
  have h5 := H.l5
  have e := lc_fil (Γ := G_15) (own := [3]) (t := .v 3) (it := .range [.c (.int 1), .bin .Add (.g "MOST_WIDE") (.c (.int 1))]) (ifs := [.cmp .LtE (.call "least_of" [.v 0, .v 3]) (.v 1)]) (elt := .v 3) (ss := ⟨[some (.d ((D.tup (List.map D.int fs)))), some (.d (.int t)), none, none], st⟩) (env := [some (.d ((D.tup (List.map D.int fs)))), some (.d (.int t)), none, none]) (st := st)
    (List.range 20) (fun k => .int (((1 : Nat) : Int) + (k : Int))) (fun k => decide (least fs (((1 : Nat) : Int) + (k : Int)) ≤ t)) (fun k => .int (((1 : Nat) : Int) + (k : Int)))
    (evI_range2 (a := 1) (n := 20) (f_c _ _) (f_bin (f_g con_widest_need_MOST_WIDE) (f_c _ _) rfl rfl rfl) (by decide))
    (fun k hk => ⟨[some (.d ((D.tup (List.map D.int fs)))), some (.d (.int t)), none, some (.d (.int (((1 : Nat) : Int) + (k : Int))))], f_lcF rfl (f_cmpT (f_call fn_widest_need_least_of (f_cons rfl (f_v rfl) rfl (f_cons rfl (f_v rfl) rfl (f_nil _))) (v_least_of fs (((1 : Nat) : Int) + (k : Int)) st h1 (by omega) ⟨by omega, by have := List.mem_range.mp hk; omega⟩)) (f_v rfl) rfl rfl (co_le _ _)) (f_v rfl) rfl, rfl⟩) (by decide)
  have ee : ((List.range 20).filter fun k : Nat => decide (least fs (((1 : Nat) : Int) + (k : Int)) ≤ t)).map (fun k : Nat => D.int (((1 : Nat) : Int) + (k : Int))) = (fine fs t).map .int := by unfold fine; rw [List.map_map]; rfl
  rw [ee] at e
  have a : execs G_15 FUEL ir_widest_need (entry N_widest_need [(D.tup (List.map D.int fs)), .int t] st) = execs G_15 FUEL [.ret (.ite (.cmp .NotEq (.v 2) (.lst [])) (.idx (.v 2) (.c (.int 0))) (.c (.non)))] ⟨[some (.d ((D.tup (List.map D.int fs)))), some (.d (.int t)), some (.d (.lst ((fine fs t).map .int))), none], st⟩ :=
    xs_cons (x_ex (f_call fn_widest_need_check_floors (f_cons rfl (f_v rfl) rfl (f_nil _)) (v_check_floors fs st H))) (xs_cons (x_ex (f_call fn_widest_need_check_after (f_cons rfl (f_v rfl) rfl (f_nil _)) (v_check_after t st h0 h4))) (xs_cons (x_asg e rfl rfl) rfl))
  refine run_of (fl := .ret (.d (hd (fine fs t)))) (ss := ⟨[some (.d ((D.tup (List.map D.int fs)))), some (.d (.int t)), some (.d (.lst ((fine fs t).map .int))), none], st⟩) (a.trans ?_) (exit_d _ _ _) rfl
  have n := ne_nil (fine fs t)
  refine xs_out (x_ret (f_ite (f_cmpT (f_v rfl) (f_lst (f_nil _) lim_0) rfl rfl n) ?_))
  cases q : fine fs t with
  | nil => rfl
  | cons x xs => exact f_idx (f_v rfl) (f_c _ _) rfl rfl ((ix_seq _ _).trans (at_map D.int (x :: xs) 0 (by simp)))
end K72
end

section
set_option Elab.async false
set_option linter.all false
set_option maxRecDepth 100000
set_option maxHeartbeats 4000000
namespace K72
open Ev
open PySem (Str Operator CmpOp)
def bad (x : Int) : Nat := x.toNat
/-! ### goers -/
def gst (w : Int) (a : Nat → Int) (o : List Int) : (Nat → Int) × Int := o.foldl (fun s f => (fun c => if c = (f - 1).toNat then min s.2 (a (f - 1).toNat) else s.1 c, s.2 - min s.2 (a (f - 1).toNat))) (fun _ => 0, w)
theorem gst_snoc (w : Int) (a : Nat → Int) (p : List Int) (f : Int) : gst w a (p ++ [f]) = (fun c => if c = (f - 1).toNat then min (gst w a p).2 (a (f - 1).toNat) else (gst w a p).1 c, (gst w a p).2 - min (gst w a p).2 (a (f - 1).toNat)) := by
  unfold gst; rw [List.foldl_append]; rfl
theorem v_goers (n : Nat) (a : Nat → Int) (w : Int) (o : List Int) (st : List SO) (ho : ∀ f ∈ o, 1 ≤ f ∧ f ≤ n) (hn : n ≤ 300) : den_goers [.lst (Row n a), .int w, (D.tup (List.map D.int o))] st = some (.new (.lst (Row n (gst w a o).1)), st) := by
  have hl : exec G_20 FUEL (.for (.v 5) (.of (.v 2)) [.asg (.idx (.v 3) (.bin .Sub (.v 5) (.c (.int 1)))) (.bi .min [.v 4, .idx (.v 0) (.bin .Sub (.v 5) (.c (.int 1)))]), .asg (.v 4) (.bin .Sub (.v 4) (.idx (.v 3) (.bin .Sub (.v 5) (.c (.int 1)))))]) (⟨[some (.d (.lst (Row n a))), some (.d (.int w)), some (.d ((D.tup (List.map D.int o)))), some (.own (.lst (Row n (gst w a ([])).1))), some (.d (.int (gst w a ([])).2)), ([]).getLast?.map fun k : Int => .d (.int k)], st⟩ : SS) = some (.nx, (⟨[some (.d (.lst (Row n a))), some (.d (.int w)), some (.d ((D.tup (List.map D.int o)))), some (.own (.lst (Row n (gst w a o).1))), some (.d (.int (gst w a o).2)), o.getLast?.map fun k : Int => .d (.int k)], st⟩ : SS)) := by
    refine exec_for_pre (fun pre : List Int => (⟨[some (.d (.lst (Row n a))), some (.d (.int w)), some (.d ((D.tup (List.map D.int o)))), some (.own (.lst (Row n (gst w a pre).1))), some (.d (.int (gst w a pre).2)), pre.getLast?.map fun k : Int => .d (.int k)], st⟩ : SS)) (fun f : Int => .int f) o ((f_of (f_n rfl) rfl (rfl))) ?_
    intro pre f post e
    have hf : 1 ≤ f ∧ f ≤ n := ho f (by rw [e]; simp)
    have hj : (f - 1).toNat < n := by omega
    have hj2 : ∀ a, L2.ixN (Row n a).length (f - 1) = some (f - 1).toNat := fun a => ixN_of (by rw [row_len]; exact hj) (by omega)
    have hi : ∀ {a : Nat → Int} {r : RA}, r.seq = some (Row n a) → idxop r (.d (.int (f - 1))) = some (.int (a (f - 1).toNat)) := fun h => ix_row h hj (by omega)
    refine ⟨_, .nx, rfl, ok_nx ((xs_cons (x_asgA (f_bi2 (f_n rfl) (f_idx (f_n rfl) (f_bin (f_n rfl) (f_c _ _) rfl rfl (bo_sub _ _)) rfl rfl (hi rfl)) rfl rfl (bi_min2 _ _)) rfl (x_idx (f_n rfl) (f_bin (f_n rfl) (f_c _ _) rfl rfl (bo_sub _ _)) rfl rfl (hj2 _) rfl)) (xs_cons (x_asg (f_bin (f_n rfl) (f_idx (f_n rfl) (f_bin (f_n rfl) (f_c _ _) rfl rfl (bo_sub _ _)) rfl rfl (hi (congrArg some (row_set _ _ _ _)))) rfl rfl (bo_sub _ _)) rfl rfl) (xs_nil _)))) ?_, .inl rfl⟩
    simp [gst_snoc, row_set]
  exact run_of ((xs_cons (x_par (f_bin (f_lst (f_cons rfl (f_c _ _) rfl (f_nil _)) (lim_1)) (f_bi1 (f_n rfl) rfl (bi_lenR n a _ rfl)) rfl rfl (bo_repI (by omega))) (f_n rfl) rfl rfl rfl rfl) (xs_cons (hl) (xs_out (x_ret (f_n rfl)))))) (exit_own _ _ _ _ rfl) rfl
end K72
end

section
set_option Elab.async false
set_option linter.all false
set_option maxRecDepth 100000
set_option maxHeartbeats 4000000
namespace K72
open Ev
open PySem (Str Operator CmpOp)
theorem v_behind (n : Nat) (a b c : Nat → Int) (st : List SO) (hn : n ≤ 300) : den_behind_tick [.lst (Row n a), .lst (Row n b), .lst (Row n c)] st = some (.new (.lst (Row n fun i => a i - b i + c i)), st) := by
  have hz : zipM [.lst (Row n a), .lst (Row n b), .lst (Row n c)] = ret ((List.range n).map fun i => D.tup [.int (a i), .int (b i), .int (c i)]) := by
    rw [zp_3]
    show ret (zipD3 (Row n a) (Row n b) (Row n c)) = _
    unfold Row
    rw [zipD3_map]
  exact run_of ((xs_out (x_ret (f_lcmS ((f_zip (f_cons rfl (f_n rfl) rfl (f_cons rfl (f_n rfl) rfl (f_cons rfl (f_n rfl) rfl (f_nil _)))) ((congrFun hz _).trans rfl))) (fun k hk => ⟨_, f_lcB rfl (f_bin (f_bin (f_n rfl) (f_n rfl) rfl rfl (bo_sub _ _)) (f_n rfl) rfl rfl (bo_add _ _)) rfl, rfl⟩) ((by first | decide | exact Ev.lim5 (by omega) | (simp only [List.length_map, List.length_range, List.length_append, List.length_cons, List.length_nil, row_len]; exact Ev.lim5 (by omega)) | (simp; exact Ev.lim5 (by omega)))) rfl)))) (exit_new _ _ _) rfl
/-! ### the run -/
def gF (w : Int) (o : List Int) (a : Nat → Int) : Nat → Int := (gst w a o).1
def stM (w : Int) (o : List Int) (A : Nat → Nat → Int) : Nat → Nat → Int := fun r c => A r c - gF w o (A r) c + gF w o (A (r + 1)) c
def MT (w : Int) (o : List Int) (A : Nat → Nat → Int) : Nat → Nat → Nat → Int
  | 0 => A
  | t + 1 => stM w o (MT w o A t)
def M0 (a : Nat → Int) : Nat → Nat → Int := fun r c => if c = r then a c else 0
def Mat (n : Nat) (A : Nat → Nat → Int) : List D := (List.range n).map fun r => .lst (Row n (A r))
def busy (n : Nat) (A : Nat → Nat → Int) : Bool := (List.range n).any fun r => decide (0 < ((List.range n).map (A r)).sum)
theorem v_goers' (n : Nat) (a : Nat → Int) (w : Int) (o : List Int) (st : List SO) (ho : ∀ f ∈ o, 1 ≤ f ∧ f ≤ n) (hn : n ≤ 300) : den_goers [.lst (Row n a), .int w, (D.tup (List.map D.int o))] st = some (.new (.lst (Row n (gF w o a))), st) := v_goers n a w o st ho hn
theorem mat_drop (n : Nat) (w : Int) (o : List Int) (A : Nat → Nat → Int) (h1 : 1 ≤ n) (hz : ∀ c, c < n → gF w o (A n) c = 0) : ((List.range n).map fun r => D.lst (Row n (gF w o (A r)))).drop 1 ++ [.lst (Row n fun _ => 0)] = (List.range n).map fun r => .lst (Row n (gF w o (A (r + 1)))) := by
  obtain ⟨m, rfl⟩ : ∃ m, n = m + 1 := ⟨n - 1, by omega⟩
  rw [List.range_succ_eq_map, List.map_cons, List.drop_succ_cons, List.drop_zero, List.map_map, ← List.range_succ_eq_map, List.range_succ, List.map_append]
  congr 1
  rw [List.map_cons, List.map_nil, row_ext (a := fun _ => 0) (b := gF w o (A (m + 1))) fun c hc => (hz c hc).symm]
theorem cut_one (ds : List D) : cutD ds (some 1) none = ds.drop 1 := by
  unfold cutD
  rw [show (1 : Int) = ((1 : Nat) : Int) from rfl, HT.sIx_nat, HT.sIx_none]
  cases ds with
  | nil => rfl
  | cons x xs => simp
def prv (f : Nat → D) : Nat → Option EV
  | 0 => none
  | t + 1 => some (.d (f t))
theorem v_run_of (n : Nat) (a : Nat → Int) (w : Int) (o : List Int) (st : List SO) (T : Nat) (ho : ∀ f ∈ o, 1 ≤ f ∧ f ≤ n) (h1 : 1 ≤ n) (hn : n ≤ 300) (hb : ∀ t, t < T → busy n (MT w o (M0 a) t) = true) (he : busy n (MT w o (M0 a) T) = false) (hT : T < 1000) (hz : ∀ t c, c < n → gF w o (MT w o (M0 a) t n) c = 0) :
    den_run_of [.tup (Row n a), .int w, (D.tup (List.map D.int o))] st = some (.new (.lst ((List.range T).map fun t => .tup (Row n (gF w o (MT w o (M0 a) t 0))))), st) := by
  have i : exec G_22 FUEL (.for (.v 6) (.range [.v 3]) [.ex (.mt .append (.v 4) [.lc [11, 12] (.tup [.v 11, .v 12]) (.enum (.v 0)) [] (.ite (.cmp .Eq (.v 11) (.v 6)) (.v 12) (.c (.int 0)))])]) (⟨[some (.d (.tup (Row n a))), some (.d (.int w)), some (.d ((D.tup (List.map D.int o)))), some (.d (.int (n : Int))), some (.own (.lst (([]).map fun r : Nat => .lst (Row n (M0 a r))))), some (.own (.lst [])), ([]).getLast?.map fun k : Nat => .d (.int k), none, none, none, none, none, none], st⟩ : SS) = some (.nx, (⟨[some (.d (.tup (Row n a))), some (.d (.int w)), some (.d ((D.tup (List.map D.int o)))), some (.d (.int (n : Int))), some (.own (.lst (((List.range n)).map fun r : Nat => .lst (Row n (M0 a r))))), some (.own (.lst [])), ((List.range n)).getLast?.map fun k : Nat => .d (.int k), none, none, none, none, none, none], st⟩ : SS)) := by
    refine exec_for_pre (fun pre : List Nat => (⟨[some (.d (.tup (Row n a))), some (.d (.int w)), some (.d ((D.tup (List.map D.int o)))), some (.d (.int (n : Int))), some (.own (.lst (pre.map fun r : Nat => .lst (Row n (M0 a r))))), some (.own (.lst [])), pre.getLast?.map fun k : Nat => .d (.int k), none, none, none, none, none, none], st⟩ : SS)) (fun f : Nat => .int f) (List.range n) (evI_rangeN (f_n rfl) (lim5 (by omega))) ?_
    intro pre r post e
    have hp : pre.length ≤ 1000 := by
      have := congrArg List.length e
      simp at this
      omega
    have hen : enM (.tup (Row n a)) = ret ((List.range n).map fun i : Nat => D.tup [.int (i : Int), .int (a i)]) := by
      rw [enM_tup, row_len, if_pos (lim5 (by omega))]
      unfold Row
      rw [enumD_range]
    refine ⟨_, .nx, rfl, ok_nx ((xs_cons (x_ex (f_mt (f_n rfl) rfl rfl (f_cons rfl (f_lcmS ((f_enum (f_n rfl) rfl ((congrFun hen _).trans rfl))) (fun k hk => ⟨_, f_lcB rfl (f_iteI (f_cmpT (f_n rfl) (f_n rfl) rfl rfl (co_eq _ _)) (fun hk => (f_n rfl)) (fun hk => (f_c _ _))) rfl, rfl⟩) ((by first | decide | exact Ev.lim5 (by omega) | (simp only [List.length_map, List.length_range, List.length_append, List.length_cons, List.length_nil, row_len]; exact Ev.lim5 (by omega)) | (simp; exact Ev.lim5 (by omega)))) rfl) rfl (f_nil _)) rfl rfl ((mt_app _ _ _).trans (if_pos (by rw [List.length_map]; exact nlim hp))) rfl)) (xs_nil _))) ?_, .inl rfl⟩
    simp only [List.map_append, List.map_cons, List.map_nil, List.getLast?_append, List.getLast?_singleton, Option.map_some, Option.some_or]
    have q : Row n (M0 a r) = (List.range n).map fun k : Nat => D.int (if decide ((k : Int) = (r : Int)) = true then a k else 0) := by
      unfold Row M0
      refine List.map_congr_left fun c _ => ?_
      by_cases hh : c = r
      · subst hh; simp
      · rw [if_neg hh, if_neg (by simp; omega)]
    rw [q]
    rfl
  have hz3 : ∀ A B C : Nat → Nat → Int, zipM [.lst (Mat n A), .lst (Mat n B), .lst (Mat n C)] = ret ((List.range n).map fun r => D.tup [.lst (Row n (A r)), .lst (Row n (B r)), .lst (Row n (C r))]) := by
    intro A B C
    rw [zp_3]
    show ret (zipD3 (Mat n A) (Mat n B) (Mat n C)) = _
    unfold Mat
    rw [zipD3_map]
  have hcome : ∀ (A : Nat → Nat → Int) (env : List (Option EV)), (∀ c, c < n → gF w o (A n) c = 0) → env[7]? = some (some (.d (.lst (Mat n fun r => gF w o (A r))))) → env[3]? = some (some (.d (.int (n : Int)))) → ev G_22 (.lst [.star (.slc (.v 7) (.c (.int 1)) (.na)), .bin .Mult (.lst [.c (.int 0)]) (.v 3)]) ⟨env, st⟩ = some (.new (.lst (Mat n fun r => gF w o (A (r + 1)))), ⟨env, st⟩) := by
    intro A env hA h7 h3
    have hl : ((Mat n fun r => gF w o (A r)).drop 1 ++ [D.lst (Row n fun _ => 0)]).length ≤ LIM := by
      simp [Mat]; exact lim5 (by omega)
    have e := mat_drop n w o A h1 hA
    refine ((f_lst (f_star (f_slc (f_v h7) (p_e rfl (f_c _ _)) p_na rfl ((sl_lst _ _ _).trans (by rw [cut_one]))) rfl rfl (f_cons rfl (f_bin (f_lst (f_cons rfl (f_c _ _) rfl (f_nil _)) (lim_1)) (f_v h3) rfl rfl (bo_repI (by omega))) rfl (f_nil _))) (hl))).trans ?_
    unfold Mat
    rw [e]
  have wl : exec G_22 FUEL (.whl (.bi .any [.lc [10] (.v 10) (.of (.v 4)) [] (.cmp .Gt (.bi .sum [.v 10]) (.c (.int 0)))]) [.asg (.v 7) (.lc [10] (.v 10) (.of (.v 4)) [] (.call "goers" [.v 10, .v 1, .v 2])), .asg (.v 8) (.lst [.star (.slc (.v 7) (.c (.int 1)) (.na)), .bin .Mult (.lst [.c (.int 0)]) (.v 3)]), .asg (.v 9) (.coll true (.zip [.v 4, .v 7, .v 8])), .own 4 (.lc [10] (.v 10) (.of (.v 9)) [] (.call "behind_tick" [.star (.v 10)])), .ex (.mt .append (.v 5) [.bi .tuple [.idx (.v 7) (.c (.int 0))]])]) (⟨[some (.d (.tup (Row n a))), some (.d (.int w)), some (.d ((D.tup (List.map D.int o)))), some (.d (.int (n : Int))), some (.own (.lst (Mat n (MT w o (M0 a) 0)))), some (.own (.lst ((List.range 0).map fun u : Nat => D.tup (Row n (gF w o (MT w o (M0 a) u 0)))))), (List.range n).getLast?.map fun k : Nat => .d (.int k), prv (fun u => .lst (Mat n fun r => gF w o (MT w o (M0 a) u r))) 0, prv (fun u => .lst (Mat n fun r => gF w o (MT w o (M0 a) u (r + 1)))) 0, prv (fun u => .lst ((List.range n).map fun r => .tup [.lst (Row n (MT w o (M0 a) u r)), .lst (Row n (gF w o (MT w o (M0 a) u r))), .lst (Row n (gF w o (MT w o (M0 a) u (r + 1))))])) 0, none, none, none], st⟩ : SS) = some (.nx, (⟨[some (.d (.tup (Row n a))), some (.d (.int w)), some (.d ((D.tup (List.map D.int o)))), some (.d (.int (n : Int))), some (.d (.lst (Mat n (MT w o (M0 a) T)))), some (.own (.lst ((List.range T).map fun u : Nat => D.tup (Row n (gF w o (MT w o (M0 a) u 0)))))), (List.range n).getLast?.map fun k : Nat => .d (.int k), prv (fun u => .lst (Mat n fun r => gF w o (MT w o (M0 a) u r))) T, prv (fun u => .lst (Mat n fun r => gF w o (MT w o (M0 a) u (r + 1)))) T, prv (fun u => .lst ((List.range n).map fun r => .tup [.lst (Row n (MT w o (M0 a) u r)), .lst (Row n (gF w o (MT w o (M0 a) u r))), .lst (Row n (gF w o (MT w o (M0 a) u (r + 1))))])) T, none, none, none], st⟩ : SS)) := by
    have hc : ∀ t, evT G_22 (.bi .any [.lc [10] (.v 10) (.of (.v 4)) [] (.cmp .Gt (.bi .sum [.v 10]) (.c (.int 0)))]) (⟨[some (.d (.tup (Row n a))), some (.d (.int w)), some (.d ((D.tup (List.map D.int o)))), some (.d (.int (n : Int))), some (.own (.lst (Mat n (MT w o (M0 a) t)))), some (.own (.lst ((List.range t).map fun u : Nat => D.tup (Row n (gF w o (MT w o (M0 a) u 0)))))), (List.range n).getLast?.map fun k : Nat => .d (.int k), prv (fun u => .lst (Mat n fun r => gF w o (MT w o (M0 a) u r))) t, prv (fun u => .lst (Mat n fun r => gF w o (MT w o (M0 a) u (r + 1)))) t, prv (fun u => .lst ((List.range n).map fun r => .tup [.lst (Row n (MT w o (M0 a) u r)), .lst (Row n (gF w o (MT w o (M0 a) u r))), .lst (Row n (gF w o (MT w o (M0 a) u (r + 1))))])) t, none, none, none], st⟩ : SS) = some (busy n (MT w o (M0 a) t), (⟨[some (.d (.tup (Row n a))), some (.d (.int w)), some (.d ((D.tup (List.map D.int o)))), some (.d (.int (n : Int))), some (.d (.lst (Mat n (MT w o (M0 a) t)))), some (.own (.lst ((List.range t).map fun u : Nat => D.tup (Row n (gF w o (MT w o (M0 a) u 0)))))), (List.range n).getLast?.map fun k : Nat => .d (.int k), prv (fun u => .lst (Mat n fun r => gF w o (MT w o (M0 a) u r))) t, prv (fun u => .lst (Mat n fun r => gF w o (MT w o (M0 a) u (r + 1)))) t, prv (fun u => .lst ((List.range n).map fun r => .tup [.lst (Row n (MT w o (M0 a) u r)), .lst (Row n (gF w o (MT w o (M0 a) u r))), .lst (Row n (gF w o (MT w o (M0 a) u (r + 1))))])) t, none, none, none], st⟩ : SS)) := by
      intro t
      exact Eq.trans ((f_biT (f_bi1 (f_lcmS (xs := List.range n) (φ := fun r => .lst (Row n (MT w o (M0 a) t r))) ((f_of (f_n rfl) rfl (rfl))) (fun r hr => ⟨_, f_lcB rfl (f_cmp (f_bi1 (f_n rfl) rfl (bi_sumR n _ _ rfl)) (f_c _ _) rfl rfl (co_gt _ _)) rfl, rfl⟩) ((by first | decide | exact Ev.lim5 (by omega) | (simp only [List.length_map, List.length_range, List.length_append, List.length_cons, List.length_nil, row_len]; exact Ev.lim5 (by omega)) | (simp; exact Ev.lim5 (by omega)))) rfl) rfl (bi_anyX rfl)))) rfl
    refine x_whl (fun t => (⟨[some (.d (.tup (Row n a))), some (.d (.int w)), some (.d ((D.tup (List.map D.int o)))), some (.d (.int (n : Int))), some (.own (.lst (Mat n (MT w o (M0 a) t)))), some (.own (.lst ((List.range t).map fun u : Nat => D.tup (Row n (gF w o (MT w o (M0 a) u 0)))))), (List.range n).getLast?.map fun k : Nat => .d (.int k), prv (fun u => .lst (Mat n fun r => gF w o (MT w o (M0 a) u r))) t, prv (fun u => .lst (Mat n fun r => gF w o (MT w o (M0 a) u (r + 1)))) t, prv (fun u => .lst ((List.range n).map fun r => .tup [.lst (Row n (MT w o (M0 a) u r)), .lst (Row n (gF w o (MT w o (M0 a) u r))), .lst (Row n (gF w o (MT w o (M0 a) u (r + 1))))])) t, none, none, none], st⟩ : SS)) T ?_ ((hc T).trans (by rw [he])) hT
    intro t ht
    refine ⟨_, (hc t).trans (by rw [hb t ht]), ?_⟩
    have hp : ((List.range t).map fun t => D.tup (Row n (gF w o (MT w o (M0 a) t 0)))).length < LIM := by
      rw [List.length_map, List.length_range]; exact nlim (by omega)
    refine ok_nx ((xs_cons (x_asg (f_lcmS (xs := List.range n) (φ := fun r => .lst (Row n (MT w o (M0 a) t r))) ((f_of (f_n rfl) rfl (rfl))) (fun r hr => ⟨_, f_lcB rfl (f_callS fn_run_of_goers (f_cons rfl (f_n rfl) rfl (f_cons rfl (f_n rfl) rfl (f_cons rfl (f_n rfl) rfl (f_nil _)))) (v_goers' n _ w o st ho hn) rfl) rfl, rfl⟩) ((by first | decide | exact Ev.lim5 (by omega) | (simp only [List.length_map, List.length_range, List.length_append, List.length_cons, List.length_nil, row_len]; exact Ev.lim5 (by omega)) | (simp; exact Ev.lim5 (by omega)))) rfl) rfl rfl) (xs_cons (x_asg (hcome (MT w o (M0 a) t) _ (hz t) rfl rfl) rfl rfl) (xs_cons (x_asg (f_coll (f_zip (f_cons rfl (f_n rfl) rfl (f_cons rfl (f_n rfl) rfl (f_cons rfl (f_n rfl) rfl (f_nil _)))) ((congrFun (hz3 (MT w o (M0 a) t) (fun r => gF w o (MT w o (M0 a) t r)) (fun r => gF w o (MT w o (M0 a) t (r + 1)))) _).trans rfl)) ((by first | decide | exact Ev.lim5 (by omega) | (simp only [List.length_map, List.length_range, List.length_append, List.length_cons, List.length_nil, row_len]; exact Ev.lim5 (by omega)) | (simp; exact Ev.lim5 (by omega))))) rfl rfl) (xs_cons (x_own (f_lcmS ((f_of (f_n rfl) rfl (rfl))) (fun r hr => ⟨_, f_lcB rfl (f_callS fn_run_of_behind_tick (f_star (f_n rfl) rfl rfl (f_nil _)) (v_behind n _ _ _ st hn) rfl) rfl, rfl⟩) ((by first | decide | exact Ev.lim5 (by omega) | (simp only [List.length_map, List.length_range, List.length_append, List.length_cons, List.length_nil, row_len]; exact Ev.lim5 (by omega)) | (simp; exact Ev.lim5 (by omega)))) rfl) rfl) (xs_cons (x_ex (f_mt (f_n rfl) rfl rfl (f_cons rfl (f_bi1 (f_idx (f_n rfl) (f_c _ _) rfl rfl ((ix_seq _ _).trans (at_map _ _ 0 (by rw [List.length_range]; omega)))) rfl (rfl)) rfl (f_nil _)) rfl rfl ((mt_app _ _ _).trans (if_pos hp)) rfl)) (xs_nil _))))))) ?_
    refine env_cong ?_
    simp only [wipeE_cons, wipeE_nil, backE_cons, backE_nil, backV_at, List.set_cons_succ, List.set_cons_zero, List.range_succ (n := t), List.map_append, List.map_cons, List.map_nil, prv, MT, List.getElem?_cons_succ, List.getElem?_cons_zero]
    rw [List.getElem_range]
    rfl
  have b := xs_cons (n := FUEL) (r := [.ret (.v 5)]) wl (o := some (.ret (.slot 5), (⟨[some (.d (.tup (Row n a))), some (.d (.int w)), some (.d ((D.tup (List.map D.int o)))), some (.d (.int (n : Int))), some (.d (.lst (Mat n (MT w o (M0 a) T)))), some (.own (.lst ((List.range T).map fun u : Nat => D.tup (Row n (gF w o (MT w o (M0 a) u 0)))))), (List.range n).getLast?.map fun k : Nat => .d (.int k), prv (fun u => .lst (Mat n fun r => gF w o (MT w o (M0 a) u r))) T, prv (fun u => .lst (Mat n fun r => gF w o (MT w o (M0 a) u (r + 1)))) T, prv (fun u => .lst ((List.range n).map fun r => .tup [.lst (Row n (MT w o (M0 a) u r)), .lst (Row n (gF w o (MT w o (M0 a) u r))), .lst (Row n (gF w o (MT w o (M0 a) u (r + 1))))])) T, none, none, none], st⟩ : SS))) rfl
  exact run_of ((xs_cons (x_asg (f_bi1 (f_n rfl) rfl (bi_lenR n a _ rfl)) rfl rfl) (xs_cons (x_par (f_lst (f_nil _) (lim_0)) (f_lst (f_nil _) (lim_0)) rfl rfl rfl rfl) (xs_cons (i) (xs_cons (wl) (xs_out (x_ret (f_n rfl)))))))) (exit_own _ _ _ _ rfl) rfl
end K72
end

section
set_option Elab.async false
set_option linter.all false
set_option maxRecDepth 100000
set_option maxHeartbeats 4000000
namespace K72
open Ev
open PySem (Str Operator CmpOp)
structure RunOk (n : Nat) (a : Nat → Int) (w : Int) (o : List Int) (T : Nat) : Prop where
  ho : ∀ f ∈ o, 1 ≤ f ∧ f ≤ n
  h1 : 1 ≤ n
  hn : n ≤ 300
  hb : ∀ t, t < T → busy n (MT w o (M0 a) t) = true
  he : busy n (MT w o (M0 a) T) = false
  hT : T < 1000
  hz : ∀ t c, c < n → gF w o (MT w o (M0 a) t n) c = 0
def Gone (w : Int) (o : List Int) (a : Nat → Int) (t : Nat) : Nat → Int := gF w o (MT w o (M0 a) t 0)
def LastF (w : Int) (o : List Int) (a : Nat → Int) (T : Nat) : Nat → Int := fun c => lastT (fun t => decide (0 < Gone w o a t c)) T
theorem v_run (n : Nat) (a : Nat → Int) (w : Int) (o : List Int) (T : Nat) (st : List SO) (R : RunOk n a w o T) : den_run_of [.tup (Row n a), .int w, (D.tup (List.map D.int o))] st = some (.new (.lst ((List.range T).map fun t => .tup (Row n (Gone w o a t)))), st) := v_run_of n a w o st T R.ho R.h1 R.hn R.hb R.he R.hT R.hz
theorem v_last_of (n : Nat) (a : Nat → Int) (w : Int) (o : List Int) (T : Nat) (st : List SO) (R : RunOk n a w o T) : den_last_of [.tup (Row n a), .int w, (D.tup (List.map D.int o))] st = some (.new (.lst (Row n (LastF w o a T))), st) := by
  have hn := R.hn
  have hT := R.hT
  have hen : ∀ b, enM (.tup (Row n b)) = ret ((List.range n).map fun i : Nat => D.tup [.int (i : Int), .int (b i)]) := by
    intro b
    rw [enM_tup, row_len, if_pos (Ev.lim5 (by omega))]
    unfold Row
    rw [enumD_range]
  have hen2 : enM (.lst ((List.range T).map fun t => .tup (Row n (Gone w o a t)))) = ret ((List.range T).map fun t : Nat => D.tup [.int (t : Int), .tup (Row n (Gone w o a t))]) := by
    rw [enM_lst, List.length_map, List.length_range, if_pos (Ev.lim5 (by omega)), enumD_range]
  obtain ⟨s', e, x4, x5, x6, x7, rfl⟩ := for_rng (Γ := G_23) (m := FUEL) (t := .tup [.v 4, .v 5]) (it := .enum (.call "run_of" [.v 0, .v 1, .v 2])) (body := [.for (.tup [.v 6, .v 7]) (.enum (.v 5)) [.iff (.cmp .Gt (.v 7) (.c (.int 0))) [.asg (.idx (.v 3) (.v 6)) (.bin .Add (.v 4) (.c (.int 1)))] []]])
    (ss := ⟨[some (.d (.tup (Row n a))), some (.d (.int w)), some (.d ((D.tup (List.map D.int o)))), some (.own (.lst (Row n fun _ => 0))), none, none, none, none], st⟩) (n := T)
    (fun t s => ∃ x4 x5 x6 x7, s = ⟨[some (.d (.tup (Row n a))), some (.d (.int w)), some (.d ((D.tup (List.map D.int o)))), some (.own (.lst (Row n (LastF w o a t)))), x4, x5, x6, x7], st⟩)
    ((f_enum (f_callS fn_last_of_run_of (f_cons rfl (f_n rfl) rfl (f_cons rfl (f_n rfl) rfl (f_cons rfl (f_n rfl) rfl (f_nil _)))) (v_run n a w o T st R) rfl) rfl ((congrFun hen2 _).trans rfl)))
    ⟨_, _, _, _, rfl⟩ (by
      rintro t ht _ ⟨x4, x5, x6, x7, rfl⟩
      obtain ⟨s', e, x6, x7, rfl⟩ := for_rng (Γ := G_23) (m := FUEL) (t := .tup [.v 6, .v 7]) (it := .enum (.v 5)) (body := [.iff (.cmp .Gt (.v 7) (.c (.int 0))) [.asg (.idx (.v 3) (.v 6)) (.bin .Add (.v 4) (.c (.int 1)))] []])
        (ss := ⟨[some (.d (.tup (Row n a))), some (.d (.int w)), some (.d ((D.tup (List.map D.int o)))), some (.own (.lst (Row n (LastF w o a t)))), some (.d (.int (t : Int))), some (.d (.tup (Row n (Gone w o a t)))), x6, x7], st⟩) (n := n)
        (fun k s => ∃ x6 x7, s = ⟨[some (.d (.tup (Row n a))), some (.d (.int w)), some (.d ((D.tup (List.map D.int o)))), some (.own (.lst (Row n fun c => if c < k ∧ 0 < Gone w o a t c then (t : Int) + 1 else LastF w o a t c))), some (.d (.int (t : Int))), some (.d (.tup (Row n (Gone w o a t)))), x6, x7], st⟩)
        ((f_enum (f_n rfl) rfl ((congrFun (hen _) _).trans rfl)))
        ⟨x6, x7, by simp⟩ (by
          rintro k hk _ ⟨x6, x7, rfl⟩
          by_cases q : 0 < Gone w o a t k
          · refine ⟨_, _, .nx, rfl, (xs_cons (x_iffT (f_cmpT (f_n rfl) (f_c _ _) rfl rfl (co_gt _ _)) ((decide_eq_true q)) (xs_cons (x_asgA (f_bin (f_n rfl) (f_c _ _) rfl rfl (bo_add _ _)) rfl (x_idx (f_n rfl) (f_n rfl) rfl rfl (ixN_of (by rw [row_len]; exact hk) rfl) rfl)) (xs_nil _))) (xs_nil _)), .inl rfl, some (.d (.int (k : Int))), some (.d (.int (Gone w o a t k))), env_cong ?_⟩
            rw [row_set]
            simp only [List.set_cons_succ, List.set_cons_zero]
            rw [row_ext (a := fun c => if c = k then (t : Int) + 1 else if c < k ∧ 0 < Gone w o a t c then (t : Int) + 1 else LastF w o a t c) (b := fun c => if c < k + 1 ∧ 0 < Gone w o a t c then (t : Int) + 1 else LastF w o a t c)]
            · intro c hc
              by_cases h : c = k
              · subst h; rw [if_pos rfl, if_pos ⟨by omega, q⟩]
              · rw [if_neg h]
                by_cases h2 : c < k ∧ 0 < Gone w o a t c
                · rw [if_pos h2, if_pos ⟨by omega, h2.2⟩]
                · rw [if_neg h2, if_neg (by omega)]
          · refine ⟨_, _, .nx, rfl, (xs_cons (x_iffF (f_cmpT (f_n rfl) (f_c _ _) rfl rfl (co_gt _ _)) ((decide_eq_false q)) (xs_nil _)) (xs_nil _)), .inl rfl, some (.d (.int (k : Int))), some (.d (.int (Gone w o a t k))), env_cong ?_⟩
            simp only [List.set_cons_succ, List.set_cons_zero]
            rw [row_ext (a := fun c => if c < k ∧ 0 < Gone w o a t c then (t : Int) + 1 else LastF w o a t c) (b := fun c => if c < k + 1 ∧ 0 < Gone w o a t c then (t : Int) + 1 else LastF w o a t c)]
            · intro c hc
              by_cases h : c = k
              · subst h; rw [if_neg (by omega), if_neg (by omega)]
              · by_cases h2 : c < k ∧ 0 < Gone w o a t c
                · rw [if_pos h2, if_pos ⟨by omega, h2.2⟩]
                · rw [if_neg h2, if_neg (by omega)])
      refine ⟨_, _, .nx, rfl, (xs_cons (e) (xs_nil _)), .inl rfl, some (.d (.int (t : Int))), some (.d (.tup (Row n (Gone w o a t)))), x6, x7, env_cong ?_⟩
      rw [row_ext (a := fun c => if c < n ∧ 0 < Gone w o a t c then (t : Int) + 1 else LastF w o a t c) (b := LastF w o a (t + 1))]
      intro c hc
      show _ = lastT (fun t => decide (0 < Gone w o a t c)) (t + 1)
      unfold lastT
      by_cases h : 0 < Gone w o a t c
      · rw [if_pos ⟨hc, h⟩, if_pos (decide_eq_true h)]
      · rw [if_neg (by omega), if_neg (by simpa using h)]
        rfl)
  exact run_of ((xs_cons (x_own (f_bin (f_lst (f_cons rfl (f_c _ _) rfl (f_nil _)) (lim_1)) (f_bi1 (f_n rfl) rfl (bi_lenR n a _ rfl)) rfl rfl (bo_repI (by omega))) rfl) (xs_cons (e) (xs_out (x_ret (f_n rfl)))))) (exit_own _ _ _ _ rfl) rfl
end K72
end

section
set_option Elab.async false
set_option linter.all false
set_option maxRecDepth 100000
set_option maxHeartbeats 4000000
namespace K72
open Ev
open PySem (Str Operator CmpOp)
/-! ### orders -/
def one (n : Nat) : List Int := (List.range n).map fun k : Nat => 1 + (k : Int)
def ordF (n : Nat) : Nat → List (List Int)
  | 0 => [[]]
  | k + 1 => (ordF n k).flatMap fun row => ((one n).filter fun f => !row.contains f).map fun f => row ++ [f]
def ORD (n : Nat) : List (List Int) := ordF n n
theorem ord_all : ∀ n, n < 6 → ∀ o ∈ ORD n, o.isPerm (one n) = true := by decide +kernel
theorem ord_perm {n : Nat} (h : n < 6) {o : List Int} (ho : o ∈ ORD n) : o.Perm (one n) := List.isPerm_iff.mp (ord_all n h o ho)
theorem ord_hd : ∀ n, n < 6 → (ORD n).head? = some (one n) := by decide +kernel
def envO (x : Option (Fl × SS)) : List (Option EV) := match x with
  | some (_, ss) => ss.env
  | none => []
theorem orders1 (st : List SO) : den_orders_of [.int 1] st = some (.d (.lst ((ORD 1).map fun o => (D.tup (List.map D.int o)))), st) := run_of (fl := .ret (.d (.lst ((ORD 1).map fun o => (D.tup (List.map D.int o)))))) (ss := ⟨envO (execs G_19 FUEL ir_orders_of (entry N_orders_of [.int 1] st)), st⟩) (by kernel_rfl) (exit_d _ _ _) rfl
theorem orders2 (st : List SO) : den_orders_of [.int 2] st = some (.d (.lst ((ORD 2).map fun o => (D.tup (List.map D.int o)))), st) := run_of (fl := .ret (.d (.lst ((ORD 2).map fun o => (D.tup (List.map D.int o)))))) (ss := ⟨envO (execs G_19 FUEL ir_orders_of (entry N_orders_of [.int 2] st)), st⟩) (by kernel_rfl) (exit_d _ _ _) rfl
theorem orders3 (st : List SO) : den_orders_of [.int 3] st = some (.d (.lst ((ORD 3).map fun o => (D.tup (List.map D.int o)))), st) := run_of (fl := .ret (.d (.lst ((ORD 3).map fun o => (D.tup (List.map D.int o)))))) (ss := ⟨envO (execs G_19 FUEL ir_orders_of (entry N_orders_of [.int 3] st)), st⟩) (by kernel_rfl) (exit_d _ _ _) rfl
theorem orders4 (st : List SO) : den_orders_of [.int 4] st = some (.d (.lst ((ORD 4).map fun o => (D.tup (List.map D.int o)))), st) := run_of (fl := .ret (.d (.lst ((ORD 4).map fun o => (D.tup (List.map D.int o)))))) (ss := ⟨envO (execs G_19 FUEL ir_orders_of (entry N_orders_of [.int 4] st)), st⟩) (by kernel_rfl) (exit_d _ _ _) rfl
theorem orders5 (st : List SO) : den_orders_of [.int 5] st = some (.d (.lst ((ORD 5).map fun o => (D.tup (List.map D.int o)))), st) := run_of (fl := .ret (.d (.lst ((ORD 5).map fun o => (D.tup (List.map D.int o)))))) (ss := ⟨envO (execs G_19 FUEL ir_orders_of (entry N_orders_of [.int 5] st)), st⟩) (by kernel_rfl) (exit_d _ _ _) rfl
theorem v_orders (n : Nat) (st : List SO) (h1 : 1 ≤ n) (h5 : n ≤ 5) : den_orders_of [.int (n : Int)] st = some (.d (.lst ((ORD n).map fun o => (D.tup (List.map D.int o)))), st) := by
  have : n = 1 ∨ n = 2 ∨ n = 3 ∨ n = 4 ∨ n = 5 := by omega
  rcases this with rfl | rfl | rfl | rfl | rfl
  · exact orders1 st
  · exact orders2 st
  · exact orders3 st
  · exact orders4 st
  · exact orders5 st
theorem perm_in {n : Nat} {v : List Int} (hp : v.Perm (one n)) : ∀ a ∈ v, 1 ≤ a ∧ a ≤ (n : Int) := by
  intro a ha
  have := hp.subset ha
  unfold one at this
  rw [List.mem_map] at this
  obtain ⟨k, hk, rfl⟩ := this
  have := List.mem_range.mp hk
  omega
theorem perm_len {n : Nat} {v : List Int} (hp : v.Perm (one n)) : v.length = n := by
  rw [hp.length_eq]; simp [one]
theorem v_is_order (fs v : List Int) (st : List SO) (h5 : fs.length ≤ 300) (hp : v.Perm (one fs.length)) : den_is_order [(D.tup (List.map D.int fs)), (D.tup (List.map D.int v))] st = some (.d (.bl true), st) := by
  have hl := perm_len hp
  have ha := v_are_between v 1 fs.length st (lim5 (by omega))
  rw [all_in (perm_in hp)] at ha
  have hs : biop .sorted [.d ((D.tup (List.map D.int v)))] = some (.new (.lst ((one fs.length).map .int))) := bi_sortedI rfl hp (rng_sorted _ _) (by omega)
  have he : cmpop .Eq (.own (.lst ((one fs.length).map .int))) (.own (.lst ((List.range fs.length).map fun k : Nat => .int (1 + (k : Int))))) = some true := by
    rw [co_eqL1]
    have : ((List.range fs.length).map fun k : Nat => D.int (1 + (k : Int))) = (one fs.length).map .int := by unfold one; rw [List.map_map]; rfl
    rw [this, eqD_L]
    simp
  exact run_of ((xs_out (x_ret (f_and2 (f_callS fn_is_order_are_between (f_cons rfl (f_n rfl) rfl (f_cons rfl (f_c _ _) rfl (f_cons rfl (f_bi1 (f_n rfl) rfl (bi_lenT _ fs)) rfl (f_nil _)))) (ha) rfl) fun hk => (f_cmp (f_bi1 (f_n rfl) rfl (hs)) (f_coll (evI_rng (n := fs.length) (f_c _ _) (f_bin (f_bi1 (f_n rfl) rfl (bi_lenT _ fs)) (f_c _ _) rfl rfl (bo_add _ _)) (by omega) (by omega) (by omega)) ((by first | decide | exact Ev.lim5 (by omega) | (simp only [List.length_map, List.length_range, List.length_append, List.length_cons, List.length_nil, row_len]; exact Ev.lim5 (by omega)) | (simp; exact Ev.lim5 (by omega))))) rfl rfl (he)))))) (exit_d _ _ _) rfl
theorem v_check_order (fs v : List Int) (w : Int) (st : List SO) (H : Ok fs) (W : Wd w) (hp : v.Perm (one fs.length)) : den_check_order [(D.tup (List.map D.int fs)), .int w, (D.tup (List.map D.int v))] st = some (.d .non, st) := by
  have h5 := H.l5
  exact run_of ((xs_cons (x_ex (f_callS fn_check_order_check_stair (f_cons rfl (f_n rfl) rfl (f_cons rfl (f_n rfl) rfl (f_nil _))) (v_check_stair fs w st H W) rfl)) (xs_cons (x_iffF (f_notT (f_callT (f_callS fn_check_order_is_order (f_cons rfl (f_n rfl) rfl (f_cons rfl (f_n rfl) rfl (f_nil _))) (v_is_order fs v st (by omega) hp) rfl))) (rfl) (xs_nil _)) (xs_nil _)))) (exit_nx _ _) rfl
end K72
end

section
set_option Elab.async false
set_option linter.all false
set_option maxRecDepth 100000
set_option maxHeartbeats 4000000
namespace K72
open Ev
open PySem (Str Operator CmpOp)
/-! ### floors by their function -/
abbrev FS (n : Nat) (a : Nat → Int) : List Int := (List.range n).map a
theorem tuFS (n : Nat) (a : Nat → Int) : D.tup (Row n a) = (D.tup (List.map D.int (FS n a))) := by rw [row_ints]
structure OkF (n : Nat) (a : Nat → Int) : Prop where
  lo : ∀ c, c < n → 0 ≤ a c ∧ a c ≤ 50
  l1 : 1 ≤ n
  l5 : n ≤ 5
theorem OkF.ok {n : Nat} {a : Nat → Int} (H : OkF n a) : Ok (FS n a) := by
  refine ⟨?_, by simp; exact H.l1, by simp; exact H.l5⟩
  intro x hx
  obtain ⟨c, hc, rfl⟩ := List.mem_map.mp hx
  exact H.lo c (List.mem_range.mp hc)
variable {n : Nat} {a : Nat → Int} {w : Int}
theorem w_check_stair (st : List SO) (H : OkF n a) (W : Wd w) : den_check_stair [.tup (Row n a), .int w] st = some (.d .non, st) := by
  rw [tuFS]; exact v_check_stair _ _ _ H.ok W
theorem w_check_order (o : List Int) (st : List SO) (H : OkF n a) (W : Wd w) (hp : o.Perm (one n)) : den_check_order [.tup (Row n a), .int w, (D.tup (List.map D.int o))] st = some (.d .non, st) := by
  rw [tuFS]; exact v_check_order _ _ _ _ H.ok W (by simpa using hp)
theorem w_is_order (o : List Int) (st : List SO) (H : OkF n a) (hp : o.Perm (one n)) : den_is_order [.tup (Row n a), (D.tup (List.map D.int o))] st = some (.d (.bl true), st) := by
  have := H.l5
  rw [tuFS]; exact v_is_order _ _ _ (by simp; omega) (by simpa using hp)
def aF (a : Nat → Int) (w : Int) (c : Nat) : Int := if 0 < a c then (c : Int) + up (a c) w else 0
theorem al_row (n : Nat) (a : Nat → Int) (w : Int) : (al (FS n a) w).map D.int = Row n (aF a w) := by
  unfold al Row FS
  apply List.ext_getElem
  · simp
  · intro i h1 h2
    simp [al1, aF]
theorem w_alone_by (st : List SO) (H : OkF n a) (W : Wd w) : den_alone_by [.tup (Row n a), .int w] st = some (.new (.lst (Row n (aF a w))), st) := by
  have := H.l5
  rw [tuFS, v_alone_by _ _ _ (by simp; omega) W, al_row]
theorem w_alone_out (st : List SO) (H : OkF n a) (W : Wd w) : den_alone_out [.tup (Row n a), .int w] st = some (.d (.tup (Row n (aF a w))), st) := by
  rw [tuFS, v_alone_out _ _ _ H.ok W, al_row]
theorem w_out_after (t : Int) (st : List SO) (H : OkF n a) (W : Wd w) (h0 : 0 ≤ t) (h4 : t ≤ 400) : den_out_after [.tup (Row n a), .int w, .int t] st = some (.d (.int (outP (FS n a) w t)), st) := by
  rw [tuFS]; exact v_out_after _ _ _ _ H.ok W h0 h4
theorem w_down_told (st : List SO) (H : OkF n a) (W : Wd w) : ∃ d, den_down_told [.tup (Row n a), .int w] st = some (.d (.tup [.int (least (FS n a) w), d]), st) := by
  rw [tuFS]; exact v_down_told _ _ _ H.ok W
theorem w_widest (t : Int) (st : List SO) (H : OkF n a) (h0 : 0 ≤ t) (h4 : t ≤ 400) : den_widest_need [.tup (Row n a), .int t] st = some (.d (hd (fine (FS n a) t)), st) := by
  rw [tuFS]; exact v_widest _ _ _ H.ok h0 h4
theorem w_check_dues (d : Nat → Int) (st : List SO) (H : OkF n a) (W : Wd w) (hd : ∀ c, c < n → 0 ≤ d c ∧ d c ≤ 400) : den_check_dues [.tup (Row n a), .int w, .tup (Row n d)] st = some (.d .non, st) := by
  have h5 := H.l5
  have ha : den_are_between [.tup (Row n d), .int 0, .int 400] st = some (.d (.bl true), st) := by
    rw [tuFS, v_are_between _ 0 400 st (Ev.lim5 (by simp; omega)), all_in]
    intro x hx
    obtain ⟨c, hc, rfl⟩ := List.mem_map.mp hx
    exact hd c (List.mem_range.mp hc)
  exact run_of ((xs_cons (x_ex (f_callS fn_check_dues_check_stair (f_cons rfl (f_n rfl) rfl (f_cons rfl (f_n rfl) rfl (f_nil _))) (w_check_stair st H W) rfl)) (xs_cons (x_iffF (f_or2T (f_notT (f_callT (f_callS fn_check_dues_are_between (f_cons rfl (f_n rfl) rfl (f_cons rfl (f_c _ _) rfl (f_cons rfl (f_g con_check_dues_MOST_AFTER) rfl (f_nil _)))) (ha) rfl))) fun hk => (f_cmpT (f_bi1 (f_n rfl) rfl (bi_lenR n _ _ rfl)) (f_bi1 (f_n rfl) rfl (bi_lenR n _ _ rfl)) rfl rfl (co_ne _ _))) ((by simp)) (xs_nil _)) (xs_nil _)))) (exit_nx _ _) rfl
/-! ### drills -/
variable {o : List Int} {T : Nat}
theorem w_by_order (st : List SO) (H : OkF n a) (W : Wd w) (hp : o.Perm (one n)) (R : RunOk n a w o T) : den_by_order [.tup (Row n a), .int w, (D.tup (List.map D.int o))] st = some (.d (.tup ((List.range T).map fun t => .tup (Row n (Gone w o a t)))), st) :=
  run_of ((xs_cons (x_ex (f_callS fn_by_order_check_order (f_cons rfl (f_n rfl) rfl (f_cons rfl (f_n rfl) rfl (f_cons rfl (f_n rfl) rfl (f_nil _)))) (w_check_order o st H W hp) rfl)) (xs_out (x_ret (f_bi1 (f_callS fn_by_order_run_of (f_cons rfl (f_n rfl) rfl (f_cons rfl (f_n rfl) rfl (f_cons rfl (f_n rfl) rfl (f_nil _)))) (v_run n a w o T st R) rfl) rfl (rfl)))))) (exit_d _ _ _) rfl
theorem w_last_out (st : List SO) (H : OkF n a) (W : Wd w) (hp : o.Perm (one n)) (R : RunOk n a w o T) : den_last_out [.tup (Row n a), .int w, (D.tup (List.map D.int o))] st = some (.d (.tup (Row n (LastF w o a T))), st) :=
  run_of ((xs_cons (x_ex (f_callS fn_last_out_check_order (f_cons rfl (f_n rfl) rfl (f_cons rfl (f_n rfl) rfl (f_cons rfl (f_n rfl) rfl (f_nil _)))) (w_check_order o st H W hp) rfl)) (xs_out (x_ret (f_bi1 (f_callS fn_last_out_last_of (f_cons rfl (f_n rfl) rfl (f_cons rfl (f_n rfl) rfl (f_cons rfl (f_n rfl) rfl (f_nil _)))) (v_last_of n a w o T st R) rfl) rfl (rfl)))))) (exit_d _ _ _) rfl
theorem w_in_time (d : Nat → Int) (st : List SO) (R : RunOk n a w o T) : den_is_in_time [.tup (Row n a), .int w, (D.tup (List.map D.int o)), .tup (Row n d)] st = some (.d (.bl ((List.range n).all fun c => decide (LastF w o a T c ≤ d c))), st) := by
  have hn := R.hn
  have hz : zipM [.lst (Row n (LastF w o a T)), .tup (Row n d)] = ret ((List.range n).map fun c : Nat => D.tup [.int (LastF w o a T c), .int (d c)]) := by
    rw [zp_2]
    show ret (zipD (Row n (LastF w o a T)) (Row n d)) = _
    unfold Row
    rw [zipD_map]
  exact run_of ((xs_out (x_ret (f_bi1 (f_lcmS ((f_zip (f_cons rfl (f_callS fn_is_in_time_last_of (f_cons rfl (f_n rfl) rfl (f_cons rfl (f_n rfl) rfl (f_cons rfl (f_n rfl) rfl (f_nil _)))) (v_last_of n a w o T st R) rfl) rfl (f_cons rfl (f_n rfl) rfl (f_nil _))) ((congrFun hz _).trans rfl))) (fun c hc => ⟨_, f_lcB rfl (f_cmp (f_n rfl) (f_n rfl) rfl rfl (co_le _ _)) rfl, rfl⟩) ((by first | decide | exact Ev.lim5 (by omega) | (simp only [List.length_map, List.length_range, List.length_append, List.length_cons, List.length_nil, row_len]; exact Ev.lim5 (by omega)) | (simp; exact Ev.lim5 (by omega)))) rfl) rfl (bi_allX rfl))))) (exit_d _ _ _) rfl
end K72
end

section
set_option Elab.async false
set_option linter.all false
set_option maxRecDepth 100000
set_option maxHeartbeats 4000000
namespace K72
open Ev
open PySem (Str Operator CmpOp)
variable {n : Nat} {a : Nat → Int} {w : Int} {o : List Int} {T : Nat}
theorem one_ord {n : Nat} (h1 : 1 ≤ n) (h5 : n ≤ 5) : ∃ t, ORD n = one n :: t := by
  have := ord_hd n (by omega)
  cases e : ORD n with
  | nil => rw [e] at this; cases this
  | cons x xs => rw [e] at this; cases this; exact ⟨xs, rfl⟩
theorem w_fine (d : Nat → Int) (st : List SO) (H : OkF n a) (R : RunOk n a w (one n) T) (hd : ∀ c, c < n → LastF w (one n) a T c ≤ d c) : den_fine_order [.tup (Row n a), .int w, .tup (Row n d)] st = some (.d ((D.tup (List.map D.int (one n)))), st) := by
  have hn := R.hn
  obtain ⟨t, ht⟩ := one_ord H.l1 H.l5
  have ho := v_orders n st H.l1 H.l5
  rw [ht, List.map_cons] at ho
  have hi := w_in_time d st R
  have hx : ((List.range n).all fun c => decide (LastF w (one n) a T c ≤ d c)) = true := by
    simpa using hd
  refine run_of (xs_out (for_hd ((f_of (f_callS fn_fine_order_orders_of (f_cons rfl (f_bi1 (f_n rfl) rfl (bi_lenR n _ _ rfl)) rfl (f_nil _)) (ho) rfl) rfl (rfl))) rfl ((xs_out (x_iffT (f_callT (f_callS fn_fine_order_is_in_time (f_cons rfl (f_n rfl) rfl (f_cons rfl (f_n rfl) rfl (f_cons rfl (f_n rfl) rfl (f_cons rfl (f_n rfl) rfl (f_nil _))))) (hi) rfl)) (hx) (xs_out (x_ret (f_n rfl)))))))) (exit_d _ _ _) rfl
theorem w_late (d : Nat → Int) (st : List SO) (H : OkF n a) (W : Wd w) (hd : ∀ c, c < n → aF a w c ≤ d c) : den_late_of [.tup (Row n a), .int w, .tup (Row n d)] st = some (.new (.lst []), st) := by
  have h5 := H.l5
  have hen : enM (.lst (Row n (aF a w))) = ret ((List.range n).map fun i : Nat => D.tup [.int (i : Int), .int (aF a w i)]) := by
    rw [enM_lst, row_len, if_pos (Ev.lim5 (by omega))]
    unfold Row
    rw [enumD_range]
  have e := run_of (n := 3) (fuel := FUEL) (Γ := G_28) (N := N_late_of) (ir := ir_late_of) (ds := [.tup (Row n a), .int w, .tup (Row n d)]) (st := st) ((xs_out (x_ret (f_lcfS ((f_enum (f_callS fn_late_of_alone_by (f_cons rfl (f_n rfl) rfl (f_cons rfl (f_n rfl) rfl (f_nil _))) (w_alone_by st H W) rfl) rfl ((congrFun hen _).trans rfl))) (fun c hc => ⟨_, f_lcF rfl (f_cmpT (f_n rfl) (f_idx (f_n rfl) (f_n rfl) rfl rfl (ix_row rfl (List.mem_range.mp hc) rfl)) rfl rfl (co_gt _ _)) (f_bin (f_n rfl) (f_c _ _) rfl rfl (bo_add _ _)) rfl, rfl⟩) ((by first | decide | exact Ev.lim5 (by omega) | (simp only [List.length_map, List.length_range, List.length_append, List.length_cons, List.length_nil, row_len]; exact Ev.lim5 (by omega)) | (simp; exact Ev.lim5 (by omega)))) rfl)))) (exit_new _ _ _) rfl
  refine Eq.trans e ?_
  rw [List.filter_eq_nil_iff.mpr]
  · rfl
  · intro c hc
    have := hd c (List.mem_range.mp hc)
    simp
    omega
theorem w_told (d : Nat → Int) (st : List SO) (H : OkF n a) (W : Wd w) (R : RunOk n a w (one n) T) (h0 : ∀ c, c < n → 0 ≤ d c ∧ d c ≤ 400) (hl : ∀ c, c < n → aF a w c ≤ d c) (hd : ∀ c, c < n → LastF w (one n) a T c ≤ d c) : den_order_told [.tup (Row n a), .int w, .tup (Row n d)] st = some (.d (.tup [.str "order", (D.tup (List.map D.int (one n)))]), st) :=
  run_of ((xs_cons (x_ex (f_callS fn_order_told_check_dues (f_cons rfl (f_n rfl) rfl (f_cons rfl (f_n rfl) rfl (f_cons rfl (f_n rfl) rfl (f_nil _)))) (w_check_dues d st H W h0) rfl)) (xs_cons (x_asg (f_callS fn_order_told_late_of (f_cons rfl (f_n rfl) rfl (f_cons rfl (f_n rfl) rfl (f_cons rfl (f_n rfl) rfl (f_nil _)))) (w_late d st H W hl) rfl) rfl rfl) (xs_cons (x_iffF (f_cmpT (f_n rfl) (f_lst (f_nil _) (lim_0)) rfl rfl (rfl)) (rfl) (xs_nil _)) (xs_cons (x_asg (f_callS fn_order_told_fine_order (f_cons rfl (f_n rfl) rfl (f_cons rfl (f_n rfl) rfl (f_cons rfl (f_n rfl) rfl (f_nil _)))) (w_fine d st H R hd) rfl) rfl rfl) (xs_out (x_ret (f_iteT (f_cmpT (f_n rfl) (f_c _ _) rfl rfl (co_isnN _)) (rfl) (f_tup (f_cons rfl (f_g con_order_told_ORDER) rfl (f_cons rfl (f_n rfl) rfl (f_nil _))) (lim_2)))))))))) (exit_d _ _ _) rfl
theorem w_shows (d : Nat → Int) (st : List SO) (H : OkF n a) (W : Wd w) (R : RunOk n a w (one n) T) (h0 : ∀ c, c < n → 0 ≤ d c ∧ d c ≤ 400) : den_shows_order [.tup (Row n a), .int w, .tup (Row n d), .tup [.str "order", (D.tup (List.map D.int (one n)))]] st = some (.d (.bl ((List.range n).all fun c => decide (LastF w (one n) a T c ≤ d c))), st) :=
  run_of ((xs_cons (x_ex (f_callS fn_shows_order_check_dues (f_cons rfl (f_n rfl) rfl (f_cons rfl (f_n rfl) rfl (f_cons rfl (f_n rfl) rfl (f_nil _)))) (w_check_dues d st H W h0) rfl)) (xs_cons (x_iffF (f_or2T (f_notT (f_biT (f_bi1 (f_n rfl) rfl rfl))) fun hk => (f_or2T (f_cmpT (f_bi1 (f_n rfl) rfl (rfl)) (f_tup (f_cons rfl (f_c _ _) rfl (f_cons rfl (f_c _ _) rfl (f_nil _))) (lim_2)) rfl rfl (rfl)) fun hk => (f_notT (f_biT (f_bi1 (f_idx (f_n rfl) (f_c _ _) rfl rfl (rfl)) rfl rfl))))) (rfl) (xs_nil _)) (xs_cons (x_iffF (f_cmpT (f_bi1 (f_n rfl) rfl (rfl)) (f_c _ _) rfl rfl (co_eq _ _)) (rfl) (xs_nil _)) (xs_out (x_iffT (f_cmpT (f_idx (f_n rfl) (f_c _ _) rfl rfl (rfl)) (f_g con_shows_order_ORDER) rfl rfl ((co_eqs _ _).trans (eqD_str _ _))) ((beq_self_eq_true _)) (xs_out (x_ret (f_and2 (f_callS fn_shows_order_is_order (f_cons rfl (f_n rfl) rfl (f_cons rfl (f_idx (f_n rfl) (f_c _ _) rfl rfl (rfl)) rfl (f_nil _))) (w_is_order _ st H (List.Perm.refl _)) rfl) fun hk => (f_callS fn_shows_order_is_in_time (f_cons rfl (f_n rfl) rfl (f_cons rfl (f_n rfl) rfl (f_cons rfl (f_idx (f_n rfl) (f_c _ _) rfl rfl (rfl)) rfl (f_cons rfl (f_n rfl) rfl (f_nil _))))) (w_in_time d st R) rfl)))))))))) (exit_d _ _ _) rfl
/-! ### who waits -/
def waitF (n : Nat) (a : Nat → Int) (w : Int) (o : List Int) (T : Nat) : Int := mxL ((List.range n).map fun c => LastF w o a T c - aF a w c)
theorem w_wait (st : List SO) (H : OkF n a) (W : Wd w) (R : RunOk n a w o T) : den_wait_of [.tup (Row n a), .int w, (D.tup (List.map D.int o))] st = some (.d (.int (waitF n a w o T)), st) := by
  have h5 := H.l5
  have h1 := H.l1
  have hz : zipM [.lst (Row n (LastF w o a T)), .lst (Row n (aF a w))] = ret ((List.range n).map fun c : Nat => D.tup [.int (LastF w o a T c), .int (aF a w c)]) := by
    rw [zp_2]
    show ret (zipD (Row n (LastF w o a T)) (Row n (aF a w))) = _
    unfold Row
    rw [zipD_map]
  have hm : biop .max [.own (.lst ((List.range n).map fun c => .int (LastF w o a T c - aF a w c)))] = some (.d (.int (waitF n a w o T))) := bi_maxL _ _ (by show some _ = some _; rw [List.map_map]; rfl) (by simp; omega)
  exact run_of ((xs_cons (x_asg (f_coll (f_zip (f_cons rfl (f_callS fn_wait_of_last_of (f_cons rfl (f_n rfl) rfl (f_cons rfl (f_n rfl) rfl (f_cons rfl (f_n rfl) rfl (f_nil _)))) (v_last_of n a w o T st R) rfl) rfl (f_cons rfl (f_callS fn_wait_of_alone_by (f_cons rfl (f_n rfl) rfl (f_cons rfl (f_n rfl) rfl (f_nil _))) (w_alone_by st H W) rfl) rfl (f_nil _))) ((congrFun hz _).trans rfl)) ((by first | decide | exact Ev.lim5 (by omega) | (simp only [List.length_map, List.length_range, List.length_append, List.length_cons, List.length_nil, row_len]; exact Ev.lim5 (by omega)) | (simp; exact Ev.lim5 (by omega))))) rfl rfl) (xs_out (x_ret (f_bi1 (f_lcmS ((f_of (f_n rfl) rfl (rfl))) (fun c hc => ⟨_, f_lcB rfl (f_bin (f_n rfl) (f_n rfl) rfl rfl (bo_sub _ _)) rfl, rfl⟩) ((by first | decide | exact Ev.lim5 (by omega) | (simp only [List.length_map, List.length_range, List.length_append, List.length_cons, List.length_nil, row_len]; exact Ev.lim5 (by omega)) | (simp; exact Ev.lim5 (by omega)))) rfl) rfl (hm)))))) (exit_d _ _ _) rfl
theorem ord_len : ∀ n, n < 6 → (ORD n).length ≤ 120 := by decide +kernel
theorem w_least (st : List SO) (H : OkF n a) (W : Wd w) (R : ∀ o ∈ ORD n, RunOk n a w o T) : ∃ o ∈ ORD n, den_least_wait [.tup (Row n a), .int w] st = some (.d (.tup [.int (waitF n a w o T), (D.tup (List.map D.int o))]), st) ∧ ∀ y ∈ ORD n, waitF n a w o T ≤ waitF n a w y T := by
  have h5 := H.l5
  obtain ⟨t, ht⟩ := one_ord H.l1 H.l5
  obtain ⟨q, hq, e, hle⟩ := bi_minP (r := .own (.lst ((ORD n).map fun o => .tup [.int (waitF n a w o T), (D.tup (List.map D.int o))]))) (ps := (ORD n).map fun o => (waitF n a w o T, o)) (by show some _ = some _; rw [List.map_map]; rfl) (by rw [ht]; simp)
  obtain ⟨o, ho, rfl⟩ := List.mem_map.mp hq
  refine ⟨o, ho, ?_, fun y hy => hle _ (List.mem_map_of_mem hy)⟩
  exact run_of ((xs_out (x_ret (f_bi1 (f_lcmS ((f_of (f_callS fn_least_wait_orders_of (f_cons rfl (f_bi1 (f_n rfl) rfl (bi_lenR n _ _ rfl)) rfl (f_nil _)) (v_orders n st H.l1 H.l5) rfl) rfl (rfl))) (fun o ho => ⟨_, f_lcB rfl (f_tup (f_cons rfl (f_callS fn_least_wait_wait_of (f_cons rfl (f_n rfl) rfl (f_cons rfl (f_n rfl) rfl (f_cons rfl (f_n rfl) rfl (f_nil _)))) (w_wait st H W (R o ho)) rfl) rfl (f_cons rfl (f_n rfl) rfl (f_nil _))) (lim_2)) rfl, rfl⟩) (Ev.lim5 (by have := ord_len n (by omega); omega)) rfl) rfl (e))))) (exit_d _ _ _) rfl
theorem w_fairest (st : List SO) (H : OkF n a) (W : Wd w) (R : ∀ o ∈ ORD n, RunOk n a w o T) : ∃ o ∈ ORD n, den_fairest [.tup (Row n a), .int w] st = some (.d (.tup [.int (waitF n a w o T), (D.tup (List.map D.int o))]), st) ∧ ∀ y ∈ ORD n, waitF n a w o T ≤ waitF n a w y T := by
  obtain ⟨o, ho, e, hle⟩ := w_least st H W R
  exact ⟨o, ho, run_of ((xs_cons (x_ex (f_callS fn_fairest_check_stair (f_cons rfl (f_n rfl) rfl (f_cons rfl (f_n rfl) rfl (f_nil _))) (w_check_stair st H W) rfl)) (xs_out (x_ret (f_callS fn_fairest_least_wait (f_cons rfl (f_n rfl) rfl (f_cons rfl (f_n rfl) rfl (f_nil _))) (e) rfl))))) (exit_d _ _ _) rfl, hle⟩
end K72
end

section
set_option Elab.async false
set_option linter.all false
set_option maxRecDepth 100000
set_option maxHeartbeats 4000000
namespace K72
open Ev
/-! ## the plain law -/
/-! ### those ahead first -/
def sm (a : Nat → Int) (p : List Nat) : Int := (p.map a).sum
theorem sm_nil (a : Nat → Int) : sm a [] = 0 := rfl
theorem sm_cons (a : Nat → Int) (j : Nat) (p : List Nat) : sm a (j :: p) = a j + sm a p := by simp [sm]
theorem sm_app (a : Nat → Int) (p q : List Nat) : sm a (p ++ q) = sm a p + sm a q := by simp [sm, List.sum_append_int]
theorem sm_cong {a b : Nat → Int} {p : List Nat} (h : ∀ c ∈ p, a c = b c) : sm a p = sm b p := by
  unfold sm; rw [List.map_congr_left h]
theorem sm_nn {a : Nat → Int} {p : List Nat} (h : ∀ c ∈ p, 0 ≤ a c) : 0 ≤ sm a p := by
  induction p with
  | nil => simp [sm]
  | cons j p ih =>
    rw [sm_cons]
    have := h j List.mem_cons_self
    have := ih fun c hc => h c (List.mem_cons_of_mem _ hc)
    omega
theorem sm_perm {a : Nat → Int} {p q : List Nat} (h : p.Perm q) : sm a p = sm a q := by
  induction h with
  | nil => rfl
  | cons x _ ih => rw [sm_cons, sm_cons, ih]
  | swap x y l => simp only [sm_cons]; omega
  | trans _ _ h1 h2 => rw [h1, h2]
def gsF (a : Nat → Int) (s : (Nat → Int) × Int) (p : List Nat) : (Nat → Int) × Int := p.foldl (fun s j => (fun c => if c = j then min s.2 (a j) else s.1 c, s.2 - min s.2 (a j))) s
theorem gsF_ok (a : Nat → Int) : ∀ (p : List Nat) (s : (Nat → Int) × Int), p.Nodup → (∀ c ∈ p, 0 ≤ a c) → 0 ≤ s.2 →
    (gsF a s p).2 = s.2 - min s.2 (sm a p) ∧ sm (gsF a s p).1 p = min s.2 (sm a p) ∧ (∀ c, c ∉ p → (gsF a s p).1 c = s.1 c) ∧ (∀ c ∈ p, 0 ≤ (gsF a s p).1 c ∧ (gsF a s p).1 c ≤ a c)
  | [], s, _, _, h => by
    refine ⟨?_, ?_, fun _ _ => rfl, by simp⟩
    · show s.2 = _; rw [sm_nil]; omega
    · rw [sm_nil, sm_nil]; omega
  | j :: p, s, hn, ha, h => by
    have hj := ha j List.mem_cons_self
    obtain ⟨hn1, hn2⟩ := List.nodup_cons.mp hn
    have hp : ∀ c ∈ p, 0 ≤ a c := fun c hc => ha c (List.mem_cons_of_mem _ hc)
    have e : gsF a s (j :: p) = gsF a (fun c => if c = j then min s.2 (a j) else s.1 c, s.2 - min s.2 (a j)) p := rfl
    obtain ⟨h1, h2, h3, h4⟩ := gsF_ok a p (fun c => if c = j then min s.2 (a j) else s.1 c, s.2 - min s.2 (a j)) hn2 hp (by show 0 ≤ s.2 - min s.2 (a j); omega)
    rw [← e] at h1 h2 h3 h4
    have hs := sm_nn hp
    have hgj : (gsF a s (j :: p)).1 j = min s.2 (a j) := by rw [h3 j hn1]; simp
    have h1' : (gsF a s (j :: p)).2 = s.2 - min s.2 (a j) - min (s.2 - min s.2 (a j)) (sm a p) := h1
    have h2' : sm (gsF a s (j :: p)).1 p = min (s.2 - min s.2 (a j)) (sm a p) := h2
    refine ⟨?_, ?_, ?_, ?_⟩
    · rw [sm_cons, h1']; omega
    · rw [sm_cons, sm_cons, hgj, h2']; omega
    · intro c hc
      rw [h3 c (fun h => hc (List.mem_cons_of_mem _ h))]
      have : c ≠ j := fun h => hc (h ▸ List.mem_cons_self)
      simp [this]
    · intro c hc
      rcases List.mem_cons.mp hc with rfl | hc
      · rw [hgj]; omega
      · exact h4 c hc
/-- the floors of an order by their places -/
def ix (o : List Int) : List Nat := o.map fun f => (f - 1).toNat
theorem gst_ix (w : Int) (a : Nat → Int) (o : List Int) : gst w a o = gsF a (fun _ => 0, w) (ix o) := by
  unfold gst gsF ix
  rw [List.foldl_map]
theorem gF_pre {w : Int} {a : Nat → Int} {o : List Int} {p q : List Nat} (e : ix o = p ++ q) (hn : (ix o).Nodup) (ha : ∀ c, 0 ≤ a c) (hw : 0 ≤ w) : sm (gF w o a) p = min w (sm a p) := by
  unfold gF
  rw [gst_ix, e]
  rw [e] at hn
  have e2 : gsF a (fun _ => 0, w) (p ++ q) = gsF a (gsF a (fun _ => 0, w) p) q := List.foldl_append
  rw [e2]
  obtain ⟨n1, n2, n3⟩ := List.nodup_append.mp hn
  obtain ⟨h1, h2, _, _⟩ := gsF_ok a p (fun _ => 0, w) n1 (fun c _ => ha c) hw
  have h2' : sm (gsF a (fun _ => 0, w) p).1 p = min w (sm a p) := h2
  have h1' : (gsF a (fun _ => 0, w) p).2 = w - min w (sm a p) := h1
  have hs := sm_nn (a := a) (p := p) fun c _ => ha c
  obtain ⟨_, _, k3, _⟩ := gsF_ok a q (gsF a (fun _ => 0, w) p) n2 (fun c _ => ha c) (by rw [h1']; omega)
  rw [← h2']
  refine sm_cong fun c hc => k3 c fun hq => n3 c hc c hq rfl
theorem gF_bd {w : Int} {a : Nat → Int} {o : List Int} (hn : (ix o).Nodup) (ha : ∀ c, 0 ≤ a c) (hw : 0 ≤ w) (c : Nat) : 0 ≤ gF w o a c ∧ gF w o a c ≤ a c := by
  unfold gF
  rw [gst_ix]
  obtain ⟨_, _, h3, h4⟩ := gsF_ok a (ix o) (fun _ => 0, w) hn (fun c _ => ha c) hw
  by_cases h : c ∈ ix o
  · exact h4 c h
  · rw [h3 c h]; exact ⟨Int.le_refl 0, ha c⟩
/-! ### one row of numbers that goes down -/
def FF (w : Int) : Nat → (Nat → Int) → Int
  | 0, _ => 0
  | t + 1, x => min (FF w t x + w) (x 0 + FF w t fun u => x (u + 1))
def sh (r : Nat) (x : Nat → Int) : Nat → Int := fun u => x (r + u)
theorem FF_sh (w : Int) (t r : Nat) (x : Nat → Int) : FF w (t + 1) (sh r x) = min (FF w t (sh r x) + w) (x r + FF w t (sh (r + 1) x)) := by
  show min _ _ = _
  have : (fun u => sh r x (u + 1)) = sh (r + 1) x := by
    funext u; unfold sh; congr 1; omega
  rw [this]; rfl
theorem FF_nn {w : Int} (hw : 0 ≤ w) : ∀ (t : Nat) (x : Nat → Int), (∀ u, 0 ≤ x u) → 0 ≤ FF w t x
  | 0, _, _ => Int.le_refl 0
  | t + 1, x, h => by
    have h1 := FF_nn hw t x h
    have h2 := FF_nn hw t (fun u => x (u + 1)) fun u => h _
    have h3 := h 0
    show 0 ≤ min _ _
    omega
theorem FF_zero {w : Int} (hw : 0 ≤ w) : ∀ (t : Nat) (x : Nat → Int), (∀ u, x u = 0) → FF w t x = 0
  | 0, _, _ => rfl
  | t + 1, x, h => by
    have h1 := FF_zero hw t x h
    have h2 := FF_zero hw t (fun u => x (u + 1)) fun u => h _
    have h3 := h 0
    show min _ _ = _
    rw [h1, h2, h3]; omega
/-- a row after t ticks -/
def XX (w : Int) (x : Nat → Int) : Nat → Nat → Int
  | 0 => x
  | t + 1 => fun r => XX w x t r - min w (XX w x t r) + min w (XX w x t (r + 1))
theorem XX_eq (w : Int) (x : Nat → Int) : ∀ t r, XX w x t r = x r + FF w t (sh (r + 1) x) - FF w t (sh r x)
  | 0, r => by show x r = x r + 0 - 0; omega
  | t + 1, r => by
    show XX w x t r - min w (XX w x t r) + min w (XX w x t (r + 1)) = _
    rw [XX_eq w x t r, XX_eq w x t (r + 1), FF_sh, FF_sh]
    omega
theorem XX_go (w : Int) (x : Nat → Int) (t r : Nat) : min w (XX w x t r) = FF w (t + 1) (sh r x) - FF w t (sh r x) := by
  rw [XX_eq, FF_sh]; omega
def pre (x : Nat → Int) (k : Nat) : Int := ((List.range k).map x).sum
theorem pre_succ (x : Nat → Int) (k : Nat) : pre x (k + 1) = pre x k + x k := by
  unfold pre; rw [List.range_succ, List.map_append, List.sum_append_int]; simp
theorem pre_zero (x : Nat → Int) : pre x 0 = 0 := rfl
theorem pre_head (x : Nat → Int) : ∀ k, pre x (k + 1) = x 0 + pre (fun u => x (u + 1)) k
  | 0 => by rw [pre_succ, pre_zero, pre_zero]; omega
  | k + 1 => by rw [pre_succ, pre_head x k, pre_succ]; omega
def mm (w : Int) (t k : Nat) : Int := w * max 0 ((t : Int) - (k : Int))
theorem mm_z (w : Int) (k : Nat) : mm w 0 k = 0 := by
  unfold mm; rw [show max 0 (((0 : Nat) : Int) - (k : Int)) = 0 by omega, Int.mul_zero]
theorem mm_s (w : Int) (t k : Nat) : mm w (t + 1) (k + 1) = mm w t k := by
  unfold mm; congr 1; omega
theorem mm_0 (w : Int) (t : Nat) : mm w (t + 1) 0 = mm w t 0 + w := by
  unfold mm
  rw [show max 0 (((t + 1 : Nat) : Int) - ((0 : Nat) : Int)) = max 0 ((t : Int) - ((0 : Nat) : Int)) + 1 by omega, Int.mul_add, Int.mul_one]
theorem mm_le {w : Int} (hw : 0 ≤ w) (t k : Nat) : mm w (t + 1) k ≤ mm w t k + w := by
  unfold mm
  have : max 0 (((t + 1 : Nat) : Int) - (k : Int)) ≤ max 0 ((t : Int) - (k : Int)) + 1 := by omega
  have := Int.mul_le_mul_of_nonneg_left this hw
  rw [Int.mul_add, Int.mul_one] at this
  exact this
theorem mm_nn {w : Int} (hw : 0 ≤ w) (t k : Nat) : 0 ≤ mm w t k := Int.mul_nonneg hw (by omega)
theorem le_FF {w : Int} (hw : 0 ≤ w) : ∀ (t : Nat) (x : Nat → Int) (b : Int), (∀ u, 0 ≤ x u) → (b ≤ FF w t x ↔ ∀ k, b ≤ pre x k + mm w t k)
  | 0, x, b, hx => by
    constructor
    · intro h k
      rw [mm_z]
      have : 0 ≤ pre x k := sm_nn (a := x) (p := List.range k) fun c _ => hx c
      have h : b ≤ 0 := h
      omega
    · intro h
      have := h 0
      rw [mm_z, pre_zero] at this
      exact this
  | t + 1, x, b, hx => by
    have i1 := le_FF hw t x (b - w) hx
    have i2 := le_FF hw t (fun u => x (u + 1)) (b - x 0) fun u => hx _
    have e : b ≤ FF w (t + 1) x ↔ b - w ≤ FF w t x ∧ b - x 0 ≤ FF w t fun u => x (u + 1) := by
      show b ≤ min _ _ ↔ _
      omega
    rw [e, i1, i2]
    constructor
    · rintro ⟨h1, h2⟩ k
      cases k with
      | zero =>
        have := h1 0
        rw [mm_0]; omega
      | succ k =>
        have := h2 k
        rw [mm_s, pre_head]; omega
    · intro h
      refine ⟨fun k => ?_, fun k => ?_⟩
      · have := h k
        have := mm_le hw t k
        omega
      · have := h (k + 1)
        rw [mm_s, pre_head] at this; omega
theorem pre_beyond {x : Nat → Int} {n : Nat} (hz : ∀ u, n ≤ u → x u = 0) : ∀ d, pre x (n + d) = pre x n
  | 0 => rfl
  | d + 1 => by rw [← Nat.add_assoc, pre_succ, pre_beyond hz d, hz _ (by omega)]; omega
theorem le_FFn {w : Int} (hw : 0 ≤ w) {n : Nat} {x : Nat → Int} (hx : ∀ u, 0 ≤ x u) (hz : ∀ u, n ≤ u → x u = 0) (t : Nat) (b : Int) : b ≤ FF w t x ↔ b ≤ pre x n ∧ ∀ k, k < n → b ≤ pre x k + mm w t k := by
  rw [le_FF hw t x b hx]
  constructor
  · intro h
    refine ⟨?_, fun k _ => h k⟩
    have := h (n + t)
    rw [pre_beyond hz] at this
    have e : mm w t (n + t) = 0 := by
      unfold mm; rw [show max 0 ((t : Int) - ((n + t : Nat) : Int)) = 0 by omega, Int.mul_zero]
    omega
  · rintro ⟨h1, h2⟩ k
    by_cases hk : k < n
    · exact h2 k hk
    · obtain ⟨d, rfl⟩ : ∃ d, k = n + d := ⟨k - n, by omega⟩
      rw [pre_beyond hz]
      have := mm_nn hw t (n + d)
      omega
end K72
end

section
set_option Elab.async false
set_option linter.all false
set_option maxRecDepth 100000
set_option maxHeartbeats 4000000
namespace K72
open Ev
/-! ### sums of beginnings and ends -/
theorem FS_len (n : Nat) (x : Nat → Int) : (FS n x).length = n := by simp
theorem FS_sum (n : Nat) (x : Nat → Int) : (FS n x).sum = pre x n := rfl
theorem FS_take {n k : Nat} (h : k ≤ n) (x : Nat → Int) : ((FS n x).take k).sum = pre x k := by
  unfold FS pre
  rw [← List.map_take, List.take_range, Nat.min_eq_left h]
theorem FS_drop {n k : Nat} (h : k ≤ n) (x : Nat → Int) : ((FS n x).drop k).sum = pre x n - pre x k := by
  have e : (FS n x).sum = ((FS n x).take k).sum + ((FS n x).drop k).sum := by
    rw [← List.sum_append_int, List.take_append_drop]
  rw [FS_take h, FS_sum] at e
  omega
theorem outP_eq {w : Int} (hw : 0 ≤ w) {n : Nat} {x : Nat → Int} (hx : ∀ u, 0 ≤ x u) (hz : ∀ u, n ≤ u → x u = 0) (t : Nat) : outP (FS n x) w (t : Int) = FF w t x := by
  refine eq_of_ge fun b => ?_
  unfold outP
  rw [le_mnL (by simp), le_FFn hw hx hz, FS_len]
  simp only [List.mem_cons, List.mem_map, List.mem_range, forall_eq_or_imp]
  constructor
  · rintro ⟨h1, h2⟩
    refine ⟨h1, fun k hk => ?_⟩
    have := h2 _ ⟨k, by omega, rfl⟩
    unfold bd at this
    rw [FS_take (by omega)] at this
    exact this
  · rintro ⟨h1, h2⟩
    refine ⟨h1, ?_⟩
    rintro _ ⟨k, hk, rfl⟩
    unfold bd
    rw [FS_take (by omega)]
    by_cases h : k < n
    · exact h2 k h
    · have : k = n := by omega
      subst this
      have := mm_nn hw t k
      unfold mm at this
      omega
theorem up_le {s w m : Int} (hw : 0 < w) : up s w ≤ m ↔ s ≤ w * m := by
  unfold up
  rw [Int.ediv_le_iff_le_mul hw, Int.mul_comm]
  omega
theorem nd_le {w : Int} (hw : 0 < w) {n k : Nat} (x : Nat → Int) (t : Nat) (hk : k < n) : nd (FS n x) w k ≤ (t : Int) ↔ pre x n ≤ pre x k + mm w t k := by
  unfold nd
  rw [FS_drop (by omega)]
  by_cases h : 0 < pre x n - pre x k
  · rw [if_pos h]
    have e : (k : Int) + up (pre x n - pre x k) w ≤ (t : Int) ↔ up (pre x n - pre x k) w ≤ (t : Int) - k := by omega
    rw [e, up_le hw]
    unfold mm
    by_cases hkt : (k : Int) ≤ t
    · rw [show max 0 ((t : Int) - (k : Int)) = (t : Int) - k by omega]; omega
    · rw [show max 0 ((t : Int) - (k : Int)) = 0 by omega, Int.mul_zero]
      constructor
      · intro h2
        exfalso
        have : w * ((t : Int) - k) ≤ w * 0 := Int.mul_le_mul_of_nonneg_left (by omega) (by omega)
        rw [Int.mul_zero] at this
        omega
      · intro h2; exfalso; omega
  · rw [if_neg h]
    have := mm_nn (w := w) (by omega) t k
    constructor
    · intro _; omega
    · intro _; omega
theorem FF_le {w : Int} (hw : 0 ≤ w) {n : Nat} {x : Nat → Int} (hx : ∀ u, 0 ≤ x u) (hz : ∀ u, n ≤ u → x u = 0) (t : Nat) : FF w t x ≤ pre x n := ((le_FFn hw hx hz t _).mp (Int.le_refl _)).1
theorem all_out {w : Int} (hw : 0 < w) {n : Nat} {x : Nat → Int} (h1 : 1 ≤ n) (hx : ∀ u, 0 ≤ x u) (hz : ∀ u, n ≤ u → x u = 0) (t : Nat) : FF w t x = pre x n ↔ least (FS n x) w ≤ (t : Int) := by
  unfold least
  rw [mxL_le (by simpa using range_ne h1), FS_len]
  have l := FF_le (w := w) (by omega) hx hz t
  have e : FF w t x = pre x n ↔ pre x n ≤ FF w t x := by omega
  rw [e, le_FFn (by omega) hx hz]
  constructor
  · rintro ⟨_, h⟩ y hy
    obtain ⟨k, hk, rfl⟩ := List.mem_map.mp hy
    have hk := List.mem_range.mp hk
    exact (nd_le hw x t hk).mpr (h k hk)
  · intro h
    exact ⟨Int.le_refl _, fun k hk => (nd_le hw x t hk).mp (h _ (List.mem_map_of_mem (List.mem_range.mpr hk)))⟩
theorem least_nn {w : Int} (hw : 0 < w) {n : Nat} {x : Nat → Int} (h1 : 1 ≤ n) : 0 ≤ least (FS n x) w := by
  unfold least
  have hm := mxL_mem (xs := (List.range (FS n x).length).map (nd (FS n x) w)) (by simpa using range_ne h1)
  obtain ⟨k, _, e⟩ := List.mem_map.mp hm
  rw [← e]
  unfold nd
  split
  · rename_i h
    have : ¬ up ((FS n x).drop k).sum w ≤ 0 := by
      rw [up_le hw, Int.mul_zero]; omega
    omega
  · exact Int.le_refl 0
theorem XX_pre {w : Int} (x : Nat → Int) (t : Nat) : ∀ n, pre (XX w x t) n = pre x n + FF w t (sh n x) - FF w t (sh 0 x)
  | 0 => by rw [pre_zero, pre_zero]; omega
  | n + 1 => by rw [pre_succ, XX_pre x t n, pre_succ, XX_eq]; omega
theorem sh_0 (x : Nat → Int) : sh 0 x = x := by funext u; unfold sh; rw [Nat.zero_add]
theorem XX_sum {w : Int} (hw : 0 ≤ w) {n : Nat} {x : Nat → Int} (hz : ∀ u, n ≤ u → x u = 0) (t : Nat) : pre (XX w x t) n = pre x n - FF w t x := by
  rw [XX_pre, sh_0, FF_zero hw t (sh n x) fun u => hz _ (by omega)]; omega
/-! ### the rows of an order -/
theorem ix_one (n : Nat) : ix (one n) = List.range n := by
  unfold ix one
  rw [List.map_map]
  refine Eq.trans (List.map_congr_left (g := id) fun k _ => ?_) (List.map_id _)
  show (1 + (k : Int) - 1).toNat = k
  omega
theorem ix_perm {o : List Int} {n : Nat} (h : o.Perm (one n)) : (ix o).Perm (List.range n) := by
  rw [← ix_one]; exact h.map _
theorem ix_nodup {o : List Int} {n : Nat} (h : o.Perm (one n)) : (ix o).Nodup := (ix_perm h).nodup_iff.mpr List.nodup_range
section
variable {w : Int} {o : List Int} {a : Nat → Int}
theorem M0_nn (ha : ∀ c, 0 ≤ a c) (r c : Nat) : 0 ≤ M0 a r c := by
  unfold M0; split
  · exact ha c
  · exact Int.le_refl 0
theorem MT_nn (hw : 0 ≤ w) (hn : (ix o).Nodup) (ha : ∀ c, 0 ≤ a c) : ∀ t r c, 0 ≤ MT w o (M0 a) t r c
  | 0, r, c => M0_nn ha r c
  | t + 1, r, c => by
    show 0 ≤ MT w o (M0 a) t r c - gF w o (MT w o (M0 a) t r) c + gF w o (MT w o (M0 a) t (r + 1)) c
    have h1 := gF_bd (a := MT w o (M0 a) t r) hn (fun c => MT_nn hw hn ha t r c) hw c
    have h2 := gF_bd (a := MT w o (M0 a) t (r + 1)) hn (fun c => MT_nn hw hn ha t (r + 1) c) hw c
    omega
theorem MT_z (hw : 0 ≤ w) (hn : (ix o).Nodup) (ha : ∀ c, 0 ≤ a c) {n : Nat} (hz : ∀ c, n ≤ c → a c = 0) : ∀ t r c, n ≤ r → MT w o (M0 a) t r c = 0
  | 0, r, c, h => by
    show M0 a r c = 0
    unfold M0; split
    · rename_i e; subst e; exact hz _ h
    · rfl
  | t + 1, r, c, h => by
    show MT w o (M0 a) t r c - gF w o (MT w o (M0 a) t r) c + gF w o (MT w o (M0 a) t (r + 1)) c = 0
    have h1 := gF_bd (a := MT w o (M0 a) t r) hn (fun c => MT_nn hw hn ha t r c) hw c
    have h2 := gF_bd (a := MT w o (M0 a) t (r + 1)) hn (fun c => MT_nn hw hn ha t (r + 1) c) hw c
    have e1 := MT_z hw hn ha hz t r c h
    have e2 := MT_z hw hn ha hz t (r + 1) c (by omega)
    omega
theorem sm_sub (f g h : Nat → Int) : ∀ p : List Nat, sm (fun c => f c - g c + h c) p = sm f p - sm g p + sm h p
  | [] => rfl
  | j :: p => by simp only [sm_cons, sm_sub f g h p]; omega
theorem MT_XX (hw : 0 ≤ w) (hn : (ix o).Nodup) (ha : ∀ c, 0 ≤ a c) {p q : List Nat} (e : ix o = p ++ q) : ∀ t r, sm (MT w o (M0 a) t r) p = XX w (fun r => sm (M0 a r) p) t r
  | 0, r => rfl
  | t + 1, r => by
    show sm (fun c => MT w o (M0 a) t r c - gF w o (MT w o (M0 a) t r) c + gF w o (MT w o (M0 a) t (r + 1)) c) p = _
    rw [sm_sub, gF_pre e hn (fun c => MT_nn hw hn ha t r c) hw, gF_pre e hn (fun c => MT_nn hw hn ha t (r + 1) c) hw, MT_XX hw hn ha e t r, MT_XX hw hn ha e t (r + 1)]
    rfl
theorem sm_M0 (a : Nat → Int) (r : Nat) : ∀ p : List Nat, p.Nodup → sm (M0 a r) p = if r ∈ p then a r else 0
  | [], _ => rfl
  | j :: p, h => by
    obtain ⟨h1, h2⟩ := List.nodup_cons.mp h
    rw [sm_cons, sm_M0 a r p h2]
    unfold M0
    by_cases e : j = r
    · subst e
      rw [if_pos rfl, if_neg h1, if_pos List.mem_cons_self]; omega
    · rw [if_neg e]
      by_cases hp : r ∈ p
      · rw [if_pos hp, if_pos (List.mem_cons_of_mem _ hp)]; omega
      · rw [if_neg hp, if_neg (by simp; exact ⟨fun h => e h.symm, hp⟩)]; rfl
end
structure Big (n : Nat) (a : Nat → Int) (w : Int) : Prop extends OkF n a where
  W : Wd w
  z : ∀ c, n ≤ c → a c = 0
section
variable {n : Nat} {a : Nat → Int} {w : Int} {o : List Int}
theorem Big.nn (B : Big n a w) (c : Nat) : 0 ≤ a c := by
  by_cases h : c < n
  · exact (B.lo c h).1
  · rw [B.z c (by omega)]; exact Int.le_refl 0
theorem Big.w0 (B : Big n a w) : 0 < w := by have := B.W.lo; omega
def TT (n : Nat) (a : Nat → Int) (w : Int) : Nat := (least (FS n a) w).toNat
theorem TT_eq (B : Big n a w) : (TT n a w : Int) = least (FS n a) w := by
  have := least_nn (x := a) B.w0 B.l1
  unfold TT; omega
theorem all_T (B : Big n a w) (t : Nat) : FF w t a = pre a n ↔ TT n a w ≤ t := by
  rw [all_out B.w0 B.l1 B.nn B.z, ← TT_eq B]; omega
theorem row_all (B : Big n a w) (hp : o.Perm (one n)) (t r : Nat) : ((List.range n).map (MT w o (M0 a) t r)).sum = XX w a t r := by
  have hn := ix_nodup hp
  have w0 : 0 ≤ w := by have := B.w0; omega
  have e := MT_XX w0 hn B.nn (p := ix o) (q := []) (by simp) t r
  have e2 : (fun r => sm (M0 a r) (ix o)) = a := by
    funext r
    rw [sm_M0 a r _ hn]
    by_cases h : r < n
    · rw [if_pos ((ix_perm hp).mem_iff.mpr (List.mem_range.mpr h))]
    · rw [if_neg (fun h2 => h (List.mem_range.mp ((ix_perm hp).mem_iff.mp h2))), B.z r (by omega)]
  rw [e2] at e
  rw [← e]
  exact (sm_perm (ix_perm hp)).symm
theorem XX_nn (B : Big n a w) (t r : Nat) : 0 ≤ XX w a t r := by
  have hp : (one n).Perm (one n) := .refl _
  rw [← row_all B hp]
  exact sm_nn (p := List.range n) fun c _ => MT_nn (by have := B.w0; omega) (ix_nodup hp) B.nn t r c
theorem pre_pos {x : Nat → Int} (hx : ∀ u, 0 ≤ x u) : ∀ n, 0 < pre x n ↔ ∃ r, r < n ∧ 0 < x r
  | 0 => by simp [pre_zero]
  | n + 1 => by
    rw [pre_succ]
    have ih := pre_pos hx n
    have h1 : 0 ≤ pre x n := sm_nn (a := x) (p := List.range n) fun c _ => hx c
    have h2 := hx n
    constructor
    · intro h
      by_cases q : 0 < x n
      · exact ⟨n, by omega, q⟩
      · obtain ⟨r, hr, e⟩ := ih.mp (by omega)
        exact ⟨r, by omega, e⟩
    · rintro ⟨r, hr, e⟩
      by_cases q : r = n
      · subst q; omega
      · have := ih.mpr ⟨r, by omega, e⟩
        omega
theorem busy_iff (B : Big n a w) (hp : o.Perm (one n)) (t : Nat) : busy n (MT w o (M0 a) t) = true ↔ t < TT n a w := by
  unfold busy
  rw [List.any_eq_true]
  have e : (∃ r ∈ List.range n, decide (0 < ((List.range n).map (MT w o (M0 a) t r)).sum) = true) ↔ ∃ r, r < n ∧ 0 < XX w a t r := by
    constructor
    · rintro ⟨r, hr, h⟩
      rw [row_all B hp] at h
      exact ⟨r, List.mem_range.mp hr, of_decide_eq_true h⟩
    · rintro ⟨r, hr, h⟩
      exact ⟨r, List.mem_range.mpr hr, by rw [row_all B hp]; exact decide_eq_true h⟩
  rw [e, ← pre_pos (XX_nn B t), XX_sum (by have := B.w0; omega) B.z]
  have h1 := all_T B t
  have h2 := FF_le (w := w) (by have := B.w0; omega) B.nn B.z t
  omega
theorem least_bd (B : Big n a w) : least (FS n a) w ≤ 254 := by
  unfold least
  rw [mxL_le (by simpa using range_ne B.l1), FS_len]
  intro y hy
  obtain ⟨k, hk, rfl⟩ := List.mem_map.mp hy
  have hk := List.mem_range.mp hk
  have h5 := B.l5
  unfold nd
  split
  · rw [FS_drop (by omega)]
    have hm : ∀ m, m ≤ n → pre a m ≤ 50 * m := by
      intro m
      induction m with
      | zero => intro _; simp [pre_zero]
      | succ m ih =>
        intro hm
        rw [pre_succ]
        have := ih (by omega)
        have := (B.lo m (by omega)).2
        omega
    have h0 : 0 ≤ pre a k := sm_nn (a := a) (p := List.range k) fun c _ => B.nn c
    have := hm n (Nat.le_refl _)
    have hu : up (pre a n - pre a k) w ≤ 250 := by
      rw [up_le B.w0]
      have := B.w0
      have : 1 * 250 ≤ w * 250 := Int.mul_le_mul_of_nonneg_right (by omega) (by omega)
      omega
    omega
  · omega
theorem run_ok (B : Big n a w) (hp : o.Perm (one n)) : RunOk n a w o (TT n a w) := by
  have h5 := B.l5
  have hT := least_bd B
  have hTe := TT_eq B
  refine ⟨perm_in hp, B.l1, by omega, fun t ht => (busy_iff B hp t).mpr ht, ?_, by omega, ?_⟩
  · have := busy_iff B hp (TT n a w)
    cases q : busy n (MT w o (M0 a) (TT n a w)) with
    | false => rfl
    | true => have := this.mp q; omega
  · intro t c hc
    have hn := ix_nodup hp
    have w0 : 0 ≤ w := by have := B.w0; omega
    have h1 := gF_bd (a := MT w o (M0 a) t n) hn (fun c => MT_nn w0 hn B.nn t n c) w0 c
    have h2 := MT_z w0 hn B.nn B.z t n c (Nat.le_refl _)
    omega
end
end K72
end

section
set_option Elab.async false
set_option linter.all false
set_option maxRecDepth 100000
set_option maxHeartbeats 4000000
namespace K72
open Ev
/-! ### the last ones, lower floors first -/
theorem lastT_nn (h : Nat → Bool) : ∀ T, 0 ≤ lastT h T
  | 0 => Int.le_refl 0
  | T + 1 => by
    unfold lastT; split
    · omega
    · exact lastT_nn h T
theorem lastT_le (h : Nat → Bool) (b : Nat) : ∀ T, lastT h T ≤ (b : Int) ↔ ∀ t, t < T → h t = true → t + 1 ≤ b
  | 0 => by
    constructor
    · intro _ t ht; omega
    · intro _; show (0 : Int) ≤ b; omega
  | T + 1 => by
    have ih := lastT_le h b T
    unfold lastT
    by_cases q : h T = true
    · rw [if_pos q]
      constructor
      · intro e t ht ht2
        omega
      · intro e
        have := e T (by omega) q
        omega
    · rw [if_neg q, ih]
      constructor
      · intro e t ht ht2
        by_cases r : t = T
        · subst r; exact absurd ht2 q
        · exact e t (by omega) ht2
      · intro e t ht; exact e t (by omega)
theorem nat_eq {x y : Int} (hx : 0 ≤ x) (hy : 0 ≤ y) (h : ∀ b : Nat, x ≤ (b : Int) ↔ y ≤ (b : Int)) : x = y := by
  have h1 := (h y.toNat).mpr (by omega)
  have h2 := (h x.toNat).mp (by omega)
  omega
section
variable {n : Nat} {a : Nat → Int} {w : Int} {o : List Int}
theorem zero_of_pre {x : Nat → Int} (hx : ∀ u, 0 ≤ x u) {n : Nat} (h : pre x n = 0) (r : Nat) (hr : r < n) : x r = 0 := by
  have := (pre_pos hx n).mpr
  have h0 := hx r
  by_cases q : 0 < x r
  · have := this ⟨r, hr, q⟩; omega
  · omega
theorem pre_zero_of {x : Nat → Int} (h : ∀ u, x u = 0) (n : Nat) : pre x n = 0 := by
  induction n with
  | zero => rfl
  | succ n ih => rw [pre_succ, ih, h]; rfl
/-- nobody is left just from the last tick on -/
theorem emp (B : Big n a w) (hp : o.Perm (one n)) (b : Nat) : (∀ k, k < n → ∀ r, MT w o (M0 a) b r k = 0) ↔ TT n a w ≤ b := by
  have w0 : 0 ≤ w := by have := B.w0; omega
  have hn := ix_nodup hp
  constructor
  · intro h
    have hb : ¬ busy n (MT w o (M0 a) b) = true := by
      unfold busy
      rw [List.any_eq_true]
      rintro ⟨r, _, h2⟩
      have h2 := of_decide_eq_true h2
      have e : ((List.range n).map (MT w o (M0 a) b r)).sum = 0 := by
        have : sm (MT w o (M0 a) b r) (List.range n) = sm (fun _ => 0) (List.range n) := sm_cong fun c hc => h c (List.mem_range.mp hc) r
        have e2 : sm (fun _ => 0) (List.range n) = 0 := pre_zero_of (x := fun _ => 0) (fun _ => rfl) n
        exact this.trans e2
      omega
    have := busy_iff B hp b
    by_cases q : b < TT n a w
    · exact absurd (this.mpr q) hb
    · omega
  · intro h k hk r
    by_cases hr : r < n
    · have e := XX_sum w0 B.z b (x := a)
      rw [(all_T B b).mpr h] at e
      have e2 := zero_of_pre (XX_nn B b) (n := n) (by omega) r hr
      rw [← row_all B hp] at e2
      exact zero_of_pre (x := MT w o (M0 a) b r) (fun c => MT_nn w0 hn B.nn b r c) e2 k hk
    · exact MT_z w0 hn B.nn B.z b r k (by omega)
/-- the floors below k -/
def cut (a : Nat → Int) (k : Nat) : Nat → Int := fun r => if r < k then a r else 0
theorem cut_nn (B : Big n a w) (k u : Nat) : 0 ≤ cut a k u := by
  unfold cut; split
  · exact B.nn u
  · exact Int.le_refl 0
theorem cut_z (a : Nat → Int) (k u : Nat) (h : k ≤ u) : cut a k u = 0 := by
  unfold cut; rw [if_neg (by omega)]
theorem rng_split {k n : Nat} (h : k ≤ n) : ∃ q, List.range n = List.range k ++ q := by
  obtain ⟨d, rfl⟩ : ∃ d, n = k + d := ⟨n - k, by omega⟩
  exact ⟨_, List.range_add⟩
theorem P_eq (B : Big n a w) {k : Nat} (hk : k ≤ n) (t r : Nat) : sm (MT w (one n) (M0 a) t r) (List.range k) = XX w (cut a k) t r := by
  obtain ⟨q, hq⟩ := rng_split hk
  have e := MT_XX (by have := B.w0; omega) (ix_nodup (.refl _)) B.nn (o := one n) (p := List.range k) (q := q) (by rw [ix_one, hq]) t r (w := w)
  rw [e]
  have : (fun r => sm (M0 a r) (List.range k)) = cut a k := by
    funext r
    rw [sm_M0 a r _ List.nodup_range]
    unfold cut
    simp
  rw [this]
theorem sm_rng (f : Nat → Int) (k : Nat) : sm f (List.range (k + 1)) = sm f (List.range k) + f k := pre_succ f k
theorem C_eq (B : Big n a w) {k : Nat} (hk : k < n) (t r : Nat) : MT w (one n) (M0 a) t r k = XX w (cut a (k + 1)) t r - XX w (cut a k) t r := by
  rw [← P_eq B (by omega), ← P_eq B (by omega), sm_rng]; omega
theorem g_eq (B : Big n a w) {k : Nat} (hk : k < n) (t r : Nat) : gF w (one n) (MT w (one n) (M0 a) t r) k = min w (XX w (cut a (k + 1)) t r) - min w (XX w (cut a k) t r) := by
  have w0 : 0 ≤ w := by have := B.w0; omega
  have hn := ix_nodup (n := n) (.refl _)
  obtain ⟨q, hq⟩ := rng_split (k := k) (n := n) (by omega)
  obtain ⟨q', hq'⟩ := rng_split (k := k + 1) (n := n) (by omega)
  have e1 := gF_pre (w := w) (a := MT w (one n) (M0 a) t r) (by rw [ix_one, hq]) hn (fun c => MT_nn w0 hn B.nn t r c) w0
  have e2 := gF_pre (w := w) (a := MT w (one n) (M0 a) t r) (by rw [ix_one, hq']) hn (fun c => MT_nn w0 hn B.nn t r c) w0
  rw [P_eq B (by omega)] at e1 e2
  rw [sm_rng] at e2
  omega
def DD (a : Nat → Int) (w : Int) (k t : Nat) : Int := FF w t (cut a (k + 1)) - FF w t (cut a k)
theorem Gone_eq (B : Big n a w) {k : Nat} (hk : k < n) (t : Nat) : Gone w (one n) a t k = DD a w k (t + 1) - DD a w k t := by
  unfold Gone DD
  rw [g_eq B hk, XX_go, XX_go, sh_0, sh_0]; omega
theorem Gone_nn (B : Big n a w) (t k : Nat) : 0 ≤ Gone w (one n) a t k := by
  have w0 : 0 ≤ w := by have := B.w0; omega
  have hn := ix_nodup (n := n) (.refl _)
  exact (gF_bd (a := MT w (one n) (M0 a) t 0) hn (fun c => MT_nn w0 hn B.nn t 0 c) w0 k).1
theorem pre_cut (a : Nat → Int) {k n : Nat} (h : k ≤ n) : pre (cut a k) n = pre a k := by
  obtain ⟨d, rfl⟩ : ∃ d, n = k + d := ⟨n - k, by omega⟩
  rw [pre_beyond (cut_z a k)]
  exact sm_cong fun c hc => by unfold cut; rw [if_pos (List.mem_range.mp hc)]
theorem pre_sub (f g : Nat → Int) : ∀ n, pre (fun u => f u - g u) n = pre f n - pre g n
  | 0 => rfl
  | n + 1 => by simp only [pre_succ, pre_sub f g n]; omega
theorem C_sum (B : Big n a w) {k : Nat} (hk : k < n) (t : Nat) : pre (fun r => MT w (one n) (M0 a) t r k) n = a k - DD a w k t := by
  have w0 : 0 ≤ w := by have := B.w0; omega
  have : (fun r => MT w (one n) (M0 a) t r k) = fun r => XX w (cut a (k + 1)) t r - XX w (cut a k) t r := by
    funext r; exact C_eq B hk t r
  rw [this, pre_sub, XX_sum (x := cut a (k + 1)) w0 fun u hu => cut_z a _ u (by omega), XX_sum (x := cut a k) w0 fun u hu => cut_z a _ u (by omega), pre_cut a (by omega), pre_cut a (by omega), pre_succ]
  unfold DD; omega
theorem D_iff (B : Big n a w) {k : Nat} (hk : k < n) (t : Nat) : DD a w k t = a k ↔ ∀ r, MT w (one n) (M0 a) t r k = 0 := by
  have w0 : 0 ≤ w := by have := B.w0; omega
  have hn := ix_nodup (n := n) (.refl _)
  have e := C_sum B hk t
  constructor
  · intro h r
    by_cases hr : r < n
    · exact zero_of_pre (x := fun r => MT w (one n) (M0 a) t r k) (fun r => MT_nn w0 hn B.nn t r k) (n := n) (by omega) r hr
    · exact MT_z w0 hn B.nn B.z t r k (by omega)
  · intro h
    rw [pre_zero_of h] at e
    omega
theorem D_le (B : Big n a w) {k : Nat} (hk : k < n) (t : Nat) : DD a w k t ≤ a k := by
  have w0 : 0 ≤ w := by have := B.w0; omega
  have hn := ix_nodup (n := n) (.refl _)
  have e := C_sum B hk t
  have : 0 ≤ pre (fun r => MT w (one n) (M0 a) t r k) n := sm_nn (p := List.range n) fun r _ => MT_nn w0 hn B.nn t r k
  omega
theorem D_mono (B : Big n a w) {k : Nat} (hk : k < n) (t : Nat) : ∀ d, DD a w k t ≤ DD a w k (t + d)
  | 0 => Int.le_refl _
  | d + 1 => by
    have := D_mono B hk t d
    have e := Gone_eq B hk (t + d)
    have := Gone_nn B (t + d) k
    rw [← Nat.add_assoc]; omega
theorem last_iff (B : Big n a w) {k : Nat} (hk : k < n) (b : Nat) : LastF w (one n) a (TT n a w) k ≤ (b : Int) ↔ ∀ r, MT w (one n) (M0 a) b r k = 0 := by
  rw [← D_iff B hk]
  unfold LastF
  rw [lastT_le]
  have hT : DD a w k (TT n a w) = a k := (D_iff B hk _).mpr fun r => (emp B (.refl _) _).mpr (Nat.le_refl _) k hk r
  constructor
  · intro h
    by_cases hb : TT n a w ≤ b
    · obtain ⟨d, rfl⟩ : ∃ d, b = TT n a w + d := ⟨b - TT n a w, by omega⟩
      have := D_mono B hk (TT n a w) d
      have := D_le B hk (TT n a w + d)
      omega
    · have key : ∀ d, b + d ≤ TT n a w → DD a w k (b + d) = DD a w k b := by
        intro d
        induction d with
        | zero => intro _; rfl
        | succ d ih =>
          intro hd
          have i := ih (by omega)
          have e := Gone_eq B hk (b + d)
          have g0 := Gone_nn B (b + d) k
          have := h (b + d) (by omega)
          rw [← Nat.add_assoc]
          by_cases q : 0 < Gone w (one n) a (b + d) k
          · have := this (decide_eq_true q); omega
          · omega
      have := key (TT n a w - b) (by omega)
      rw [show b + (TT n a w - b) = TT n a w by omega] at this
      omega
  · intro h t ht h2
    have h2 := of_decide_eq_true h2
    have e := Gone_eq B hk t
    have l := D_le B hk (t + 1)
    by_cases q : t + 1 ≤ b
    · exact q
    · obtain ⟨d, rfl⟩ : ∃ d, t = b + d := ⟨t - b, by omega⟩
      have := D_mono B hk b d
      omega
/-- while some of those below are in, some of k stand no lower -/
theorem inv (B : Big n a w) {k : Nat} (hk : k < n) (ha : 0 < a k) : ∀ t r, 0 < XX w (cut a k) t r → ∃ q, r ≤ q ∧ 0 < MT w (one n) (M0 a) t q k
  | 0, r, h => by
    refine ⟨k, ?_, ?_⟩
    · have h : 0 < cut a k r := h
      unfold cut at h
      by_cases q : r < k
      · omega
      · rw [if_neg q] at h; omega
    · show 0 < M0 a k k
      unfold M0; rw [if_pos rfl]; exact ha
  | t + 1, r, h => by
    have w0 : 0 ≤ w := by have := B.w0; omega
    have hn := ix_nodup (n := n) (.refl _)
    have h : 0 < XX w (cut a k) t r - min w (XX w (cut a k) t r) + min w (XX w (cut a k) t (r + 1)) := h
    have nn := fun r => MT_nn w0 hn B.nn t r k
    have gb := fun r => gF_bd (a := MT w (one n) (M0 a) t r) hn (fun c => MT_nn w0 hn B.nn t r c) w0 k
    have st : ∀ r, MT w (one n) (M0 a) (t + 1) r k = MT w (one n) (M0 a) t r k - gF w (one n) (MT w (one n) (M0 a) t r) k + gF w (one n) (MT w (one n) (M0 a) t (r + 1)) k := fun _ => rfl
    have mv : ∀ q, r < q → 0 < MT w (one n) (M0 a) t q k → ∃ q, r ≤ q ∧ 0 < MT w (one n) (M0 a) (t + 1) q k := by
      intro q hq h0
      have b1 := gb q
      have b2 := gb (q + 1)
      by_cases c : gF w (one n) (MT w (one n) (M0 a) t q) k < MT w (one n) (M0 a) t q k
      · exact ⟨q, by omega, by rw [st]; omega⟩
      · refine ⟨q - 1, by omega, ?_⟩
        have b3 := gb (q - 1)
        have e := st (q - 1)
        rw [show q - 1 + 1 = q by omega] at e
        omega
    by_cases c : 0 < XX w (cut a k) t (r + 1)
    · obtain ⟨q, hq, h0⟩ := inv B hk ha t (r + 1) c
      exact mv q (by omega) h0
    · have hw : w < XX w (cut a k) t r := by omega
      obtain ⟨q, hq, h0⟩ := inv B hk ha t r (by have := B.w0; omega)
      by_cases e : q = r
      · subst e
        have g := g_eq B hk t q
        have cc := C_eq B hk t q
        have n0 := nn q
        have b2 := gb (q + 1)
        exact ⟨q, Nat.le_refl _, by rw [st]; omega⟩
      · exact mv q (by omega) h0
def bF (a : Nat → Int) (w : Int) (k : Nat) : Int := if 0 < a k then least (FS (k + 1) a) w else 0
theorem FS_cut (a : Nat → Int) (k : Nat) : FS k (cut a k) = FS k a := List.map_congr_left fun c hc => by unfold cut; rw [if_pos (List.mem_range.mp hc)]
theorem XXc_nn (B : Big n a w) {k : Nat} (hk : k ≤ n) (t r : Nat) : 0 ≤ XX w (cut a k) t r := by
  rw [← P_eq B hk]
  exact sm_nn fun c _ => MT_nn (by have := B.w0; omega) (ix_nodup (n := n) (.refl _)) B.nn t r c
theorem bF_iff (B : Big n a w) {k : Nat} (hk : k < n) (b : Nat) : bF a w k ≤ (b : Int) ↔ ∀ r, MT w (one n) (M0 a) b r k = 0 := by
  have w0 : 0 ≤ w := by have := B.w0; omega
  have hn := ix_nodup (n := n) (.refl _)
  unfold bF
  by_cases h : 0 < a k
  · rw [if_pos h, ← FS_cut, ← all_out B.w0 (by omega) (cut_nn B (k + 1)) (cut_z a (k + 1)) b]
    have s := XX_sum (w := w) w0 (cut_z a (k + 1)) b
    constructor
    · intro e r
      have z : XX w (cut a (k + 1)) b r = 0 := by
        by_cases hr : r < k + 1
        · exact zero_of_pre (XXc_nn B (by omega) b) (n := k + 1) (by omega) r hr
        · rw [XX_eq, cut_z a _ r (by omega), FF_zero w0 b (sh (r + 1) (cut a (k + 1))) fun u => cut_z a (k + 1) (r + 1 + u) (by omega), FF_zero w0 b (sh r (cut a (k + 1))) fun u => cut_z a (k + 1) (r + u) (by omega)]; rfl
      have c := C_eq B hk b r
      have n1 := XXc_nn B (k := k) (by omega) b r
      have n2 := MT_nn w0 hn B.nn b r k
      omega
    · intro e
      have z : ∀ r, XX w (cut a (k + 1)) b r = 0 := by
        intro r
        have c := C_eq B hk b r
        have n1 := XXc_nn B (k := k) (by omega) b r
        have i := inv B hk h b r
        by_cases q : 0 < XX w (cut a k) b r
        · obtain ⟨q, _, h0⟩ := i q
          have := e q
          omega
        · have := e r
          omega
      rw [pre_zero_of z] at s
      omega
  · rw [if_neg h]
    have a0 := B.nn k
    constructor
    · intro _
      rw [← D_iff B hk]
      have := D_le B hk b
      have h0 := D_mono B hk 0 b
      have : DD a w k 0 = 0 := rfl
      rw [Nat.zero_add] at h0
      omega
    · intro _; omega
theorem bF_nn (B : Big n a w) (k : Nat) : 0 ≤ bF a w k := by
  unfold bF; split
  · exact least_nn B.w0 (by omega)
  · exact Int.le_refl 0
theorem last_one (B : Big n a w) {k : Nat} (hk : k < n) : LastF w (one n) a (TT n a w) k = bF a w k :=
  nat_eq (lastT_nn _ _) (bF_nn B k) fun b => (last_iff B hk b).trans (bF_iff B hk b).symm
theorem bF_all (B : Big n a w) (b : Nat) : (∀ k, k < n → bF a w k ≤ (b : Int)) ↔ least (FS n a) w ≤ (b : Int) := by
  rw [← TT_eq B]
  have e := emp (o := one n) B (.refl _) b
  constructor
  · intro h
    have := e.mp fun k hk => (bF_iff B hk b).mp (h k hk)
    omega
  · intro h k hk
    exact (bF_iff B hk b).mpr (e.mpr (by omega) k hk)
/-- how many come out at a tick -/
theorem row_sum (B : Big n a w) (hp : o.Perm (one n)) (t : Nat) : ((List.range n).map (Gone w o a t)).sum = FF w (t + 1) a - FF w t a := by
  have w0 : 0 ≤ w := by have := B.w0; omega
  have hn := ix_nodup hp
  have e := gF_pre (w := w) (a := MT w o (M0 a) t 0) (p := ix o) (q := []) (by simp) hn (fun c => MT_nn w0 hn B.nn t 0 c) w0
  rw [sm_perm (ix_perm hp)] at e
  have r := row_all B hp t 0
  have e2 : sm (MT w o (M0 a) t 0) (ix o) = XX w a t 0 := by rw [sm_perm (ix_perm hp)]; exact r
  rw [e2, XX_go, sh_0] at e
  exact e
/-! ### few people, a wide stair -/
theorem sm_eq_all {f g : Nat → Int} : ∀ {p : List Nat}, (∀ c ∈ p, f c ≤ g c) → sm f p = sm g p → ∀ c ∈ p, f c = g c
  | [], _, _ => by simp
  | j :: p, h, e => by
    rw [sm_cons, sm_cons] at e
    have hj := h j List.mem_cons_self
    have hl : ∀ {q : List Nat}, (∀ c ∈ q, f c ≤ g c) → sm f q ≤ sm g q := by
      intro q
      induction q with
      | nil => intro _; exact Int.le_refl _
      | cons i q ih =>
        intro hq
        rw [sm_cons, sm_cons]
        have := hq i List.mem_cons_self
        have := ih fun c hc => hq c (List.mem_cons_of_mem _ hc)
        omega
    have hp := hl fun c hc => h c (List.mem_cons_of_mem _ hc)
    intro c hc
    rcases List.mem_cons.mp hc with rfl | hc
    · omega
    · exact sm_eq_all (fun c hc => h c (List.mem_cons_of_mem _ hc)) (by omega) c hc
theorem g_all {f : Nat → Int} (hw : 0 ≤ w) (hn : (ix o).Nodup) (hf : ∀ c, 0 ≤ f c) (hs : sm f (ix o) ≤ w) : ∀ c ∈ ix o, gF w o f c = f c := by
  refine sm_eq_all (fun c _ => (gF_bd hn hf hw c).2) ?_
  rw [gF_pre (p := ix o) (q := []) (by simp) hn hf hw]
  omega
theorem few_MT (B : Big n a w) (hp : o.Perm (one n)) (ha : ∀ c, a c ≤ w) : ∀ t r c, c < n → MT w o (M0 a) t r c = M0 a (r + t) c
  | 0, r, c, _ => rfl
  | t + 1, r, c, hc => by
    have w0 : 0 ≤ w := by have := B.w0; omega
    have hn := ix_nodup hp
    have hm : ∀ r, sm (MT w o (M0 a) t r) (ix o) ≤ w := by
      intro r
      rw [sm_cong (b := M0 a (r + t)) fun c hc => few_MT B hp ha t r c (List.mem_range.mp ((ix_perm hp).mem_iff.mp hc)), sm_M0 _ _ _ hn]
      split
      · exact ha _
      · exact w0
    have hi : c ∈ ix o := (ix_perm hp).mem_iff.mpr (List.mem_range.mpr hc)
    have g1 := g_all (f := MT w o (M0 a) t r) w0 hn (fun c => MT_nn w0 hn B.nn t r c) (hm r) c hi
    have g2 := g_all (f := MT w o (M0 a) t (r + 1)) w0 hn (fun c => MT_nn w0 hn B.nn t (r + 1) c) (hm (r + 1)) c hi
    have i2 := few_MT B hp ha t (r + 1) c hc
    have st : MT w o (M0 a) (t + 1) r c = MT w o (M0 a) t r c - gF w o (MT w o (M0 a) t r) c + gF w o (MT w o (M0 a) t (r + 1)) c := rfl
    rw [show r + (t + 1) = r + 1 + t by omega, st]
    omega
theorem few_last (B : Big n a 20) (hp : o.Perm (one n)) (ha : ∀ c, a c ≤ 4) {c : Nat} (hc : c < n) : LastF 20 o a (TT n a 20) c = aF a 20 c := by
  have hn := ix_nodup hp
  have G : ∀ t, Gone 20 o a t c = M0 a t c := by
    intro t
    have hm : sm (MT 20 o (M0 a) t 0) (ix o) ≤ 20 := by
      rw [sm_cong (b := M0 a (0 + t)) fun c hc => few_MT B hp (fun c => by have := ha c; omega) t 0 c (List.mem_range.mp ((ix_perm hp).mem_iff.mp hc)), sm_M0 _ _ _ hn]
      split
      · have := ha (0 + t); omega
      · omega
    have := g_all (by omega) hn (fun c => MT_nn (by omega) hn B.nn t 0 c) hm c ((ix_perm hp).mem_iff.mpr (List.mem_range.mpr hc))
    unfold Gone
    rw [this, few_MT B hp (fun c => by have := ha c; omega) t 0 c hc, Nat.zero_add]
  have a0 := B.nn c
  have a4 := ha c
  have e : aF a 20 c = if 0 < a c then (c : Int) + 1 else 0 := by
    unfold aF up
    split
    · omega
    · rfl
  rw [e]
  refine nat_eq (lastT_nn _ _) (by split <;> omega) fun b => ?_
  unfold LastF
  rw [lastT_le]
  have hT : 0 < a c → c < TT n a 20 := by
    intro h
    by_cases q : c < TT n a 20
    · exact q
    · have := (emp B hp c).mpr (by omega) c hc 0
      rw [few_MT B hp (fun c => by have := ha c; omega) c 0 c hc] at this
      unfold M0 at this
      rw [if_pos (by omega)] at this
      omega
  by_cases h : 0 < a c
  · rw [if_pos h]
    constructor
    · intro k
      have := k c (hT h) (decide_eq_true (by rw [G]; unfold M0; rw [if_pos rfl]; exact h))
      omega
    · intro k t ht h2
      have h2 := of_decide_eq_true h2
      rw [G] at h2
      unfold M0 at h2
      by_cases q : c = t
      · subst q; omega
      · rw [if_neg q] at h2; omega
  · rw [if_neg h]
    constructor
    · intro _; omega
    · intro k t ht h2
      have h2 := of_decide_eq_true h2
      rw [G] at h2
      unfold M0 at h2
      by_cases q : c = t
      · subst q; rw [if_pos rfl] at h2; omega
      · rw [if_neg q] at h2; omega
end
end K72
end

section
set_option Elab.async false
set_option linter.all false
set_option maxRecDepth 100000
set_option maxHeartbeats 4000000
namespace K72
open Ev
open PySem (Str Operator CmpOp PyData)
variable {n : Nat} {a : Nat → Int} {w : Int}
/-! ### the law's own reckonings -/
theorem v_law_up (p w : Int) (st : List SO) (h1 : 0 < w) (h2 : w < 1073741824) : den_law_up [.int p, .int w] st = some (.d (.int (up p w)), st) :=
  run_of ((xs_out (x_ret (f_bin (f_bin (f_bin (f_n rfl) (f_n rfl) rfl rfl (bo_add _ _)) (f_c _ _) rfl rfl (bo_sub _ _)) (f_n rfl) rfl rfl (bo_fdP ⟨h1, h2⟩))))) (exit_d _ _ _) rfl
theorem lawOut_eq (hw : 0 ≤ w) (t : Int) : mnL (pre a n :: (List.range n).map fun k => pre a k + w * max 0 (t - k)) = outP (FS n a) w t := by
  refine eq_of_ge fun b => ?_
  unfold outP
  rw [le_mnL (by simp), le_mnL (by simp), FS_len, FS_sum]
  simp only [List.mem_cons, List.mem_map, List.mem_range, forall_eq_or_imp]
  constructor
  · rintro ⟨h1, h2⟩
    refine ⟨h1, ?_⟩
    rintro _ ⟨k, hk, rfl⟩
    unfold bd
    rw [FS_take (by omega)]
    by_cases h : k < n
    · exact h2 _ ⟨k, h, rfl⟩
    · have : k = n := by omega
      subst this
      have : 0 ≤ w * max 0 (t - k) := Int.mul_nonneg hw (by omega)
      omega
  · rintro ⟨h1, h2⟩
    refine ⟨h1, ?_⟩
    rintro _ ⟨k, hk, rfl⟩
    have := h2 _ ⟨k, by omega, rfl⟩
    unfold bd at this
    rwa [FS_take (by omega)] at this
theorem v_law_out (t : Int) (st : List SO) (hn : n ≤ 300) (W : Wd w) : den_law_out [.tup (Row n a), .int w, .int t] st = some (.d (.int (outP (FS n a) w t)), st) := by
  have h1 := W.lo
  have h5 := W.hi
  obtain ⟨s', e, x4, rfl⟩ := for_rng (Γ := G_39) (m := FUEL) (t := .v 4) (it := .range [.bi .len [.v 0]]) (body := [.ex (.mt .append (.v 3) [.bin .Add (.bi .sum [.slc (.v 0) (.na) (.v 4)]) (.bin .Mult (.v 1) (.bi .max [.c (.int 0), .bin .Sub (.v 2) (.v 4)]))])])
    (ss := ⟨[some (.d (.tup (Row n a))), some (.d (.int w)), some (.d (.int t)), some (.own (.lst [.int (pre a n)])), none], st⟩) (n := n)
    (fun k s => ∃ x4, s = ⟨[some (.d (.tup (Row n a))), some (.d (.int w)), some (.d (.int t)), some (.own (.lst (.int (pre a n) :: (List.range k).map fun k : Nat => .int (pre a k + w * max 0 (t - k))))), x4], st⟩)
    ((evI_rangeN (f_bi1 (f_n rfl) rfl (bi_lenR n _ _ rfl)) ((by first | decide | exact Ev.lim5 (by omega) | (simp only [List.length_map, List.length_range, List.length_append, List.length_cons, List.length_nil, row_len]; exact Ev.lim5 (by omega)) | (simp; exact Ev.lim5 (by omega))))))
    ⟨_, rfl⟩ (by
      rintro k hk _ ⟨x4, rfl⟩
      have hp : (D.int (pre a n) :: (List.range k).map fun k : Nat => D.int (pre a k + w * max 0 (t - k))).length < LIM := by
        simp; exact nlim (by omega)
      refine ⟨_, _, .nx, rfl, (xs_cons (x_ex (f_mt (f_n rfl) rfl rfl (f_cons rfl (f_bin (f_bi1 (f_slc (f_n rfl) p_na (p_e rfl (f_n rfl)) rfl (sl_rowT k (by omega) rfl)) rfl (bi_sumR k a _ rfl)) (f_bin (f_n rfl) (f_bi2 (f_c _ _) (f_bin (f_n rfl) (f_n rfl) rfl rfl (bo_sub _ _)) rfl rfl (bi_max2 _ _)) rfl rfl (bo_mulL (by omega))) rfl rfl (bo_add _ _)) rfl (f_nil _)) rfl rfl ((mt_app _ _ _).trans (if_pos hp)) rfl)) (xs_nil _)), .inl rfl, some (.d (.int (k : Int))), env_cong ?_⟩
      rw [List.range_succ, List.map_append]
      rfl)
  have hm : biop .min [.own (.lst (.int (pre a n) :: (List.range n).map fun k : Nat => .int (pre a k + w * max 0 (t - k))))] = some (.d (.int (outP (FS n a) w t))) := by
    rw [← lawOut_eq (by omega)]
    exact bi_minL _ _ (by show some _ = some _; rw [List.map_cons, List.map_map]; rfl) (by simp)
  exact run_of ((xs_cons (x_own (f_lst (f_cons rfl (f_bi1 (f_n rfl) rfl (bi_sumR n a _ rfl)) rfl (f_nil _)) (lim_1)) rfl) (xs_cons (e) (xs_out (x_ret (f_bi1 (f_n rfl) rfl (hm))))))) (exit_d _ _ _) rfl
/-- the law's row of needs, of those that somebody has -/
def ndL (a : Nat → Int) (w : Int) (n : Nat) : List Int := ((List.range n).filter fun k : Nat => decide (0 < pre a n - pre a k)).map fun k : Nat => (k : Int) + up (pre a n - pre a k) w
theorem ndL_max (hw : 0 < w) (h1 : 1 ≤ n) (hn : ndL a w n ≠ []) : mxL (ndL a w n) = least (FS n a) w := by
  have up0 : ∀ k, 0 < pre a n - pre a k → 0 < up (pre a n - pre a k) w := by
    intro k h
    have : ¬ up (pre a n - pre a k) w ≤ 0 := by rw [up_le hw, Int.mul_zero]; omega
    omega
  refine nat_eq ?_ (least_nn hw h1) fun b => ?_
  · have := mxL_mem hn
    unfold ndL at this
    obtain ⟨k, hk, e⟩ := List.mem_map.mp this
    have := up0 k (of_decide_eq_true (List.mem_filter.mp hk).2)
    unfold ndL
    omega
  · rw [mxL_le hn]
    unfold least
    rw [mxL_le (by simpa using range_ne h1), FS_len]
    unfold ndL
    constructor
    · intro h y hy
      obtain ⟨k, hk, rfl⟩ := List.mem_map.mp hy
      have hk' := List.mem_range.mp hk
      unfold nd
      rw [FS_drop (by omega)]
      split
      · rename_i q
        exact h _ (List.mem_map.mpr ⟨k, List.mem_filter.mpr ⟨hk, decide_eq_true q⟩, rfl⟩)
      · omega
    · intro h y hy
      obtain ⟨k, hk, rfl⟩ := List.mem_map.mp hy
      obtain ⟨hk, q⟩ := List.mem_filter.mp hk
      have hk' := List.mem_range.mp hk
      have q := of_decide_eq_true q
      have := h _ (List.mem_map_of_mem hk)
      unfold nd at this
      rwa [FS_drop (by omega), if_pos q] at this
theorem ndL_nil (hw : 0 < w) (h1 : 1 ≤ n) (hn : ndL a w n = []) : least (FS n a) w = 0 := by
  refine nat_eq (least_nn hw h1) (Int.le_refl 0) fun b => ?_
  unfold least
  rw [mxL_le (by simpa using range_ne h1), FS_len]
  constructor
  · intro _; omega
  · intro _ y hy
    obtain ⟨k, hk, rfl⟩ := List.mem_map.mp hy
    have hk' := List.mem_range.mp hk
    unfold nd
    rw [FS_drop (by omega)]
    split
    · rename_i q
      have : (k : Int) + up (pre a n - pre a k) w ∈ ndL a w n := List.mem_map.mpr ⟨k, List.mem_filter.mpr ⟨hk, decide_eq_true q⟩, rfl⟩
      rw [hn] at this; cases this
    · omega
def laF (a : Nat → Int) (w : Int) : Nat → Int
  | 0 => 0
  | k + 1 => max (laF a w k) (bF a w k)
theorem laF_le (B : Big n a w) (b : Nat) : ∀ m, laF a w m ≤ (b : Int) ↔ ∀ k, k < m → bF a w k ≤ (b : Int)
  | 0 => by
    constructor
    · intro _ k hk; omega
    · intro _; show (0 : Int) ≤ b; omega
  | m + 1 => by
    have ih := laF_le B b m
    show max _ _ ≤ _ ↔ _
    constructor
    · intro h k hk
      by_cases q : k = m
      · subst q; omega
      · exact ih.mp (by omega) k (by omega)
    · intro h
      have := ih.mpr fun k hk => h k (by omega)
      have := h m (by omega)
      omega
theorem laF_eq (B : Big n a w) : laF a w n = least (FS n a) w := by
  have nn : ∀ m, 0 ≤ laF a w m := by
    intro m
    induction m with
    | zero => exact Int.le_refl 0
    | succ m ih => show 0 ≤ max _ _; omega
  exact nat_eq (nn n) (least_nn B.w0 B.l1) fun b => (laF_le B b n).trans (bF_all B b)
theorem lc_below (x2 x3 x5 x6 : Option EV) (st : List SO) (k : Nat) (hk : k < 5) (h0 : 0 < w) (h1 : w ≤ 20) : ev G_40 (.lc [8] (.v 8) (.range [.bin .Add (.v 4) (.c (.int 1))]) [.cmp .Gt (.bi .sum [.slc (.v 7) (.v 8) (.na)]) (.c (.int 0))] (.bin .Add (.v 8) (.call "_law_up" [.bi .sum [.slc (.v 7) (.v 8) (.na)], .v 1]))) ⟨[some (.d (.tup (Row n a))), some (.d (.int w)), x2, x3, some (.d (.int (k : Int))), x5, x6, some (.d (.tup (Row (k + 1) a))), none], st⟩ = some (.new (.lst (((List.range (k + 1)).filter fun at_ : Nat => decide (0 < pre a (k + 1) - pre a at_)).map fun at_ : Nat => .int ((at_ : Int) + up (pre a (k + 1) - pre a at_) w))), ⟨[some (.d (.tup (Row n a))), some (.d (.int w)), x2, x3, some (.d (.int (k : Int))), x5, x6, some (.d (.tup (Row (k + 1) a))), none], st⟩) := by
  have hs : ∀ (at_ : Nat), at_ < k + 1 → biop .sum [.d (.tup ((((List.range (k + 1)).map a).drop at_).map .int))] = some (.d (.int (pre a (k + 1) - pre a at_))) := fun at_ h => (bi_sumX rfl).trans (by rw [FS_drop (by omega)])
  refine Eq.trans ((f_lcfS (evI_rng1 (n := k + 1) (f_bin (f_n rfl) (f_c _ _) rfl rfl (bo_add _ _)) (by omega) (by omega)) (fun m hm => ⟨_, f_lcF rfl (f_cmpT (f_bi1 (f_slc (f_n rfl) (p_e rfl (f_n rfl)) p_na rfl (sl_rowD m (by have := List.mem_range.mp hm; omega) rfl)) rfl (hs m (List.mem_range.mp hm))) (f_c _ _) rfl rfl (co_gt _ _)) (f_bin (f_n rfl) (f_callS fn_law_from_below_law_up (f_cons rfl (f_bi1 (f_slc (f_n rfl) (p_e rfl (f_n rfl)) p_na rfl (sl_rowD m (by have := List.mem_range.mp hm; omega) rfl)) rfl (hs m (List.mem_range.mp hm))) rfl (f_cons rfl (f_n rfl) rfl (f_nil _))) (v_law_up _ w st (by omega) (by omega)) rfl) rfl rfl (bo_add _ _)) rfl, rfl⟩) ((by first | decide | exact Ev.lim5 (by omega) | (simp only [List.length_map, List.length_range, List.length_append, List.length_cons, List.length_nil, row_len]; exact Ev.lim5 (by omega)) | (simp; exact Ev.lim5 (by omega)))) rfl)) rfl
theorem v_from_below (st : List SO) (B : Big n a w) : den_law_from_below [.tup (Row n a), .int w] st = some (.d (.tup [.tup (Row n (bF a w)), .int (least (FS n a) w)]), st) := by
  have h5 := B.l5
  have w1 := B.W.lo
  have w2 := B.W.hi
  have hen : enM (.tup (Row n a)) = ret ((List.range n).map fun i : Nat => D.tup [.int (i : Int), .int (a i)]) := by
    rw [enM_tup, row_len, if_pos (Ev.lim5 (by omega))]
    unfold Row
    rw [enumD_range]
  obtain ⟨s', e, x4, x5, x6, x7, rfl⟩ := for_rng (Γ := G_40) (m := FUEL) (t := .tup [.v 4, .v 5]) (it := .enum (.v 0)) (body := [.asg (.v 6) (.c (.int 0)), .iff (.cmp .Gt (.v 5) (.c (.int 0))) [.asg (.v 7) (.slc (.v 0) (.na) (.bin .Add (.v 4) (.c (.int 1)))), .asg (.v 6) (.bi .max [.lc [8] (.v 8) (.range [.bin .Add (.v 4) (.c (.int 1))]) [.cmp .Gt (.bi .sum [.slc (.v 7) (.v 8) (.na)]) (.c (.int 0))] (.bin .Add (.v 8) (.call "_law_up" [.bi .sum [.slc (.v 7) (.v 8) (.na)], .v 1]))])] [], .ex (.mt .append (.v 2) [.v 6]), .asg (.v 3) (.bi .max [.v 3, .v 6])])
    (ss := ⟨[some (.d (.tup (Row n a))), some (.d (.int w)), some (.own (.lst [])), some (.d (.int 0)), none, none, none, none, none], st⟩) (n := n)
    (fun k s => ∃ x4 x5 x6 x7, s = ⟨[some (.d (.tup (Row n a))), some (.d (.int w)), some (.own (.lst (Row k (bF a w)))), some (.d (.int (laF a w k))), x4, x5, x6, x7, none], st⟩)
    ((f_enum (f_n rfl) rfl ((congrFun hen _).trans rfl)))
    ⟨_, _, _, _, rfl⟩ (by
      rintro k hk _ ⟨x4, x5, x6, x7, rfl⟩
      have hp : (Row k (bF a w)).length < LIM := by rw [row_len]; exact nlim (by omega)
      have hr : Row k (bF a w) ++ [.int (bF a w k)] = Row (k + 1) (bF a w) := by
        unfold Row; rw [List.range_succ, List.map_append]; rfl
      by_cases q : 0 < a k
      · have hne : ndL a w (k + 1) ≠ [] := by
          intro h
          have : (k : Int) + up (pre a (k + 1) - pre a k) w ∈ ndL a w (k + 1) := List.mem_map.mpr ⟨k, List.mem_filter.mpr ⟨List.mem_range.mpr (by omega), decide_eq_true (by rw [pre_succ]; omega)⟩, rfl⟩
          rw [h] at this; cases this
        have hb : bF a w k = mxL (ndL a w (k + 1)) := by
          rw [ndL_max B.w0 (by omega) hne]; unfold bF; rw [if_pos q]
        have hm : biop .max [.own (.lst (((List.range (k + 1)).filter fun at_ => decide (0 < pre a (k + 1) - pre a at_)).map fun at_ : Nat => .int ((at_ : Int) + up (pre a (k + 1) - pre a at_) w)))] = some (.d (.int (bF a w k))) := by
          rw [hb]
          exact bi_maxL _ _ (by show some _ = some _; unfold ndL; rw [List.map_map]; rfl) hne
        refine ⟨_, _, .nx, rfl, ok_nx ((xs_cons (x_asg (f_c _ _) rfl rfl) (xs_cons (x_iffT (f_cmpT (f_n rfl) (f_c _ _) rfl rfl (co_gt _ _)) ((decide_eq_true q)) (xs_cons (x_asg (f_slc (f_n rfl) p_na (p_e rfl (f_bin (f_n rfl) (f_c _ _) rfl rfl (bo_add _ _))) rfl (sl_rowT (k + 1) (by omega) (by omega))) rfl rfl) (xs_cons (x_asg (f_bi1 (lc_below _ _ _ _ st k (by omega) (by omega) (by omega)) rfl (hm)) rfl rfl) (xs_nil _)))) (xs_cons (x_ex (f_mt (f_n rfl) rfl rfl (f_cons rfl (f_n rfl) rfl (f_nil _)) rfl rfl ((mt_app _ _ _).trans (if_pos hp)) rfl)) (xs_cons (x_asg (f_bi2 (f_n rfl) (f_n rfl) rfl rfl (bi_max2 _ _)) rfl rfl) (xs_nil _)))))) ?_, .inl rfl, some (.d (.int (k : Int))), some (.d (.int (a k))), some (.d (.int (bF a w k))), some (.d (.tup (Row (k + 1) a))), rfl⟩
        refine env_cong ?_
        rw [← hr]
        rfl
      · have hb : bF a w k = 0 := by unfold bF; rw [if_neg q]
        refine ⟨_, _, .nx, rfl, (xs_cons (x_asg (f_c _ _) rfl rfl) (xs_cons (x_iffF (f_cmpT (f_n rfl) (f_c _ _) rfl rfl (co_gt _ _)) ((decide_eq_false q)) (xs_nil _)) (xs_cons (x_ex (f_mt (f_n rfl) rfl rfl (f_cons rfl (f_n rfl) rfl (f_nil _)) rfl rfl ((mt_app _ _ _).trans (if_pos hp)) rfl)) (xs_cons (x_asg (f_bi2 (f_n rfl) (f_n rfl) rfl rfl (bi_max2 _ _)) rfl rfl) (xs_nil _))))), .inl rfl, some (.d (.int (k : Int))), some (.d (.int (a k))), some (.d (.int 0)), x7, env_cong ?_⟩
        rw [← hr, hb]
        show _ = [_, _, _, some (EV.d (.int (max (laF a w k) (bF a w k)))), _, _, _, _, _]
        rw [hb]
        rfl)
  have ef := run_of ((xs_cons (x_par (f_lst (f_nil _) (lim_0)) (f_c _ _) rfl rfl rfl rfl) (xs_cons (e) (xs_out (x_ret (f_tup (f_cons rfl (f_bi1 (f_n rfl) rfl (rfl)) rfl (f_cons rfl (f_n rfl) rfl (f_nil _))) (lim_2))))))) (exit_d _ _ _) rfl (n := 2) (N := N_law_from_below) (fuel := FUEL) (Γ := G_40) (ir := ir_law_from_below) (ds := [.tup (Row n a), .int w]) (st := st)
  rw [laF_eq B] at ef
  exact ef
end K72
end

section
set_option Elab.async false
set_option linter.all false
set_option maxRecDepth 100000
set_option maxHeartbeats 4000000
namespace Ev
open PySem (Str Operator CmpOp PyData)
section
variable {Γ : Gam} {env : List (Option EV)} {st : List SO}
theorem f_rfget {k : Nat} {ds : List D} {d : D} (h : st[k]? = some (.lst ds)) (hv : env[0]? = some (some (.d (.ref k)))) (j : Int) (hj : atD ds j = some d) : ev Γ (.idx (.v 0) (.c (.int j))) ⟨env, st⟩ = some (.d d, ⟨env, st⟩) :=
  f_idx (f_v hv) (f_c _ _) (by rw [res_ref, h]; rfl) rfl (by rw [ix_seq]; exact hj)
theorem f_rfset {k : Nat} {ds : List D} {d : D} {i : Nat} (h : st[k]? = some (.lst ds)) (hv : env[0]? = some (some (.d (.ref k)))) (j : Int) (hj : L2.ixN ds.length j = some i) : asgT Γ (.idx (.v 0) (.c (.int j))) d ⟨env, st⟩ = some ((), ⟨env, st.set k (.lst (ds.set i d))⟩) := by
  refine x_idx (f_v hv) (f_c _ _) rfl (ds := ds) (j := i) ?_ hj ?_
  · show (match st[k]? with | some so => some (so, (⟨env, st⟩ : SS)) | none => none) = _
    rw [h]
  · show (match st[k]? with | some (.fz _) => none | some _ => some ((), (⟨env, st.set k (.lst (ds.set i d))⟩ : SS)) | none => none) = _
    rw [h]
end
theorem exit_dl {b : Nat} {st : List SO} {env : List (Option EV)} {x : D} (h : b = st.length) : exitF b (.ret (.d x)) ⟨env, st⟩ = some (.d x, st) := by
  subst h; exact exit_d _ _ _
theorem bo_powP {i j : Int} (h : 0 ≤ j ∧ j ≤ 100 ∧ i.natAbs < 2 ^ 1000) : binop .Pow (.d (.int i)) (.d (.int j)) = some (.d (.int (i ^ j.toNat))) := by
  rw [bo_pow, if_pos h]
end Ev
namespace K72
open Ev
open PySem (Str Operator CmpOp PyData)
variable {n : Nat} {a : Nat → Int} {w : Int}
/-! ### drawing -/
def PotOk (N : Nat) (so : SO) : Prop := ∃ p0 p1 p2 : Int, so = .lst [.int p0, .int p1, .int p2] ∧ (0 ≤ p1 ∧ p1 < 2305843009213693921) ∧ 0 ≤ p2 ∧ p2 ≤ N
theorem PotOk.mono {N M : Nat} {so : SO} (h : PotOk N so) (hm : N ≤ M) : PotOk M so := by
  obtain ⟨p0, p1, p2, e, h1, h2, h3⟩ := h
  exact ⟨p0, p1, p2, e, h1, h2, by omega⟩
theorem v_pot (ns : List Int) (p : Int) (st : List SO) (h0 : 0 ≤ p) (h2 : p ≤ 2) : ∃ so, den_law_pot [.lst (ns.map .int), .int p] st = some (.new so, st) ∧ PotOk 0 so := by
  have hc : ∃ c : Int, ev G_34 (.ite (.cmp .Lt (.v 1) (.bi .len [.v 0])) (.idx (.v 0) (.v 1)) (.bin .Add (.bin .Add (.bin .Mod (.bi .int [.bi .sum [.slc (.v 0) (.na) (.c (.int 1))]]) (.c (.int 1000003))) (.bin .Mult (.c (.int 3633)) (.v 1))) (.c (.int 8705)))) ⟨[some (.d (.lst (ns.map .int))), some (.d (.int p)), none, none, none], st⟩ = some (.d (.int c), ⟨[some (.d (.lst (ns.map .int))), some (.d (.int p)), none, none, none], st⟩) := by
    by_cases q : p < ns.length
    · obtain ⟨k, rfl⟩ : ∃ k : Nat, p = k := ⟨p.toNat, by omega⟩
      have hk : k < ns.length := by omega
      exact ⟨ns[k], (f_iteT (f_cmpT (f_n rfl) (f_bi1 (f_n rfl) rfl (bi_lenL _ ns)) rfl rfl (co_lt _ _)) (decide_eq_true q) (f_idx (f_n rfl) (f_n rfl) rfl rfl (ix_at k rfl hk)))⟩
    · have hs : slcop (.d (.lst (ns.map .int))) none (some 1) = some (.new (.lst ((ns.take 1).map .int))) := by
        rw [sl_lst, show (1 : Int) = ((1 : Nat) : Int) from rfl, cut_take]
      exact ⟨_, (f_iteF (f_cmpT (f_n rfl) (f_bi1 (f_n rfl) rfl (bi_lenL _ ns)) rfl rfl (co_lt _ _)) (decide_eq_false q) (f_bin (f_bin (f_bin (f_bi1 (f_bi1 (f_slc (f_n rfl) p_na (p_e rfl (f_c _ _)) rfl (hs)) rfl (bi_sumX rfl)) rfl (bi_int _)) (f_c _ _) rfl rfl (bo_modP (by omega))) (f_bin (f_c _ _) (f_n rfl) rfl rfl (bo_mulL (by omega))) rfl rfl (bo_add _ _)) (f_c _ _) rfl rfl (bo_add _ _)))⟩
  obtain ⟨c, hc⟩ := hc
  refine ⟨_, run_of ((xs_cons (x_asg (hc) rfl rfl) (xs_cons (x_asg (f_bin (f_bin (f_bi1 (f_bi1 (f_n rfl) rfl (bi_abs _)) rfl (bi_int _)) (f_bin (f_bin (f_c _ _) (f_c _ _) rfl rfl (bo_powP (by decide +kernel))) (f_c _ _) rfl rfl (bo_powP (by decide +kernel))) rfl rfl (bo_modP (by decide +kernel))) (f_bi1 (f_cmp (f_bi1 (f_n rfl) rfl (bi_abs _)) (f_bin (f_c _ _) (f_c _ _) rfl rfl (bo_powP (by decide +kernel))) rfl rfl (co_ge _ _)) rfl (bi_intb _)) rfl rfl (bo_mulR (by split <;> omega))) rfl rfl) (xs_cons (x_asg (f_bin (f_bi1 (f_n rfl) rfl (bi_int _)) (f_c _ _) rfl rfl (bo_modP (by omega))) rfl rfl) (xs_out (x_ret (f_lst (f_cons rfl (f_n rfl) rfl (f_cons rfl (f_bin (f_bi1 (f_bin (f_bin (f_bin (f_n rfl) (f_c _ _) rfl rfl (bo_mulR (by omega))) (f_bin (f_bin (f_c _ _) (f_n rfl) rfl rfl (bo_mulL (by omega))) (f_n rfl) rfl rfl (bo_mulR (by omega))) rfl rfl (bo_add _ _)) (f_c _ _) rfl rfl (bo_add _ _)) rfl (bi_int _)) (f_c _ _) rfl rfl (bo_modP (by omega))) rfl (f_cons rfl (f_c _ _) rfl (f_nil _)))) (lim_3)))))))) (exit_new _ _ _) rfl, _, _, _, rfl, ⟨?_, ?_⟩, Int.le_refl 0, Int.le_refl 0⟩
  · exact Int.emod_nonneg _ (by decide)
  · exact Int.emod_lt_of_pos _ (by decide)
theorem v_take (N k : Nat) (u : Int) (so : SO) (st : List SO) (hN : N < 1000) (hu : 1 ≤ u ∧ u ≤ 70) (hs : st[k]? = some so) (hp : PotOk N so) : ∃ d so', den_law_take [.ref k, .int u] st = some (.d (.int d), st.set k so') ∧ (0 ≤ d ∧ d < u) ∧ PotOk (N + 1) so' := by
  obtain ⟨p0, p1, p2, rfl, ⟨h1, h1'⟩, h2, h2'⟩ := hp
  by_cases q : 0 < p0
  · refine ⟨_, _, run_of ((xs_out (x_iffT (f_cmpT (f_rfget hs rfl 0 rfl) (f_c _ _) rfl rfl (co_gt _ _)) (decide_eq_true q) (xs_cons (x_asg (f_bin (f_bi1 (f_rfget hs rfl 0 rfl) rfl (bi_int _)) (f_n rfl) rfl rfl (bo_modP (by omega))) rfl rfl) (xs_cons (x_asgA (f_bin (f_rfget hs rfl 0 rfl) (f_n rfl) rfl rfl (bo_fdP ⟨by omega, by omega⟩)) rfl (f_rfset hs rfl 0 rfl)) (xs_out (x_ret (f_n rfl)))))))) (exit_dl (by simp)) rfl, ⟨?_, ?_⟩, _, _, _, rfl, ⟨h1, h1'⟩, h2, by omega⟩
    · exact Int.emod_nonneg _ (by omega)
    · exact Int.emod_lt_of_pos _ (by omega)
  · have hk : k < st.length := by
      by_cases h : k < st.length
      · exact h
      · rw [List.getElem?_eq_none (by omega)] at hs; cases hs
    have hs2 : (st.set k (.lst [.int p0, .int p1, .int (p2 + 1)]))[k]? = some (.lst [.int p0, .int p1, .int (p2 + 1)]) := by
      rw [List.getElem?_set_self hk]
    have hpr : ∃ pr : Int, idxop (.own (.lst [.int 2147483647, .int 2147483629, .int 2147483587, .int 2147483579])) (.d (.int ((p2 + 1) % 4))) = some (.int pr) ∧ 0 < pr ∧ pr < 2147483648 := by
      have c : (p2 + 1) % 4 = 0 ∨ (p2 + 1) % 4 = 1 ∨ (p2 + 1) % 4 = 2 ∨ (p2 + 1) % 4 = 3 := by omega
      rcases c with e | e | e | e <;> rw [e]
      · exact ⟨2147483647, rfl, by omega⟩
      · exact ⟨2147483629, rfl, by omega⟩
      · exact ⟨2147483587, rfl, by omega⟩
      · exact ⟨2147483579, rfl, by omega⟩
    obtain ⟨pr, hpr, pr0, pr1⟩ := hpr
    have hq0 : 0 ≤ 137649 * (p2 + 1) * (p2 + 1) := Int.mul_nonneg (Int.mul_nonneg (by omega) (by omega)) (by omega)
    have hq1 : 137649 * (p2 + 1) * (p2 + 1) ≤ 137649 * 1000 * 1000 := Int.mul_le_mul (by omega) (by omega) (by omega) (by omega)
    have hpw : (0 : Int) ≤ 3 ∧ (3 : Int) ≤ 100 ∧ (p1 + 137649 * (p2 + 1) * (p2 + 1) + 3733).natAbs < 2 ^ 1000 := by
      refine ⟨by decide, by decide, ?_⟩
      have : (p1 + 137649 * (p2 + 1) * (p2 + 1) + 3733).natAbs < 2 ^ 62 := by omega
      exact Nat.lt_of_lt_of_le this (by decide +kernel)
    have hbl : -18446744073709551616 < (p1 + 137649 * (p2 + 1) * (p2 + 1) + 3733) ^ (3 : Int).toNat % pr ∧ (p1 + 137649 * (p2 + 1) * (p2 + 1) + 3733) ^ (3 : Int).toNat % pr < 18446744073709551616 := by
      have b1 := Int.emod_nonneg ((p1 + 137649 * (p2 + 1) * (p2 + 1) + 3733) ^ (3 : Int).toNat) (b := pr) (by omega)
      have b2 := Int.emod_lt_of_pos ((p1 + 137649 * (p2 + 1) * (p2 + 1) + 3733) ^ (3 : Int).toNat) pr0
      omega
    refine ⟨_, _, run_of ((xs_cons (x_iffF (f_cmpT (f_rfget hs rfl 0 rfl) (f_c _ _) rfl rfl (co_gt _ _)) (decide_eq_false q) (xs_nil _)) (xs_cons (x_asgA (f_bin (f_rfget hs rfl 2 rfl) (f_c _ _) rfl rfl (bo_add _ _)) rfl (f_rfset hs rfl 2 rfl)) ((xs_cons (x_asg (f_idx (f_lst (f_cons rfl (f_c _ _) rfl (f_cons rfl (f_c _ _) rfl (f_cons rfl (f_c _ _) rfl (f_cons rfl (f_c _ _) rfl (f_nil _))))) (lim_4)) (f_bin (f_bi1 (f_rfget hs2 rfl 2 rfl) rfl (bi_int _)) (f_c _ _) rfl rfl (bo_modP (by omega))) rfl rfl (hpr)) rfl rfl) (xs_cons (x_asg (f_bin (f_bi1 (f_bin (f_bi1 (f_bin (f_bin (f_rfget hs2 rfl 1 rfl) (f_bin (f_bin (f_c _ _) (f_rfget hs2 rfl 2 rfl) rfl rfl (bo_mulL (by omega))) (f_rfget hs2 rfl 2 rfl) rfl rfl (bo_mulR (by omega))) rfl rfl (bo_add _ _)) (f_c _ _) rfl rfl (bo_add _ _)) rfl (bi_int _)) (f_c _ _) rfl rfl (bo_powP hpw)) rfl (bi_int _)) (f_n rfl) rfl rfl (bo_modP (by omega))) rfl rfl) (xs_out (x_ret (f_bin (f_bi1 (f_bin (f_bin (f_n rfl) (f_bin (f_bin (f_bi1 (f_n rfl) rfl (bi_int _)) (f_c _ _) rfl rfl (bo_modP (by omega))) (f_bin (f_c _ _) (f_rfget hs2 rfl 2 rfl) rfl rfl (bo_mulL (by omega))) rfl rfl (bo_add _ _)) rfl rfl (bo_mulL hbl)) (f_c _ _) rfl rfl (bo_fdP (by omega))) rfl (bi_int _)) (f_n rfl) rfl rfl (bo_modP (by omega))))))))))) (exit_dl (by simp)) rfl, ⟨?_, ?_⟩, _, _, _, rfl, ⟨h1, h1'⟩, by omega, by omega⟩
    · exact Int.emod_nonneg _ (by omega)
    · exact Int.emod_lt_of_pos _ (by omega)
theorem v_of (N k : Nat) (xs : List Int) (so : SO) (st : List SO) (hN : N < 1000) (hl : 1 ≤ xs.length ∧ xs.length ≤ 70) (hs : st[k]? = some so) (hp : PotOk N so) : ∃ x so', den_law_of [.ref k, .lst (xs.map .int)] st = some (.d (.int x), st.set k so') ∧ x ∈ xs ∧ PotOk (N + 1) so' := by
  obtain ⟨d, so', e, ⟨d0, d1⟩, hp'⟩ := v_take N k xs.length so st hN (by omega) hs hp
  obtain ⟨j, rfl⟩ : ∃ j : Nat, d = j := ⟨d.toNat, by omega⟩
  have hj : j < xs.length := by omega
  exact ⟨xs[j], so', run_of ((xs_out (x_ret (f_idx (f_n rfl) (f_callS fn_law_of_law_take (f_cons rfl (f_n rfl) rfl (f_cons rfl (f_bi1 (f_n rfl) rfl (bi_lenL _ xs)) rfl (f_nil _))) (e) rfl) rfl rfl (ix_at j rfl hj))))) (exit_dl (by simp)) rfl, List.getElem_mem hj, hp'⟩
theorem v_cells (ns : List Int) (st : List SO) : ∃ m : Nat, 1 ≤ m ∧ m ≤ 3 ∧ den_law_cells [.lst (ns.map .int), .int 3] st = some (.new (.lst ((List.range m).map fun k : Nat => .int (k : Int))), st) := by
  refine ⟨(max 1 (min 3 (ns.length : Int))).toNat, by omega, by omega, ?_⟩
  exact run_of ((xs_out (x_ret (f_coll (evI_rng1 (n := (max 1 (min 3 (ns.length : Int))).toNat) (f_bi2 (f_c _ _) (f_bi2 (f_n rfl) (f_bi1 (f_n rfl) rfl (bi_lenL _ ns)) rfl rfl (bi_min2 _ _)) rfl rfl (bi_max2 _ _)) (by omega) (by omega)) ((by first | decide | exact Ev.lim5 (by omega) | (simp only [List.length_map, List.length_range, List.length_append, List.length_cons, List.length_nil, row_len]; exact Ev.lim5 (by omega)) | (simp; exact Ev.lim5 (by omega)))))))) (exit_new _ _ _) rfl
end K72
end

section
set_option Elab.async false
set_option linter.all false
set_option maxRecDepth 100000
set_option maxHeartbeats 4000000
namespace K72
open Ev
variable {n : Nat} {a : Nat → Int} {w : Int}
/-! ### bounds -/
theorem pre_bd (B : Big n a w) : ∀ m, m ≤ n → 0 ≤ pre a m ∧ pre a m ≤ 50 * m := by
  intro m
  induction m with
  | zero => intro _; simp [pre_zero]
  | succ m ih =>
    intro hm
    rw [pre_succ]
    have := ih (by omega)
    have := B.lo m (by omega)
    omega
theorem outP_bd (B : Big n a w) (t : Int) : 0 ≤ outP (FS n a) w t ∧ outP (FS n a) w t ≤ 250 := by
  have h5 := B.l5
  have hs := pre_bd B n (Nat.le_refl _)
  constructor
  · unfold outP
    rw [le_mnL (by simp)]
    intro y hy
    rcases List.mem_cons.mp hy with rfl | hy
    · rw [FS_sum]; omega
    · obtain ⟨k, hk, rfl⟩ := List.mem_map.mp hy
      have hk := List.mem_range.mp hk
      rw [FS_len] at hk
      unfold bd
      rw [FS_take (by omega)]
      have := (pre_bd B k (by omega)).1
      have : 0 ≤ w * max 0 (t - k) := Int.mul_nonneg (by have := B.w0; omega) (by omega)
      omega
  · have := (le_mnL (xs := (FS n a).sum :: (List.range ((FS n a).length + 1)).map (bd (FS n a) w t)) (by simp)).mp (Int.le_refl _) (FS n a).sum List.mem_cons_self
    rw [FS_sum] at this
    unfold outP
    rw [FS_sum]
    omega
theorem least_bd' (B : Big n a w) : 0 ≤ least (FS n a) w ∧ least (FS n a) w ≤ 254 := ⟨least_nn B.w0 B.l1, least_bd B⟩
theorem bF_bd (B : Big n a w) {k : Nat} (hk : k < n) : 0 ≤ bF a w k ∧ bF a w k ≤ 254 := by
  refine ⟨bF_nn B k, ?_⟩
  have := (bF_all B 254).mpr (least_bd B) k hk
  exact this
theorem up_pos {s : Int} (hw : 0 < w) (h : 0 < s) : 0 < up s w := by
  have : ¬ up s w ≤ 0 := by rw [up_le hw, Int.mul_zero]; omega
  omega
theorem aF_le (B : Big n a w) {k : Nat} (hk : k < n) : 0 ≤ aF a w k ∧ aF a w k ≤ bF a w k := by
  have h0 := bF_nn B k
  unfold aF
  by_cases h : 0 < a k
  · rw [if_pos h]
    have := up_pos B.w0 h
    refine ⟨by omega, ?_⟩
    unfold bF
    rw [if_pos h]
    have e : nd (FS (k + 1) a) w k = (k : Int) + up (a k) w := by
      unfold nd
      rw [FS_drop (by omega), pre_succ]
      have : pre a k + a k - pre a k = a k := by omega
      rw [this, if_pos h]
    rw [← e]
    unfold least
    exact (mxL_le (by simp)).mp (Int.le_refl _) _ (List.mem_map_of_mem (by rw [FS_len]; exact List.mem_range.mpr (by omega)))
  · rw [if_neg h]; exact ⟨Int.le_refl 0, h0⟩
theorem aF_bd (B : Big n a w) {k : Nat} (hk : k < n) : 0 ≤ aF a w k ∧ aF a w k ≤ 254 := by
  have h1 := aF_le B hk
  have h2 := bF_bd B hk
  omega
theorem bF_z (B : Big n a w) {k : Nat} (h : ¬ 0 < a k) : bF a w k = 0 := by unfold bF; rw [if_neg h]
/-! ### the sums tick by tick -/
theorem out_step (B : Big n a w) (t : Nat) : ((List.range n).map (Gone w (one n) a t)).sum = outP (FS n a) w ((t + 1 : Nat) : Int) - outP (FS n a) w (t : Int) := by
  have w0 : 0 ≤ w := by have := B.w0; omega
  rw [row_sum B (.refl _), outP_eq w0 B.nn B.z, outP_eq w0 B.nn B.z]
theorem zip_drop (f : Nat → Int) (T : Nat) : Ev.zipD (((List.range (T + 1)).map fun t => D.int (f t)).drop 1) ((List.range (T + 1)).map fun t => D.int (f t)) = (List.range T).map fun t => D.tup [.int (f (t + 1)), .int (f t)] := by
  have e1 : ((List.range (T + 1)).map fun t => D.int (f t)).drop 1 = (List.range T).map fun t => D.int (f (t + 1)) := by
    rw [List.range_succ_eq_map, List.map_cons, List.drop_succ_cons, List.drop_zero, List.map_map]
    rfl
  have e2 : ∀ (xs : List D) (g : Nat → D) (y : D) (ys : List Nat), Ev.zipD (ys.map g) (xs ++ [y]) = if ys.length ≤ xs.length then Ev.zipD (ys.map g) xs else Ev.zipD (ys.map g) (xs ++ [y]) := by
    intro xs
    induction xs with
    | nil => intro g y ys; cases ys <;> simp [Ev.zipD]
    | cons x xs ih =>
      intro g y ys
      cases ys with
      | nil => simp [Ev.zipD]
      | cons u us =>
        simp only [List.map_cons, List.cons_append, Ev.zipD, List.length_cons]
        rw [ih g y us]
        by_cases h : us.length ≤ xs.length
        · rw [if_pos h, if_pos (by omega)]
        · rw [if_neg h, if_neg (by omega)]
  rw [e1]
  have e3 : (List.range (T + 1)).map (fun t => D.int (f t)) = (List.range T).map (fun t => D.int (f t)) ++ [D.int (f T)] := by
    rw [List.range_succ, List.map_append]; rfl
  rw [e3, e2, if_pos (by simp), zipD_map]
/-! ### a floor of nobody below -/
def shf (a : Nat → Int) : Nat → Int
  | 0 => 0
  | c + 1 => a c
theorem shf_row (n : Nat) (a : Nat → Int) : (D.int 0 :: Row n a) = Row (n + 1) (shf a) := by
  unfold Row
  rw [List.range_succ_eq_map, List.map_cons, List.map_map]
  rfl
theorem shf_pre (a : Nat → Int) (m : Nat) : pre (shf a) (m + 1) = pre a m := by
  rw [pre_head]
  show 0 + pre a m = _
  omega
theorem shf_big (B : Big n a w) (h : n < 5) : Big (n + 1) (shf a) w := by
  refine ⟨⟨fun c hc => ?_, by omega, by omega⟩, B.W, fun c hc => ?_⟩
  · cases c with
    | zero => exact ⟨Int.le_refl 0, by show (0 : Int) ≤ 50; omega⟩
    | succ c => exact B.lo c (by omega)
  · cases c with
    | zero => omega
    | succ c => exact B.z c (by omega)
theorem shf_least (hw : 0 < w) {m : Nat} (h1 : 1 ≤ m) (hp : 0 < pre a m) : least (FS (m + 1) (shf a)) w = least (FS m a) w + 1 := by
  have n0 := least_nn (x := a) hw h1
  have L : ∀ {m : Nat} {x : Nat → Int} (b : Int), 1 ≤ m → 0 ≤ b → (least (FS m x) w ≤ b ↔ ∀ k, k < m → 0 < pre x m - pre x k → (k : Int) + up (pre x m - pre x k) w ≤ b) := by
    intro m x b h1 hb
    unfold least
    rw [mxL_le (by simpa using range_ne h1), FS_len]
    constructor
    · intro h k hk q
      have := h _ (List.mem_map_of_mem (List.mem_range.mpr hk))
      unfold nd at this
      rwa [FS_drop (by omega), if_pos q] at this
    · intro h y hy
      obtain ⟨k, hk, rfl⟩ := List.mem_map.mp hy
      have hk := List.mem_range.mp hk
      unfold nd
      rw [FS_drop (by omega)]
      split
      · rename_i q; exact h k hk q
      · exact hb
  have p0 : ∀ k, pre (shf a) (m + 1) - pre (shf a) (k + 1) = pre a m - pre a k := fun k => by rw [shf_pre, shf_pre]
  refine nat_eq (least_nn hw (by omega)) (by omega) fun b => ?_
  rw [L b (by omega) (by omega)]
  constructor
  · intro h
    have h0 := h 1 (by omega) (by rw [p0, pre_zero]; omega)
    rw [p0, pre_zero] at h0
    have := up_pos hw (s := pre a m - 0) (by omega)
    have : least (FS m a) w ≤ (b : Int) - 1 := by
      rw [L _ h1 (by omega)]
      intro k hk q
      have := h (k + 1) (by omega) (by rw [p0]; exact q)
      rw [p0] at this
      omega
    omega
  · intro h k hk q
    have h' : least (FS m a) w ≤ (b : Int) - 1 := by omega
    have b1 : (0 : Int) ≤ b - 1 := by omega
    rw [L _ h1 b1] at h'
    cases k with
    | zero =>
      have := h' 0 (by omega) (by rw [pre_zero]; omega)
      rw [pre_zero] at this
      rw [shf_pre, pre_zero]
      omega
    | succ k =>
      rw [p0] at q ⊢
      have := h' k (by omega) q
      omega
theorem shf_bF (B : Big n a w) {c : Nat} (hc : c < n) : bF (shf a) w (c + 1) = bF a w c + (if 0 < bF a w c then 1 else 0) := by
  unfold bF
  show (if 0 < a c then least (FS (c + 2) (shf a)) w else 0) = _
  by_cases h : 0 < a c
  · have hp : 0 < pre a (c + 1) := by
      rw [pre_succ]; have := (pre_bd B c (by omega)).1; omega
    rw [if_pos h, if_pos h, shf_least B.w0 (by omega) hp]
    have : 0 < least (FS (c + 1) a) w := by
      have e := aF_le B hc
      have q := up_pos B.w0 h
      unfold aF bF at e
      rw [if_pos h, if_pos h] at e
      omega
    rw [if_pos this]
  · rw [if_neg h, if_neg h, if_neg (by omega)]; rfl
/-! ### the least wide -/
theorem fine_eq (H : OkF n a) (hz : ∀ c, n ≤ c → a c = 0) (t : Nat) (v : Int) (h0 : 0 < v) : decide (outP (FS n a) v (t : Int) = pre a n) = decide (least (FS n a) v ≤ (t : Int)) := by
  have nn : ∀ c, 0 ≤ a c := by
    intro c
    by_cases h : c < n
    · exact (H.lo c h).1
    · rw [hz c (by omega)]; exact Int.le_refl 0
  rw [outP_eq (by omega) nn hz]
  have := all_out h0 H.l1 nn hz t
  by_cases q : least (FS n a) v ≤ (t : Int)
  · rw [decide_eq_true q, decide_eq_true (this.mpr q)]
  · rw [decide_eq_false q, decide_eq_false (fun h => q (this.mp h))]
/-! ### few people -/
theorem few_big (B : Big n a w) (m : Nat) (h1 : 1 ≤ m) (hm : m ≤ n) : Big m (fun c => if c < m then min 4 (a c) else 0) 20 := by
  have h5 := B.l5
  refine ⟨⟨fun c hc => ?_, h1, by omega⟩, ⟨by omega, by omega⟩, fun c hc => ?_⟩
  · have := B.lo c (by omega)
    show 0 ≤ (if c < m then min 4 (a c) else 0) ∧ (if c < m then min 4 (a c) else 0) ≤ 50
    rw [if_pos hc]; omega
  · show (if c < m then min 4 (a c) else 0) = 0
    rw [if_neg (by omega)]
theorem few_4 (a : Nat → Int) (m c : Nat) : (if c < m then min 4 (a c) else 0) ≤ 4 := by split <;> omega
theorem few_wait {o : List Int} (B : Big n a 20) (hp : o.Perm (one n)) (ha : ∀ c, a c ≤ 4) : waitF n a 20 o (TT n a 20) = 0 := by
  unfold waitF
  have e : (List.range n).map (fun c => LastF 20 o a (TT n a 20) c - aF a 20 c) = (List.range n).map fun _ => 0 :=
    List.map_congr_left fun c hc => by rw [few_last B hp ha (List.mem_range.mp hc)]; omega
  rw [e]
  have := mxL_mem (xs := (List.range n).map fun _ => (0 : Int)) (by simpa using range_ne B.l1)
  obtain ⟨_, _, h⟩ := List.mem_map.mp this
  exact h.symm
/-! ### a floor that shows it -/
def sdR (n : Nat) (a : Nat → Int) (w : Int) (k : Nat) : Bool := !decide (least (FS n a) w = 0) && decide (nd (FS n a) w k = least (FS n a) w)
theorem sdR_eq (B : Big n a w) {k : Nat} (hk : k < n) : sdR n a w k = if 0 < pre a n - pre a k then decide ((k : Int) + up (pre a n - pre a k) w = least (FS n a) w) else false := by
  unfold sdR nd
  rw [FS_drop (by omega)]
  have l0 := least_nn (x := a) B.w0 B.l1
  by_cases h : 0 < pre a n - pre a k
  · rw [if_pos h, if_pos h]
    have := up_pos B.w0 h
    by_cases q : least (FS n a) w = 0
    · rw [decide_eq_true q, decide_eq_false (by omega)]; rfl
    · rw [decide_eq_false q]; rfl
  · rw [if_neg h, if_neg h]
    by_cases q : least (FS n a) w = 0
    · rw [decide_eq_true q]; rfl
    · rw [decide_eq_false q, decide_eq_false (fun h => q h.symm)]; rfl
end K72
end

section
set_option Elab.async false
set_option linter.all false
set_option maxRecDepth 100000
set_option maxHeartbeats 4000000
namespace K72
open Ev
open PySem (Str Operator CmpOp PyData)
variable {n : Nat} {a : Nat → Int} {w : Int} {k : Nat} {x4 x17 : Option EV}
theorem w_needs_of (st : List SO) (H : OkF n a) (W : Wd w) : den_needs_of [.tup (Row n a), .int w] st = some (.new (.lst ((List.range n).map (ndT (FS n a) w))), st) := by
  have := H.l5
  rw [tuFS, v_needs_of _ _ _ (by simp; omega) W, FS_len]
theorem w_least_of (st : List SO) (H : OkF n a) (W : Wd w) : den_least_of [.tup (Row n a), .int w] st = some (.d (.int (least (FS n a) w)), st) := by
  have := H.l5
  have := H.l1
  rw [tuFS]; exact v_least_of _ _ _ (by simp; omega) (by simp; omega) W
theorem in_needs (f : Nat) (hf : f < n) : cmpop .In (.d (.tup [.int (least (FS n a) w), .int ((f : Int) + 1)])) (.own (.lst ((List.range n).map (ndT (FS n a) w)))) = some (decide (nd (FS n a) w f = least (FS n a) w)) := by
  have hfl : ∀ xs : List Nat, D.flats DEEP (xs.map (ndT (FS n a) w)) = true := by
    intro xs
    induction xs with
    | nil => rfl
    | cons x xs ih => rw [List.map_cons, D.flats, ih]; rfl
  rw [in_own, if_pos ⟨rfl, hfl _⟩]
  congr 1
  rw [List.any_map]
  have e : ∀ c : Nat, ((fun b => PySem.PyData.eqv b.py (D.tup [.int (least (FS n a) w), .int ((f : Int) + 1)]).py) ∘ ndT (FS n a) w) c = (decide (nd (FS n a) w c = least (FS n a) w) && decide (c = f)) := by
    intro c
    show ((nd (FS n a) w c == least (FS n a) w) && (((c : Int) + 1 == (f : Int) + 1) && true)) = _
    have e1 : (nd (FS n a) w c == least (FS n a) w) = decide (nd (FS n a) w c = least (FS n a) w) := by
      rw [Bool.eq_iff_iff]; simp
    have e2 : ((c : Int) + 1 == (f : Int) + 1) = decide (c = f) := by
      rw [Bool.eq_iff_iff]; simp; omega
    rw [e1, e2, Bool.and_true]
  rw [Bool.eq_iff_iff, List.any_eq_true, decide_eq_true_iff]
  constructor
  · rintro ⟨c, _, h⟩
    rw [e, Bool.and_eq_true, decide_eq_true_iff, decide_eq_true_iff] at h
    rw [← h.2]; exact h.1
  · intro h
    exact ⟨f, List.mem_range.mpr hf, by rw [e, decide_eq_true h, decide_eq_true rfl]; rfl⟩
theorem w_shows_down (st : List SO) (B : Big n a w) (f : Nat) (hf : f < n) : den_shows_down [.tup (Row n a), .int w, .tup [.int (least (FS n a) w), .int ((f : Int) + 1)]] st = some (.d (.bl (sdR n a w f)), st) := by
  have l := least_bd' B
  have hb : (decide (0 ≤ least (FS n a) w) && decide (least (FS n a) w ≤ 400)) = true := by simp; omega
  have b1 := v_is_between (least (FS n a) w) 0 400 st
  rw [hb] at b1
  have hb2 : (decide (1 ≤ (f : Int) + 1) && decide ((f : Int) + 1 ≤ n)) = true := by simp; omega
  have b2 := v_is_between ((f : Int) + 1) 1 n st
  rw [hb2] at b2
  by_cases q : least (FS n a) w = 0
  · have e := run_of ((xs_cons (x_ex (f_callS fn_shows_down_check_stair (f_cons rfl (f_n rfl) rfl (f_cons rfl (f_n rfl) rfl (f_nil _))) (w_check_stair st B.toOkF B.W) rfl)) (xs_cons (x_iffF (f_or2T (f_notT (f_biT (f_bi1 (f_n rfl) rfl rfl))) fun hk => (f_or2T (f_cmpT (f_bi1 (f_n rfl) rfl (rfl)) (f_c _ _) rfl rfl (co_ne _ _)) fun hk => (f_notT (f_callT (f_callS fn_shows_down_is_between (f_cons rfl (f_idx (f_n rfl) (f_c _ _) rfl rfl (rfl)) rfl (f_cons rfl (f_c _ _) rfl (f_cons rfl (f_g con_shows_down_MOST_AFTER) rfl (f_nil _)))) (b1) rfl))))) (rfl) (xs_nil _)) (xs_cons (x_asg (f_callS fn_shows_down_least_of (f_cons rfl (f_n rfl) rfl (f_cons rfl (f_n rfl) rfl (f_nil _))) (w_least_of st B.toOkF B.W) rfl) rfl rfl) (xs_out (x_iffT (f_cmpT (f_n rfl) (f_c _ _) rfl rfl (co_eq _ _)) (decide_eq_true q) (xs_out (x_ret (f_and2 (f_cmp (f_idx (f_n rfl) (f_c _ _) rfl rfl (rfl)) (f_c _ _) rfl rfl (co_eq _ _)) fun hk => (f_cmp (f_idx (f_n rfl) (f_c _ _) rfl rfl (rfl)) (f_c _ _) rfl rfl (co_isN _))))))))))) (exit_d _ _ _) rfl (n := 3) (fuel := FUEL) (Γ := G_10) (N := N_shows_down) (ir := ir_shows_down) (ds := [.tup (Row n a), .int w, .tup [.int (least (FS n a) w), .int ((f : Int) + 1)]]) (st := st)
    refine Eq.trans e ?_
    unfold sdR
    rw [decide_eq_true q]
    rfl
  · have e := run_of ((xs_cons (x_ex (f_callS fn_shows_down_check_stair (f_cons rfl (f_n rfl) rfl (f_cons rfl (f_n rfl) rfl (f_nil _))) (w_check_stair st B.toOkF B.W) rfl)) (xs_cons (x_iffF (f_or2T (f_notT (f_biT (f_bi1 (f_n rfl) rfl rfl))) fun hk => (f_or2T (f_cmpT (f_bi1 (f_n rfl) rfl (rfl)) (f_c _ _) rfl rfl (co_ne _ _)) fun hk => (f_notT (f_callT (f_callS fn_shows_down_is_between (f_cons rfl (f_idx (f_n rfl) (f_c _ _) rfl rfl (rfl)) rfl (f_cons rfl (f_c _ _) rfl (f_cons rfl (f_g con_shows_down_MOST_AFTER) rfl (f_nil _)))) (b1) rfl))))) (rfl) (xs_nil _)) (xs_cons (x_asg (f_callS fn_shows_down_least_of (f_cons rfl (f_n rfl) rfl (f_cons rfl (f_n rfl) rfl (f_nil _))) (w_least_of st B.toOkF B.W) rfl) rfl rfl) (xs_cons (x_iffF (f_cmpT (f_n rfl) (f_c _ _) rfl rfl (co_eq _ _)) (decide_eq_false q) (xs_nil _)) (xs_out (x_ret (f_and2 (f_cmp (f_idx (f_n rfl) (f_c _ _) rfl rfl (rfl)) (f_n rfl) rfl rfl (co_eq _ _)) fun hk => (f_and2 (f_callS fn_shows_down_is_between (f_cons rfl (f_idx (f_n rfl) (f_c _ _) rfl rfl (rfl)) rfl (f_cons rfl (f_c _ _) rfl (f_cons rfl (f_bi1 (f_n rfl) rfl (bi_lenR n _ _ rfl)) rfl (f_nil _)))) (b2) rfl) fun hk => (f_cmp (f_tup (f_cons rfl (f_n rfl) rfl (f_cons rfl (f_idx (f_n rfl) (f_c _ _) rfl rfl (rfl)) rfl (f_nil _))) (lim_2)) (f_callS fn_shows_down_needs_of (f_cons rfl (f_n rfl) rfl (f_cons rfl (f_n rfl) rfl (f_nil _))) (w_needs_of st B.toOkF B.W) rfl) rfl rfl (in_needs f hf))))))))))) (exit_d _ _ _) rfl (n := 3) (fuel := FUEL) (Γ := G_10) (N := N_shows_down) (ir := ir_shows_down) (ds := [.tup (Row n a), .int w, .tup [.int (least (FS n a) w), .int ((f : Int) + 1)]]) (st := st)
    refine Eq.trans e ?_
    unfold sdR
    rw [decide_eq_false q, decide_eq_true (rfl : least (FS n a) w = least (FS n a) w)]
    rfl
/-! ### the law, statement by statement -/
theorem r3 (st : List SO) (B : Big n a w) : exec G_41 FUEL (.asg (.v 5) (.lc [15] (.v 15) (.range [.v 3]) [.cmp .Gt (.bi .sum [.slc (.v 1) (.v 15) (.na)]) (.c (.int 0))] (.bin .Add (.v 15) (.call "_law_up" [.bi .sum [.slc (.v 1) (.v 15) (.na)], .v 2])))) ⟨[some (.d (.ref k)), some (.d (.tup (Row n a))), some (.d (.int w)), some (.d (.int (n : Int))), x4, none, none, none, none, none, none, none, none, none, none, none, none, none, none, none, none, none, none, none, none], st⟩ = some (.nx, ⟨[some (.d (.ref k)), some (.d (.tup (Row n a))), some (.d (.int w)), some (.d (.int (n : Int))), x4, some (.d (.lst (List.map D.int (ndL a w n)))), none, none, none, none, none, none, none, none, none, none, none, none, none, none, none, none, none, none, none], st⟩) := by
  have h5 := B.l5
  have w1 := B.W.lo
  have w2 := B.W.hi
  have hs : ∀ c, c < n → biop .sum [.d (.tup ((((List.range n).map a).drop c).map .int))] = some (.d (.int (pre a n - pre a c))) := fun c h => (bi_sumX rfl).trans (by rw [FS_drop (by omega)])
  refine Eq.trans ((x_asg (f_lcfS (evI_rangeN (f_n rfl) (Ev.lim5 (by omega))) (fun c hc => ⟨_, f_lcF rfl (f_cmpT (f_bi1 (f_slc (f_n rfl) (p_e rfl (f_n rfl)) p_na rfl (sl_rowD c (by have := List.mem_range.mp hc; omega) rfl)) rfl (hs c (List.mem_range.mp hc))) (f_c _ _) rfl rfl (co_gt _ _)) (f_bin (f_n rfl) (f_callS fn_law_right_law_up (f_cons rfl (f_bi1 (f_slc (f_n rfl) (p_e rfl (f_n rfl)) p_na rfl (sl_rowD c (by have := List.mem_range.mp hc; omega) rfl)) rfl (hs c (List.mem_range.mp hc))) rfl (f_cons rfl (f_n rfl) rfl (f_nil _))) (v_law_up _ w st (by omega) (by omega)) rfl) rfl rfl (bo_add _ _)) rfl, rfl⟩) ((by first | decide | exact Ev.lim5 (by omega) | (simp only [List.length_map, List.length_range, List.length_append, List.length_cons, List.length_nil, row_len]; exact Ev.lim5 (by omega)) | (simp; exact Ev.lim5 (by omega)))) rfl) rfl rfl)) ?_
  congr 2
  refine env_cong ?_
  unfold ndL
  rw [List.map_map]
  rfl
theorem r4 (st : List SO) (B : Big n a w) : exec G_41 FUEL (.asg (.v 6) (.ite (.cmp .NotEq (.v 5) (.lst [])) (.bi .max [.v 5]) (.c (.int 0)))) ⟨[some (.d (.ref k)), some (.d (.tup (Row n a))), some (.d (.int w)), some (.d (.int (n : Int))), x4, some (.d (.lst (List.map D.int (ndL a w n)))), none, none, none, none, none, none, none, none, none, none, none, none, none, none, none, none, none, none, none], st⟩ = some (.nx, ⟨[some (.d (.ref k)), some (.d (.tup (Row n a))), some (.d (.int w)), some (.d (.int (n : Int))), x4, some (.d (.lst (List.map D.int (ndL a w n)))), some (.d (.int (least (FS n a) w))), none, none, none, none, none, none, none, none, none, none, none, none, none, none, none, none, none, none], st⟩) := by
  have ne := ne_nil (ndL a w n)
  by_cases q : ndL a w n = []
  · refine Eq.trans ((x_asg (f_iteF (f_cmpT (f_n rfl) (f_lst (f_nil _) (lim_0)) rfl rfl (ne)) ((by rw [q]; rfl)) (f_c _ _)) rfl rfl)) ?_
    rw [ndL_nil B.w0 B.l1 q]
    rfl
  · have hm : biop .max [.d (.lst ((ndL a w n).map .int))] = some (.d (.int (least (FS n a) w))) := by
      rw [← ndL_max B.w0 B.l1 q]
      exact bi_maxL _ _ rfl q
    exact Eq.trans ((x_asg (f_iteT (f_cmpT (f_n rfl) (f_lst (f_nil _) (lim_0)) rfl rfl (ne)) ((by rw [decide_eq_false q]; rfl)) (f_bi1 (f_n rfl) rfl (hm))) rfl rfl)) rfl
theorem r5 (st : List SO) (B : Big n a w) : exec G_41 FUEL (.iff (.cmp .NotEq (.bi .repr [.idx (.call "down_told" [.v 1, .v 2]) (.c (.int 0))]) (.bi .repr [.v 6])) [.ret (.c (.bl false))] []) ⟨[some (.d (.ref k)), some (.d (.tup (Row n a))), some (.d (.int w)), some (.d (.int (n : Int))), x4, some (.d (.lst (List.map D.int (ndL a w n)))), some (.d (.int (least (FS n a) w))), none, none, none, none, none, none, none, none, none, none, none, none, none, none, none, none, none, none], st⟩ = some (.nx, ⟨[some (.d (.ref k)), some (.d (.tup (Row n a))), some (.d (.int w)), some (.d (.int (n : Int))), x4, some (.d (.lst (List.map D.int (ndL a w n)))), some (.d (.int (least (FS n a) w))), none, none, none, none, none, none, none, none, none, none, none, none, none, none, none, none, none, none], st⟩) := by
  obtain ⟨d, e⟩ := w_down_told st B.toOkF B.W
  have l := least_bd' B
  have hr := repr_int (i := least (FS n a) w) (by omega)
  exact Eq.trans ((x_iffF (f_cmpT (f_bi1 (f_idx (f_callS fn_law_right_down_told (f_cons rfl (f_n rfl) rfl (f_cons rfl (f_n rfl) rfl (f_nil _))) (e) rfl) (f_c _ _) rfl rfl (rfl)) rfl (hr)) (f_bi1 (f_n rfl) rfl (hr)) rfl rfl (ne_same _)) (rfl) (xs_nil _))) rfl
theorem en_row {b : Nat → Int} (hn : n ≤ 300) : enM (.tup (Row n b)) = ret ((List.range n).map fun i : Nat => D.tup [.int (i : Int), .int (b i)]) := by
  rw [enM_tup, row_len, if_pos (Ev.lim5 (by omega))]
  unfold Row
  rw [enumD_range]
theorem r6 (st : List SO) (B : Big n a w) : exec G_41 FUEL (.asg (.v 7) (.bi .tuple [.lc [15, 22] (.tup [.v 15, .v 22]) (.enum (.v 1)) [] (.ite (.cmp .Gt (.v 22) (.c (.int 0))) (.bin .Add (.v 15) (.call "_law_up" [.v 22, .v 2])) (.c (.int 0)))])) ⟨[some (.d (.ref k)), some (.d (.tup (Row n a))), some (.d (.int w)), some (.d (.int (n : Int))), x4, some (.d (.lst (List.map D.int (ndL a w n)))), some (.d (.int (least (FS n a) w))), none, none, none, none, none, none, none, none, none, none, none, none, none, none, none, none, none, none], st⟩ = some (.nx, ⟨[some (.d (.ref k)), some (.d (.tup (Row n a))), some (.d (.int w)), some (.d (.int (n : Int))), x4, some (.d (.lst (List.map D.int (ndL a w n)))), some (.d (.int (least (FS n a) w))), some (.d (.tup (Row n (aF a w)))), none, none, none, none, none, none, none, none, none, none, none, none, none, none, none, none, none], st⟩) := by
  have h5 := B.l5
  have w1 := B.W.lo
  have w2 := B.W.hi
  have hen := en_row (n := n) (b := a) (by omega)
  refine Eq.trans ((x_asg (f_bi1 (f_lcmS ((f_enum (f_n rfl) rfl ((congrFun hen _).trans rfl))) (fun c hc => ⟨_, f_lcB rfl (f_iteI (f_cmpT (f_n rfl) (f_c _ _) rfl rfl (co_gt _ _)) (fun hk => (f_bin (f_n rfl) (f_callS fn_law_right_law_up (f_cons rfl (f_n rfl) rfl (f_cons rfl (f_n rfl) rfl (f_nil _))) (v_law_up _ w st (by omega) (by omega)) rfl) rfl rfl (bo_add _ _))) (fun hk => (f_c _ _))) rfl, rfl⟩) ((by first | decide | exact Ev.lim5 (by omega) | (simp only [List.length_map, List.length_range, List.length_append, List.length_cons, List.length_nil, row_len]; exact Ev.lim5 (by omega)) | (simp; exact Ev.lim5 (by omega)))) rfl) rfl (rfl)) rfl rfl)) ?_
  congr 2
  refine env_cong ?_
  have q : Row n (aF a w) = (List.range n).map fun c : Nat => D.int (if decide (0 < a c) = true then (c : Int) + up (a c) w else 0) := by
    unfold Row aF
    refine List.map_congr_left fun c _ => ?_
    by_cases h : 0 < a c <;> simp [h]
  rw [q]
  rfl
theorem r7 (st : List SO) (B : Big n a w) : exec G_41 FUEL (.iff (.cmp .NotEq (.bi .repr [.call "alone_out" [.v 1, .v 2]]) (.bi .repr [.v 7])) [.ret (.c (.bl false))] []) ⟨[some (.d (.ref k)), some (.d (.tup (Row n a))), some (.d (.int w)), some (.d (.int (n : Int))), x4, some (.d (.lst (List.map D.int (ndL a w n)))), some (.d (.int (least (FS n a) w))), some (.d (.tup (Row n (aF a w)))), none, none, none, none, none, none, none, none, none, none, none, none, none, none, none, none, none], st⟩ = some (.nx, ⟨[some (.d (.ref k)), some (.d (.tup (Row n a))), some (.d (.int w)), some (.d (.int (n : Int))), x4, some (.d (.lst (List.map D.int (ndL a w n)))), some (.d (.int (least (FS n a) w))), some (.d (.tup (Row n (aF a w)))), none, none, none, none, none, none, none, none, none, none, none, none, none, none, none, none, none], st⟩) := by
  have h5 := B.l5
  have hr := repr_row (n := n) (a := aF a w) (by omega) fun c hc => by have := aF_bd B hc; omega
  exact Eq.trans ((x_iffF (f_cmpT (f_bi1 (f_callS fn_law_right_alone_out (f_cons rfl (f_n rfl) rfl (f_cons rfl (f_n rfl) rfl (f_nil _))) (w_alone_out st B.toOkF B.W) rfl) rfl (hr)) (f_bi1 (f_n rfl) rfl (hr)) rfl rfl (ne_same _)) (rfl) (xs_nil _))) rfl
theorem one_map (n : Nat) : ((List.range n).map fun k : Nat => D.int (1 + (k : Int))) = (one n).map .int := by unfold one; rw [List.map_map]; rfl
theorem r8 (st : List SO) (B : Big n a w) : exec G_41 FUEL (.asg (.v 8) (.coll false (.range [.c (.int 1), .bin .Add (.v 3) (.c (.int 1))]))) ⟨[some (.d (.ref k)), some (.d (.tup (Row n a))), some (.d (.int w)), some (.d (.int (n : Int))), x4, some (.d (.lst (List.map D.int (ndL a w n)))), some (.d (.int (least (FS n a) w))), some (.d (.tup (Row n (aF a w)))), none, none, none, none, none, none, none, none, none, none, none, none, none, none, none, none, none], st⟩ = some (.nx, ⟨[some (.d (.ref k)), some (.d (.tup (Row n a))), some (.d (.int w)), some (.d (.int (n : Int))), x4, some (.d (.lst (List.map D.int (ndL a w n)))), some (.d (.int (least (FS n a) w))), some (.d (.tup (Row n (aF a w)))), some (.d (.tup (List.map D.int (one n)))), none, none, none, none, none, none, none, none, none, none, none, none, none, none, none, none], st⟩) := by
  have h5 := B.l5
  refine Eq.trans ((x_asg (f_coll (evI_rng (n := n) (f_c _ _) (f_bin (f_n rfl) (f_c _ _) rfl rfl (bo_add _ _)) (by omega) (by omega) (by omega)) ((by first | decide | exact Ev.lim5 (by omega) | (simp only [List.length_map, List.length_range, List.length_append, List.length_cons, List.length_nil, row_len]; exact Ev.lim5 (by omega)) | (simp; exact Ev.lim5 (by omega))))) rfl rfl)) ?_
  congr 2
  refine env_cong ?_
  rw [← one_map]
  rfl
theorem r9 (st : List SO) (B : Big n a w) : exec G_41 FUEL (.asg (.tup [.v 9, .v 10]) (.call "_law_from_below" [.v 1, .v 2])) ⟨[some (.d (.ref k)), some (.d (.tup (Row n a))), some (.d (.int w)), some (.d (.int (n : Int))), x4, some (.d (.lst (List.map D.int (ndL a w n)))), some (.d (.int (least (FS n a) w))), some (.d (.tup (Row n (aF a w)))), some (.d (.tup (List.map D.int (one n)))), none, none, none, none, none, none, none, none, none, none, none, none, none, none, none, none], st⟩ = some (.nx, ⟨[some (.d (.ref k)), some (.d (.tup (Row n a))), some (.d (.int w)), some (.d (.int (n : Int))), x4, some (.d (.lst (List.map D.int (ndL a w n)))), some (.d (.int (least (FS n a) w))), some (.d (.tup (Row n (aF a w)))), some (.d (.tup (List.map D.int (one n)))), some (.d (.tup (Row n (bF a w)))), some (.d (.int (least (FS n a) w))), none, none, none, none, none, none, none, none, none, none, none, none, none, none], st⟩) := Eq.trans ((x_asgA (f_callS fn_law_right_law_from_below (f_cons rfl (f_n rfl) rfl (f_cons rfl (f_n rfl) rfl (f_nil _))) (v_from_below st B) rfl) rfl (rfl))) rfl
theorem run1 (B : Big n a w) : RunOk n a w (one n) (TT n a w) := run_ok B (.refl _)
theorem r10 (st : List SO) (B : Big n a w) : exec G_41 FUEL (.iff (.or (.cmp .NotEq (.bi .repr [.call "last_out" [.v 1, .v 2, .v 8]]) (.bi .repr [.v 9])) (.cmp .NotEq (.v 10) (.v 6))) [.ret (.c (.bl false))] []) ⟨[some (.d (.ref k)), some (.d (.tup (Row n a))), some (.d (.int w)), some (.d (.int (n : Int))), x4, some (.d (.lst (List.map D.int (ndL a w n)))), some (.d (.int (least (FS n a) w))), some (.d (.tup (Row n (aF a w)))), some (.d (.tup (List.map D.int (one n)))), some (.d (.tup (Row n (bF a w)))), some (.d (.int (least (FS n a) w))), none, none, none, none, none, none, none, none, none, none, none, none, none, none], st⟩ = some (.nx, ⟨[some (.d (.ref k)), some (.d (.tup (Row n a))), some (.d (.int w)), some (.d (.int (n : Int))), x4, some (.d (.lst (List.map D.int (ndL a w n)))), some (.d (.int (least (FS n a) w))), some (.d (.tup (Row n (aF a w)))), some (.d (.tup (List.map D.int (one n)))), some (.d (.tup (Row n (bF a w)))), some (.d (.int (least (FS n a) w))), none, none, none, none, none, none, none, none, none, none, none, none, none, none], st⟩) := by
  have h5 := B.l5
  have hl : den_last_out [.tup (Row n a), .int w, .tup (List.map D.int (one n))] st = some (.d (.tup (Row n (bF a w))), st) := by
    rw [w_last_out st B.toOkF B.W (.refl _) (run1 B), row_ext fun c hc => last_one B hc]
  have hr := repr_row (n := n) (a := bF a w) (by omega) fun c hc => by have := bF_bd B hc; omega
  exact Eq.trans ((x_iffF (f_or2T (f_cmpT (f_bi1 (f_callS fn_law_right_last_out (f_cons rfl (f_n rfl) rfl (f_cons rfl (f_n rfl) rfl (f_cons rfl (f_n rfl) rfl (f_nil _)))) (hl) rfl) rfl (hr)) (f_bi1 (f_n rfl) rfl (hr)) rfl rfl (ne_same _)) fun hk => (f_cmpT (f_n rfl) (f_n rfl) rfl rfl (co_ne _ _))) ((by simp)) (xs_nil _))) rfl
theorem r11 (st : List SO) (B : Big n a w) : exec G_41 FUEL (.asg (.v 11) (.call "by_order" [.v 1, .v 2, .v 8])) ⟨[some (.d (.ref k)), some (.d (.tup (Row n a))), some (.d (.int w)), some (.d (.int (n : Int))), x4, some (.d (.lst (List.map D.int (ndL a w n)))), some (.d (.int (least (FS n a) w))), some (.d (.tup (Row n (aF a w)))), some (.d (.tup (List.map D.int (one n)))), some (.d (.tup (Row n (bF a w)))), some (.d (.int (least (FS n a) w))), none, none, none, none, none, none, none, none, none, none, none, none, none, none], st⟩ = some (.nx, ⟨[some (.d (.ref k)), some (.d (.tup (Row n a))), some (.d (.int w)), some (.d (.int (n : Int))), x4, some (.d (.lst (List.map D.int (ndL a w n)))), some (.d (.int (least (FS n a) w))), some (.d (.tup (Row n (aF a w)))), some (.d (.tup (List.map D.int (one n)))), some (.d (.tup (Row n (bF a w)))), some (.d (.int (least (FS n a) w))), some (.d (.tup ((List.range (TT n a w)).map fun t : Nat => D.tup (Row n (Gone w (one n) a t))))), none, none, none, none, none, none, none, none, none, none, none, none, none], st⟩) := Eq.trans ((x_asg (f_callS fn_law_right_by_order (f_cons rfl (f_n rfl) rfl (f_cons rfl (f_n rfl) rfl (f_cons rfl (f_n rfl) rfl (f_nil _)))) (w_by_order st B.toOkF B.W (.refl _) (run1 B)) rfl) rfl rfl)) rfl
theorem r12 (st : List SO) (B : Big n a w) : exec G_41 FUEL (.asg (.v 12) (.lc [19] (.v 19) (.range [.bin .Add (.v 6) (.c (.int 1))]) [] (.call "_law_out" [.v 1, .v 2, .v 19]))) ⟨[some (.d (.ref k)), some (.d (.tup (Row n a))), some (.d (.int w)), some (.d (.int (n : Int))), x4, some (.d (.lst (List.map D.int (ndL a w n)))), some (.d (.int (least (FS n a) w))), some (.d (.tup (Row n (aF a w)))), some (.d (.tup (List.map D.int (one n)))), some (.d (.tup (Row n (bF a w)))), some (.d (.int (least (FS n a) w))), some (.d (.tup ((List.range (TT n a w)).map fun t : Nat => D.tup (Row n (Gone w (one n) a t))))), none, none, none, none, none, none, none, none, none, none, none, none, none], st⟩ = some (.nx, ⟨[some (.d (.ref k)), some (.d (.tup (Row n a))), some (.d (.int w)), some (.d (.int (n : Int))), x4, some (.d (.lst (List.map D.int (ndL a w n)))), some (.d (.int (least (FS n a) w))), some (.d (.tup (Row n (aF a w)))), some (.d (.tup (List.map D.int (one n)))), some (.d (.tup (Row n (bF a w)))), some (.d (.int (least (FS n a) w))), some (.d (.tup ((List.range (TT n a w)).map fun t : Nat => D.tup (Row n (Gone w (one n) a t))))), some (.d (.lst ((List.range (TT n a w + 1)).map fun t : Nat => D.int (outP (FS n a) w (t : Int))))), none, none, none, none, none, none, none, none, none, none, none, none], st⟩) := by
  have h5 := B.l5
  have l := least_bd' B
  have tt := TT_eq B
  exact Eq.trans ((x_asg (f_lcmS (evI_rng1 (n := TT n a w + 1) (f_bin (f_n rfl) (f_c _ _) rfl rfl (bo_add _ _)) (by omega) (by omega)) (fun t ht => ⟨_, f_lcB rfl (f_callS fn_law_right_law_out (f_cons rfl (f_n rfl) rfl (f_cons rfl (f_n rfl) rfl (f_cons rfl (f_n rfl) rfl (f_nil _)))) (v_law_out _ st (by omega) B.W) rfl) rfl, rfl⟩) ((by first | decide | exact Ev.lim5 (by omega) | (simp only [List.length_map, List.length_range, List.length_append, List.length_cons, List.length_nil, row_len]; exact Ev.lim5 (by omega)) | (simp; exact Ev.lim5 (by omega)))) rfl) rfl rfl)) rfl
theorem r13 (st : List SO) (B : Big n a w) : exec G_41 FUEL (.iff (.cmp .NotEq (.lc [23] (.v 23) (.of (.v 11)) [] (.bi .sum [.v 23])) (.lc [21, 24] (.tup [.v 21, .v 24]) (.zip [.slc (.v 12) (.c (.int 1)) (.na), .v 12]) [] (.bin .Sub (.v 21) (.v 24)))) [.ret (.c (.bl false))] []) ⟨[some (.d (.ref k)), some (.d (.tup (Row n a))), some (.d (.int w)), some (.d (.int (n : Int))), x4, some (.d (.lst (List.map D.int (ndL a w n)))), some (.d (.int (least (FS n a) w))), some (.d (.tup (Row n (aF a w)))), some (.d (.tup (List.map D.int (one n)))), some (.d (.tup (Row n (bF a w)))), some (.d (.int (least (FS n a) w))), some (.d (.tup ((List.range (TT n a w)).map fun t : Nat => D.tup (Row n (Gone w (one n) a t))))), some (.d (.lst ((List.range (TT n a w + 1)).map fun t : Nat => D.int (outP (FS n a) w (t : Int))))), none, none, none, none, none, none, none, none, none, none, none, none], st⟩ = some (.nx, ⟨[some (.d (.ref k)), some (.d (.tup (Row n a))), some (.d (.int w)), some (.d (.int (n : Int))), x4, some (.d (.lst (List.map D.int (ndL a w n)))), some (.d (.int (least (FS n a) w))), some (.d (.tup (Row n (aF a w)))), some (.d (.tup (List.map D.int (one n)))), some (.d (.tup (Row n (bF a w)))), some (.d (.int (least (FS n a) w))), some (.d (.tup ((List.range (TT n a w)).map fun t : Nat => D.tup (Row n (Gone w (one n) a t))))), some (.d (.lst ((List.range (TT n a w + 1)).map fun t : Nat => D.int (outP (FS n a) w (t : Int))))), none, none, none, none, none, none, none, none, none, none, none, none], st⟩) := by
  have l := least_bd' B
  have tt := TT_eq B
  have hz : zipM [.lst (((List.range (TT n a w + 1)).map fun t : Nat => D.int (outP (FS n a) w (t : Int))).drop 1), .lst ((List.range (TT n a w + 1)).map fun t : Nat => D.int (outP (FS n a) w (t : Int)))] = ret ((List.range (TT n a w)).map fun t : Nat => D.tup [.int (outP (FS n a) w ((t + 1 : Nat) : Int)), .int (outP (FS n a) w (t : Int))]) := by
    rw [zp_2]
    show ret (zipD _ _) = _
    rw [zip_drop (fun t => outP (FS n a) w (t : Int))]
  have hs : slcop (.d (.lst ((List.range (TT n a w + 1)).map fun t : Nat => D.int (outP (FS n a) w (t : Int))))) (some 1) none = some (.new (.lst (((List.range (TT n a w + 1)).map fun t : Nat => D.int (outP (FS n a) w (t : Int))).drop 1))) := by
    rw [sl_lst, cut_one]
  have hne : cmpop .NotEq (.own (.lst ((List.range (TT n a w)).map fun t : Nat => .int ((List.range n).map (Gone w (one n) a t)).sum))) (.own (.lst ((List.range (TT n a w)).map fun t : Nat => .int (outP (FS n a) w ((t + 1 : Nat) : Int) - outP (FS n a) w (t : Int))))) = some false := by
    have e : ((List.range (TT n a w)).map fun t : Nat => D.int ((List.range n).map (Gone w (one n) a t)).sum) = ((List.range (TT n a w)).map fun t : Nat => outP (FS n a) w ((t + 1 : Nat) : Int) - outP (FS n a) w (t : Int)).map .int := by
      rw [List.map_map]
      exact List.map_congr_left fun t _ => by rw [out_step B]; rfl
    have e2 : ((List.range (TT n a w)).map fun t : Nat => D.int (outP (FS n a) w ((t + 1 : Nat) : Int) - outP (FS n a) w (t : Int))) = ((List.range (TT n a w)).map fun t : Nat => outP (FS n a) w ((t + 1 : Nat) : Int) - outP (FS n a) w (t : Int)).map .int := by
      rw [List.map_map]; rfl
    rw [e, e2, co_neL1, eqD_L, decide_eq_true rfl]
    rfl
  have lc1 : ev G_41 (.lc [23] (.v 23) (.of (.v 11)) [] (.bi .sum [.v 23])) ⟨[some (.d (.ref k)), some (.d (.tup (Row n a))), some (.d (.int w)), some (.d (.int (n : Int))), x4, some (.d (.lst (List.map D.int (ndL a w n)))), some (.d (.int (least (FS n a) w))), some (.d (.tup (Row n (aF a w)))), some (.d (.tup (List.map D.int (one n)))), some (.d (.tup (Row n (bF a w)))), some (.d (.int (least (FS n a) w))), some (.d (.tup ((List.range (TT n a w)).map fun t : Nat => D.tup (Row n (Gone w (one n) a t))))), some (.d (.lst ((List.range (TT n a w + 1)).map fun t : Nat => D.int (outP (FS n a) w (t : Int))))), none, none, none, none, none, none, none, none, none, none, none, none], st⟩ = some (.new (.lst ((List.range (TT n a w)).map fun t : Nat => .int ((List.range n).map (Gone w (one n) a t)).sum)), ⟨[some (.d (.ref k)), some (.d (.tup (Row n a))), some (.d (.int w)), some (.d (.int (n : Int))), x4, some (.d (.lst (List.map D.int (ndL a w n)))), some (.d (.int (least (FS n a) w))), some (.d (.tup (Row n (aF a w)))), some (.d (.tup (List.map D.int (one n)))), some (.d (.tup (Row n (bF a w)))), some (.d (.int (least (FS n a) w))), some (.d (.tup ((List.range (TT n a w)).map fun t : Nat => D.tup (Row n (Gone w (one n) a t))))), some (.d (.lst ((List.range (TT n a w + 1)).map fun t : Nat => D.int (outP (FS n a) w (t : Int))))), none, none, none, none, none, none, none, none, none, none, none, none], st⟩) := Eq.trans ((f_lcmS ((f_of (f_n rfl) rfl (rfl))) (fun t ht => ⟨_, f_lcB rfl (f_bi1 (f_n rfl) rfl (bi_sumR n _ _ rfl)) rfl, rfl⟩) ((by first | decide | exact Ev.lim5 (by omega) | (simp only [List.length_map, List.length_range, List.length_append, List.length_cons, List.length_nil, row_len]; exact Ev.lim5 (by omega)) | (simp; exact Ev.lim5 (by omega)))) rfl)) rfl
  have lc2 : ev G_41 (.lc [21, 24] (.tup [.v 21, .v 24]) (.zip [.slc (.v 12) (.c (.int 1)) (.na), .v 12]) [] (.bin .Sub (.v 21) (.v 24))) ⟨[some (.d (.ref k)), some (.d (.tup (Row n a))), some (.d (.int w)), some (.d (.int (n : Int))), x4, some (.d (.lst (List.map D.int (ndL a w n)))), some (.d (.int (least (FS n a) w))), some (.d (.tup (Row n (aF a w)))), some (.d (.tup (List.map D.int (one n)))), some (.d (.tup (Row n (bF a w)))), some (.d (.int (least (FS n a) w))), some (.d (.tup ((List.range (TT n a w)).map fun t : Nat => D.tup (Row n (Gone w (one n) a t))))), some (.d (.lst ((List.range (TT n a w + 1)).map fun t : Nat => D.int (outP (FS n a) w (t : Int))))), none, none, none, none, none, none, none, none, none, none, none, none], st⟩ = some (.new (.lst ((List.range (TT n a w)).map fun t : Nat => .int (outP (FS n a) w ((t + 1 : Nat) : Int) - outP (FS n a) w (t : Int)))), ⟨[some (.d (.ref k)), some (.d (.tup (Row n a))), some (.d (.int w)), some (.d (.int (n : Int))), x4, some (.d (.lst (List.map D.int (ndL a w n)))), some (.d (.int (least (FS n a) w))), some (.d (.tup (Row n (aF a w)))), some (.d (.tup (List.map D.int (one n)))), some (.d (.tup (Row n (bF a w)))), some (.d (.int (least (FS n a) w))), some (.d (.tup ((List.range (TT n a w)).map fun t : Nat => D.tup (Row n (Gone w (one n) a t))))), some (.d (.lst ((List.range (TT n a w + 1)).map fun t : Nat => D.int (outP (FS n a) w (t : Int))))), none, none, none, none, none, none, none, none, none, none, none, none], st⟩) := Eq.trans ((f_lcmS ((f_zip (f_cons rfl (f_slc (f_n rfl) (p_e rfl (f_c _ _)) p_na rfl (hs)) rfl (f_cons rfl (f_n rfl) rfl (f_nil _))) ((congrFun hz _).trans rfl))) (fun t ht => ⟨_, f_lcB rfl (f_bin (f_n rfl) (f_n rfl) rfl rfl (bo_sub _ _)) rfl, rfl⟩) ((by first | decide | exact Ev.lim5 (by omega) | (simp only [List.length_map, List.length_range, List.length_append, List.length_cons, List.length_nil, row_len]; exact Ev.lim5 (by omega)) | (simp; exact Ev.lim5 (by omega)))) rfl)) rfl
  exact Eq.trans ((x_iffF (f_cmpT (lc1) (lc2) rfl rfl (hne)) (rfl) (xs_nil _))) rfl
theorem all_t {p : Nat → Bool} (h : ∀ c, c < n → p c = true) : ((List.range n).all p) = true := by
  rw [List.all_eq_true]; exact fun c hc => h c (List.mem_range.mp hc)
theorem r14 (st : List SO) (B : Big n a w) : exec G_41 FUEL (.iff (.or (.cmp .IsNot (.call "shows_order" [.v 1, .v 2, .v 9, .tup [.c (.str "order"), .v 8]]) (.c (.bl true))) (.cmp .NotEq (.idx (.call "order_told" [.v 1, .v 2, .v 9]) (.c (.int 0))) (.c (.str "order")))) [.ret (.c (.bl false))] []) ⟨[some (.d (.ref k)), some (.d (.tup (Row n a))), some (.d (.int w)), some (.d (.int (n : Int))), x4, some (.d (.lst (List.map D.int (ndL a w n)))), some (.d (.int (least (FS n a) w))), some (.d (.tup (Row n (aF a w)))), some (.d (.tup (List.map D.int (one n)))), some (.d (.tup (Row n (bF a w)))), some (.d (.int (least (FS n a) w))), some (.d (.tup ((List.range (TT n a w)).map fun t : Nat => D.tup (Row n (Gone w (one n) a t))))), some (.d (.lst ((List.range (TT n a w + 1)).map fun t : Nat => D.int (outP (FS n a) w (t : Int))))), none, none, none, none, none, none, none, none, none, none, none, none], st⟩ = some (.nx, ⟨[some (.d (.ref k)), some (.d (.tup (Row n a))), some (.d (.int w)), some (.d (.int (n : Int))), x4, some (.d (.lst (List.map D.int (ndL a w n)))), some (.d (.int (least (FS n a) w))), some (.d (.tup (Row n (aF a w)))), some (.d (.tup (List.map D.int (one n)))), some (.d (.tup (Row n (bF a w)))), some (.d (.int (least (FS n a) w))), some (.d (.tup ((List.range (TT n a w)).map fun t : Nat => D.tup (Row n (Gone w (one n) a t))))), some (.d (.lst ((List.range (TT n a w + 1)).map fun t : Nat => D.int (outP (FS n a) w (t : Int))))), none, none, none, none, none, none, none, none, none, none, none, none], st⟩) := by
  have hb : ∀ c, c < n → 0 ≤ bF a w c ∧ bF a w c ≤ 400 := fun c hc => by have := bF_bd B hc; omega
  have hlb : ∀ c, c < n → LastF w (one n) a (TT n a w) c ≤ bF a w c := fun c hc => by rw [last_one B hc]; exact Int.le_refl _
  have h1 := w_shows (bF a w) st B.toOkF B.W (run1 B) hb
  rw [all_t fun c hc => decide_eq_true (hlb c hc)] at h1
  have h2 := w_told (bF a w) st B.toOkF B.W (run1 B) hb (fun c hc => (aF_le B hc).2) hlb
  exact Eq.trans ((x_iffF (f_or2T (f_cmpT (f_callS fn_law_right_shows_order (f_cons rfl (f_n rfl) rfl (f_cons rfl (f_n rfl) rfl (f_cons rfl (f_n rfl) rfl (f_cons rfl (f_tup (f_cons rfl (f_c _ _) rfl (f_cons rfl (f_n rfl) rfl (f_nil _))) (lim_2)) rfl (f_nil _))))) (h1) rfl) (f_c _ _) rfl rfl (co_isnb _ _)) fun hk => (f_cmpT (f_idx (f_callS fn_law_right_order_told (f_cons rfl (f_n rfl) rfl (f_cons rfl (f_n rfl) rfl (f_cons rfl (f_n rfl) rfl (f_nil _)))) (h2) rfl) (f_c _ _) rfl rfl (rfl)) (f_c _ _) rfl rfl (ne_same _))) (rfl) (xs_nil _))) rfl
theorem r15 (st : List SO) (B : Big n a w) : exec G_41 FUEL (.asg (.v 13) (.lc [20, 21] (.tup [.v 20, .v 21]) (.enum (.v 1)) [] (.and (.cmp .Gt (.v 21) (.c (.int 0))) (.cmp .Gt (.idx (.v 9) (.v 20)) (.idx (.v 7) (.v 20)))))) ⟨[some (.d (.ref k)), some (.d (.tup (Row n a))), some (.d (.int w)), some (.d (.int (n : Int))), x4, some (.d (.lst (List.map D.int (ndL a w n)))), some (.d (.int (least (FS n a) w))), some (.d (.tup (Row n (aF a w)))), some (.d (.tup (List.map D.int (one n)))), some (.d (.tup (Row n (bF a w)))), some (.d (.int (least (FS n a) w))), some (.d (.tup ((List.range (TT n a w)).map fun t : Nat => D.tup (Row n (Gone w (one n) a t))))), some (.d (.lst ((List.range (TT n a w + 1)).map fun t : Nat => D.int (outP (FS n a) w (t : Int))))), none, none, none, none, none, none, none, none, none, none, none, none], st⟩ = some (.nx, ⟨[some (.d (.ref k)), some (.d (.tup (Row n a))), some (.d (.int w)), some (.d (.int (n : Int))), x4, some (.d (.lst (List.map D.int (ndL a w n)))), some (.d (.int (least (FS n a) w))), some (.d (.tup (Row n (aF a w)))), some (.d (.tup (List.map D.int (one n)))), some (.d (.tup (Row n (bF a w)))), some (.d (.int (least (FS n a) w))), some (.d (.tup ((List.range (TT n a w)).map fun t : Nat => D.tup (Row n (Gone w (one n) a t))))), some (.d (.lst ((List.range (TT n a w + 1)).map fun t : Nat => D.int (outP (FS n a) w (t : Int))))), some (.d (.lst ((List.range n).map fun c : Nat => D.bl (decide (0 < a c) && decide (aF a w c < bF a w c))))), none, none, none, none, none, none, none, none, none, none, none], st⟩) := by
  have h5 := B.l5
  have hen := en_row (n := n) (b := a) (by omega)
  exact Eq.trans ((x_asg (f_lcmS ((f_enum (f_n rfl) rfl ((congrFun hen _).trans rfl))) (fun c hc => ⟨_, f_lcB rfl (f_and2 (f_cmp (f_n rfl) (f_c _ _) rfl rfl (co_gt _ _)) fun hk => (f_cmp (f_idx (f_n rfl) (f_n rfl) rfl rfl (ix_row rfl (List.mem_range.mp hc) rfl)) (f_idx (f_n rfl) (f_n rfl) rfl rfl (ix_row rfl (List.mem_range.mp hc) rfl)) rfl rfl (co_gt _ _))) rfl, rfl⟩) ((by first | decide | exact Ev.lim5 (by omega) | (simp only [List.length_map, List.length_range, List.length_append, List.length_cons, List.length_nil, row_len]; exact Ev.lim5 (by omega)) | (simp; exact Ev.lim5 (by omega)))) rfl) rfl rfl)) rfl
theorem due_eq (B : Big n a w) : ((List.range n).all fun c => decide (LastF w (one n) a (TT n a w) c ≤ aF a w c)) = !((List.range n).any fun c => decide (0 < a c) && decide (aF a w c < bF a w c)) := by
  rw [List.not_any_eq_all_not]
  rw [Bool.eq_iff_iff, List.all_eq_true, List.all_eq_true]
  have key : ∀ c, c < n → (decide (LastF w (one n) a (TT n a w) c ≤ aF a w c) = true ↔ (!(decide (0 < a c) && decide (aF a w c < bF a w c))) = true) := by
    intro c hc
    rw [last_one B hc]
    have h1 := aF_le B hc
    by_cases h : 0 < a c
    · simp [h]
    · have := bF_z B h
      simp [h]
      omega
  exact ⟨fun h c hc => (key c (List.mem_range.mp hc)).mp (h c hc), fun h c hc => (key c (List.mem_range.mp hc)).mpr (h c hc)⟩
theorem r16 (st : List SO) (B : Big n a w) : exec G_41 FUEL (.iff (.cmp .NotEq (.bi .repr [.call "shows_order" [.v 1, .v 2, .v 7, .tup [.c (.str "order"), .v 8]]]) (.bi .repr [.not (.bi .any [.v 13])])) [.ret (.c (.bl false))] []) ⟨[some (.d (.ref k)), some (.d (.tup (Row n a))), some (.d (.int w)), some (.d (.int (n : Int))), x4, some (.d (.lst (List.map D.int (ndL a w n)))), some (.d (.int (least (FS n a) w))), some (.d (.tup (Row n (aF a w)))), some (.d (.tup (List.map D.int (one n)))), some (.d (.tup (Row n (bF a w)))), some (.d (.int (least (FS n a) w))), some (.d (.tup ((List.range (TT n a w)).map fun t : Nat => D.tup (Row n (Gone w (one n) a t))))), some (.d (.lst ((List.range (TT n a w + 1)).map fun t : Nat => D.int (outP (FS n a) w (t : Int))))), some (.d (.lst ((List.range n).map fun c : Nat => D.bl (decide (0 < a c) && decide (aF a w c < bF a w c))))), none, none, none, none, none, none, none, none, none, none, none], st⟩ = some (.nx, ⟨[some (.d (.ref k)), some (.d (.tup (Row n a))), some (.d (.int w)), some (.d (.int (n : Int))), x4, some (.d (.lst (List.map D.int (ndL a w n)))), some (.d (.int (least (FS n a) w))), some (.d (.tup (Row n (aF a w)))), some (.d (.tup (List.map D.int (one n)))), some (.d (.tup (Row n (bF a w)))), some (.d (.int (least (FS n a) w))), some (.d (.tup ((List.range (TT n a w)).map fun t : Nat => D.tup (Row n (Gone w (one n) a t))))), some (.d (.lst ((List.range (TT n a w + 1)).map fun t : Nat => D.int (outP (FS n a) w (t : Int))))), some (.d (.lst ((List.range n).map fun c : Nat => D.bl (decide (0 < a c) && decide (aF a w c < bF a w c))))), none, none, none, none, none, none, none, none, none, none, none], st⟩) := by
  have h1 := w_shows (aF a w) st B.toOkF B.W (run1 B) fun c hc => by have := aF_bd B hc; omega
  rw [due_eq B] at h1
  exact Eq.trans ((x_iffF (f_cmpT (f_bi1 (f_callS fn_law_right_shows_order (f_cons rfl (f_n rfl) rfl (f_cons rfl (f_n rfl) rfl (f_cons rfl (f_n rfl) rfl (f_cons rfl (f_tup (f_cons rfl (f_c _ _) rfl (f_cons rfl (f_n rfl) rfl (f_nil _))) (lim_2)) rfl (f_nil _))))) (h1) rfl) rfl (repr_bl _)) (f_bi1 (f_not (f_bi1 (f_n rfl) rfl (bi_anyX rfl))) rfl (repr_bl _)) rfl rfl (ne_same _)) (rfl) (xs_nil _))) rfl
end K72
end

section
set_option Elab.async false
set_option linter.all false
set_option maxRecDepth 100000
set_option maxHeartbeats 4000000
namespace K72
open Ev
open PySem (Str Operator CmpOp PyData)
variable {n : Nat} {a : Nat → Int} {w : Int} {k : Nat} {x4 x17 : Option EV}
theorem ord_runs (B : Big n a w) : ∀ o ∈ ORD n, RunOk n a w o (TT n a w) := fun o ho => run_ok B (ord_perm (by have := B.l5; omega) ho)
theorem wait_one (B : Big n a w) : waitF n a w (one n) (TT n a w) = mxL ((List.range n).map fun c => bF a w c - aF a w c) := by
  unfold waitF
  congr 1
  exact List.map_congr_left fun c hc => by rw [last_one B (List.mem_range.mp hc)]
theorem one_mem {n : Nat} (h1 : 1 ≤ n) (h5 : n ≤ 5) : one n ∈ ORD n := by
  obtain ⟨t, e⟩ := one_ord h1 h5
  rw [e]; exact List.mem_cons_self
theorem r17 (st : List SO) (B : Big n a w) : exec G_41 FUEL (.iff (.and (.cmp .LtE (.v 3) (.c (.int 4))) (.cmp .Gt (.idx (.call "fairest" [.v 1, .v 2]) (.c (.int 0))) (.bi .max [.lc [21, 24] (.tup [.v 21, .v 24]) (.zip [.v 9, .v 7]) [] (.bin .Sub (.v 21) (.v 24))]))) [.ret (.c (.bl false))] []) ⟨[some (.d (.ref k)), some (.d (.tup (Row n a))), some (.d (.int w)), some (.d (.int (n : Int))), x4, some (.d (.lst (List.map D.int (ndL a w n)))), some (.d (.int (least (FS n a) w))), some (.d (.tup (Row n (aF a w)))), some (.d (.tup (List.map D.int (one n)))), some (.d (.tup (Row n (bF a w)))), some (.d (.int (least (FS n a) w))), some (.d (.tup ((List.range (TT n a w)).map fun t : Nat => D.tup (Row n (Gone w (one n) a t))))), some (.d (.lst ((List.range (TT n a w + 1)).map fun t : Nat => D.int (outP (FS n a) w (t : Int))))), some (.d (.lst ((List.range n).map fun c : Nat => D.bl (decide (0 < a c) && decide (aF a w c < bF a w c))))), none, none, none, none, none, none, none, none, none, none, none], st⟩ = some (.nx, ⟨[some (.d (.ref k)), some (.d (.tup (Row n a))), some (.d (.int w)), some (.d (.int (n : Int))), x4, some (.d (.lst (List.map D.int (ndL a w n)))), some (.d (.int (least (FS n a) w))), some (.d (.tup (Row n (aF a w)))), some (.d (.tup (List.map D.int (one n)))), some (.d (.tup (Row n (bF a w)))), some (.d (.int (least (FS n a) w))), some (.d (.tup ((List.range (TT n a w)).map fun t : Nat => D.tup (Row n (Gone w (one n) a t))))), some (.d (.lst ((List.range (TT n a w + 1)).map fun t : Nat => D.int (outP (FS n a) w (t : Int))))), some (.d (.lst ((List.range n).map fun c : Nat => D.bl (decide (0 < a c) && decide (aF a w c < bF a w c))))), none, none, none, none, none, none, none, none, none, none, none], st⟩) := by
  have h5 := B.l5
  have h1 := B.l1
  obtain ⟨o, ho, e, hle⟩ := w_fairest st B.toOkF B.W (ord_runs B)
  have hle := hle _ (one_mem h1 h5)
  rw [wait_one B] at hle
  have hz : zipM [.tup (Row n (bF a w)), .tup (Row n (aF a w))] = ret ((List.range n).map fun c : Nat => D.tup [.int (bF a w c), .int (aF a w c)]) := by
    rw [zp_2]
    show ret (zipD (Row n (bF a w)) (Row n (aF a w))) = _
    unfold Row
    rw [zipD_map]
  have lc : ev G_41 (.lc [21, 24] (.tup [.v 21, .v 24]) (.zip [.v 9, .v 7]) [] (.bin .Sub (.v 21) (.v 24))) ⟨[some (.d (.ref k)), some (.d (.tup (Row n a))), some (.d (.int w)), some (.d (.int (n : Int))), x4, some (.d (.lst (List.map D.int (ndL a w n)))), some (.d (.int (least (FS n a) w))), some (.d (.tup (Row n (aF a w)))), some (.d (.tup (List.map D.int (one n)))), some (.d (.tup (Row n (bF a w)))), some (.d (.int (least (FS n a) w))), some (.d (.tup ((List.range (TT n a w)).map fun t : Nat => D.tup (Row n (Gone w (one n) a t))))), some (.d (.lst ((List.range (TT n a w + 1)).map fun t : Nat => D.int (outP (FS n a) w (t : Int))))), some (.d (.lst ((List.range n).map fun c : Nat => D.bl (decide (0 < a c) && decide (aF a w c < bF a w c))))), none, none, none, none, none, none, none, none, none, none, none], st⟩ = some (.new (.lst ((List.range n).map fun c : Nat => .int (bF a w c - aF a w c))), ⟨[some (.d (.ref k)), some (.d (.tup (Row n a))), some (.d (.int w)), some (.d (.int (n : Int))), x4, some (.d (.lst (List.map D.int (ndL a w n)))), some (.d (.int (least (FS n a) w))), some (.d (.tup (Row n (aF a w)))), some (.d (.tup (List.map D.int (one n)))), some (.d (.tup (Row n (bF a w)))), some (.d (.int (least (FS n a) w))), some (.d (.tup ((List.range (TT n a w)).map fun t : Nat => D.tup (Row n (Gone w (one n) a t))))), some (.d (.lst ((List.range (TT n a w + 1)).map fun t : Nat => D.int (outP (FS n a) w (t : Int))))), some (.d (.lst ((List.range n).map fun c : Nat => D.bl (decide (0 < a c) && decide (aF a w c < bF a w c))))), none, none, none, none, none, none, none, none, none, none, none], st⟩) := Eq.trans ((f_lcmS ((f_zip (f_cons rfl (f_n rfl) rfl (f_cons rfl (f_n rfl) rfl (f_nil _))) ((congrFun hz _).trans rfl))) (fun t ht => ⟨_, f_lcB rfl (f_bin (f_n rfl) (f_n rfl) rfl rfl (bo_sub _ _)) rfl, rfl⟩) ((by first | decide | exact Ev.lim5 (by omega) | (simp only [List.length_map, List.length_range, List.length_append, List.length_cons, List.length_nil, row_len]; exact Ev.lim5 (by omega)) | (simp; exact Ev.lim5 (by omega)))) rfl)) rfl
  have hm : biop .max [.own (.lst ((List.range n).map fun c : Nat => .int (bF a w c - aF a w c)))] = some (.d (.int (mxL ((List.range n).map fun c => bF a w c - aF a w c)))) := bi_maxL _ _ (by show some _ = some _; rw [List.map_map]; rfl) (by simpa using range_ne h1)
  exact Eq.trans ((x_iffF (f_and2T (f_cmpT (f_n rfl) (f_c _ _) rfl rfl (co_le _ _)) fun hk => (f_cmpT (f_idx (f_callS fn_law_right_fairest (f_cons rfl (f_n rfl) rfl (f_cons rfl (f_n rfl) rfl (f_nil _))) (e) rfl) (f_c _ _) rfl rfl (rfl)) (f_bi1 (lc) rfl (hm)) rfl rfl (co_gt _ _))) ((by simp; omega)) (xs_nil _))) rfl
theorem r18 (st : List SO) (B : Big n a w) : ∃ x17, exec G_41 FUEL (.iff (.and (.cmp .Gt (.bi .sum [.v 1]) (.c (.int 0))) (.cmp .Lt (.v 3) (.c (.int 5)))) [.iff (.cmp .NotEq (.bi .repr [.idx (.call "down_told" [.bin .Add (.tup [.c (.int 0)]) (.v 1), .v 2]) (.c (.int 0))]) (.bi .repr [.bin .Add (.v 6) (.c (.int 1))])) [.ret (.c (.bl false))] [], .asg (.v 17) (.bin .Add (.tup [.c (.int 0)]) (.bi .tuple [.lc [21] (.v 21) (.of (.v 9)) [] (.bin .Add (.v 21) (.bi .int [.cmp .Gt (.v 21) (.c (.int 0))]))])), .iff (.cmp .NotEq (.bi .repr [.call "last_out" [.bin .Add (.tup [.c (.int 0)]) (.v 1), .v 2, .coll false (.range [.c (.int 1), .bin .Add (.v 3) (.c (.int 2))])]]) (.bi .repr [.v 17])) [.ret (.c (.bl false))] []] []) ⟨[some (.d (.ref k)), some (.d (.tup (Row n a))), some (.d (.int w)), some (.d (.int (n : Int))), x4, some (.d (.lst (List.map D.int (ndL a w n)))), some (.d (.int (least (FS n a) w))), some (.d (.tup (Row n (aF a w)))), some (.d (.tup (List.map D.int (one n)))), some (.d (.tup (Row n (bF a w)))), some (.d (.int (least (FS n a) w))), some (.d (.tup ((List.range (TT n a w)).map fun t : Nat => D.tup (Row n (Gone w (one n) a t))))), some (.d (.lst ((List.range (TT n a w + 1)).map fun t : Nat => D.int (outP (FS n a) w (t : Int))))), some (.d (.lst ((List.range n).map fun c : Nat => D.bl (decide (0 < a c) && decide (aF a w c < bF a w c))))), none, none, none, none, none, none, none, none, none, none, none], st⟩ = some (.nx, ⟨[some (.d (.ref k)), some (.d (.tup (Row n a))), some (.d (.int w)), some (.d (.int (n : Int))), x4, some (.d (.lst (List.map D.int (ndL a w n)))), some (.d (.int (least (FS n a) w))), some (.d (.tup (Row n (aF a w)))), some (.d (.tup (List.map D.int (one n)))), some (.d (.tup (Row n (bF a w)))), some (.d (.int (least (FS n a) w))), some (.d (.tup ((List.range (TT n a w)).map fun t : Nat => D.tup (Row n (Gone w (one n) a t))))), some (.d (.lst ((List.range (TT n a w + 1)).map fun t : Nat => D.int (outP (FS n a) w (t : Int))))), some (.d (.lst ((List.range n).map fun c : Nat => D.bl (decide (0 < a c) && decide (aF a w c < bF a w c))))), none, none, none, x17, none, none, none, none, none, none, none], st⟩) := by
  have h5 := B.l5
  have h1 := B.l1
  have hsum : biop .sum [.d (.tup (Row n a))] = some (.d (.int (pre a n))) := bi_sumR n a _ rfl
  by_cases q : 0 < pre a n ∧ n < 5
  · obtain ⟨q1, q2⟩ := q
    have B2 := shf_big B q2
    have ha : binop .Add (.d (.tup [.int 0])) (.d (.tup (Row n a))) = some (.d (.tup (Row (n + 1) (shf a)))) := by
      rw [bo_addT, if_pos (by rw [row_len]; exact Ev.lim5 (by simp; omega)), List.singleton_append, shf_row]
    obtain ⟨d, e⟩ := w_down_told st B2.toOkF B2.W
    rw [shf_least B.w0 h1 q1] at e
    have l := least_bd' B2
    rw [shf_least B.w0 h1 q1] at l
    have hr := repr_int (i := least (FS n a) w + 1) (by omega)
    have lb : ∀ c, c < n + 1 → bF (shf a) w c = shf (fun c => bF a w c + (if 0 < bF a w c then 1 else 0)) c := by
      intro c hc
      cases c with
      | zero => exact bF_z B2 (by show ¬ (0 : Int) < 0; omega)
      | succ c => exact shf_bF B (by omega)
    have hl : den_last_out [.tup (Row (n + 1) (shf a)), .int w, .tup (List.map D.int (one (n + 1)))] st = some (.d (.tup (Row (n + 1) (shf fun c => bF a w c + (if 0 < bF a w c then 1 else 0)))), st) := by
      rw [w_last_out st B2.toOkF B2.W (.refl _) (run1 B2), row_ext fun c hc => (last_one B2 hc).trans (lb c hc)]
    have hr2 := repr_row (n := n + 1) (a := shf fun c => bF a w c + (if 0 < bF a w c then 1 else 0)) (by omega) fun c hc => by
      rw [← lb c hc]; have := bF_bd B2 hc; omega
    have lc : ev G_41 (.lc [21] (.v 21) (.of (.v 9)) [] (.bin .Add (.v 21) (.bi .int [.cmp .Gt (.v 21) (.c (.int 0))]))) ⟨[some (.d (.ref k)), some (.d (.tup (Row n a))), some (.d (.int w)), some (.d (.int (n : Int))), x4, some (.d (.lst (List.map D.int (ndL a w n)))), some (.d (.int (least (FS n a) w))), some (.d (.tup (Row n (aF a w)))), some (.d (.tup (List.map D.int (one n)))), some (.d (.tup (Row n (bF a w)))), some (.d (.int (least (FS n a) w))), some (.d (.tup ((List.range (TT n a w)).map fun t : Nat => D.tup (Row n (Gone w (one n) a t))))), some (.d (.lst ((List.range (TT n a w + 1)).map fun t : Nat => D.int (outP (FS n a) w (t : Int))))), some (.d (.lst ((List.range n).map fun c : Nat => D.bl (decide (0 < a c) && decide (aF a w c < bF a w c))))), none, none, none, none, none, none, none, none, none, none, none], st⟩ = some (.new (.lst (Row n fun c => bF a w c + (if 0 < bF a w c then 1 else 0))), ⟨[some (.d (.ref k)), some (.d (.tup (Row n a))), some (.d (.int w)), some (.d (.int (n : Int))), x4, some (.d (.lst (List.map D.int (ndL a w n)))), some (.d (.int (least (FS n a) w))), some (.d (.tup (Row n (aF a w)))), some (.d (.tup (List.map D.int (one n)))), some (.d (.tup (Row n (bF a w)))), some (.d (.int (least (FS n a) w))), some (.d (.tup ((List.range (TT n a w)).map fun t : Nat => D.tup (Row n (Gone w (one n) a t))))), some (.d (.lst ((List.range (TT n a w + 1)).map fun t : Nat => D.int (outP (FS n a) w (t : Int))))), some (.d (.lst ((List.range n).map fun c : Nat => D.bl (decide (0 < a c) && decide (aF a w c < bF a w c))))), none, none, none, none, none, none, none, none, none, none, none], st⟩) := by
      refine Eq.trans ((f_lcmS (xs := List.range n) (φ := fun c => .int (bF a w c)) ((f_of (f_n rfl) rfl (rfl))) (fun t ht => ⟨_, f_lcB rfl (f_bin (f_n rfl) (f_bi1 (f_cmp (f_n rfl) (f_c _ _) rfl rfl (co_gt _ _)) rfl (bi_intb _)) rfl rfl (bo_add _ _)) rfl, rfl⟩) ((by first | decide | exact Ev.lim5 (by omega) | (simp only [List.length_map, List.length_range, List.length_append, List.length_cons, List.length_nil, row_len]; exact Ev.lim5 (by omega)) | (simp; exact Ev.lim5 (by omega)))) rfl)) ?_
      unfold Row
      simp only [decide_eq_true_eq]
      rfl
    have ha2 : binop .Add (.d (.tup [.int 0])) (.d (.tup (Row n fun c => bF a w c + (if 0 < bF a w c then 1 else 0)))) = some (.d (.tup (Row (n + 1) (shf fun c => bF a w c + (if 0 < bF a w c then 1 else 0))))) := by
      rw [bo_addT, if_pos (by rw [row_len]; exact Ev.lim5 (by simp; omega)), List.singleton_append, shf_row]
    have hrng : ev G_41 (.coll false (.range [.c (.int 1), .bin .Add (.v 3) (.c (.int 2))])) ⟨([some (.d (.ref k)), some (.d (.tup (Row n a))), some (.d (.int w)), some (.d (.int (n : Int))), x4, some (.d (.lst (List.map D.int (ndL a w n)))), some (.d (.int (least (FS n a) w))), some (.d (.tup (Row n (aF a w)))), some (.d (.tup (List.map D.int (one n)))), some (.d (.tup (Row n (bF a w)))), some (.d (.int (least (FS n a) w))), some (.d (.tup ((List.range (TT n a w)).map fun t : Nat => D.tup (Row n (Gone w (one n) a t))))), some (.d (.lst ((List.range (TT n a w + 1)).map fun t : Nat => D.int (outP (FS n a) w (t : Int))))), some (.d (.lst ((List.range n).map fun c : Nat => D.bl (decide (0 < a c) && decide (aF a w c < bF a w c))))), none, none, none, none, none, none, none, none, none, none, none]).set 17 (some (.d (.tup (Row (n + 1) (shf fun c => bF a w c + (if 0 < bF a w c then 1 else 0)))))), st⟩ = some (.d (.tup (List.map D.int (one (n + 1)))), ⟨([some (.d (.ref k)), some (.d (.tup (Row n a))), some (.d (.int w)), some (.d (.int (n : Int))), x4, some (.d (.lst (List.map D.int (ndL a w n)))), some (.d (.int (least (FS n a) w))), some (.d (.tup (Row n (aF a w)))), some (.d (.tup (List.map D.int (one n)))), some (.d (.tup (Row n (bF a w)))), some (.d (.int (least (FS n a) w))), some (.d (.tup ((List.range (TT n a w)).map fun t : Nat => D.tup (Row n (Gone w (one n) a t))))), some (.d (.lst ((List.range (TT n a w + 1)).map fun t : Nat => D.int (outP (FS n a) w (t : Int))))), some (.d (.lst ((List.range n).map fun c : Nat => D.bl (decide (0 < a c) && decide (aF a w c < bF a w c))))), none, none, none, none, none, none, none, none, none, none, none]).set 17 (some (.d (.tup (Row (n + 1) (shf fun c => bF a w c + (if 0 < bF a w c then 1 else 0)))))), st⟩) := by
      refine Eq.trans ((f_coll (evI_rng (n := n + 1) (f_c _ _) (f_bin (f_n rfl) (f_c _ _) rfl rfl (bo_add _ _)) (by omega) (by omega) (by omega)) ((by first | decide | exact Ev.lim5 (by omega) | (simp only [List.length_map, List.length_range, List.length_append, List.length_cons, List.length_nil, row_len]; exact Ev.lim5 (by omega)) | (simp; exact Ev.lim5 (by omega)))))) ?_
      rw [← one_map (n + 1)]
      rfl
    refine ⟨_, Eq.trans ((x_iffT (f_and2T (f_cmpT (f_bi1 (f_n rfl) rfl (hsum)) (f_c _ _) rfl rfl (co_gt _ _)) fun hk => (f_cmpT (f_n rfl) (f_c _ _) rfl rfl (co_lt _ _))) ((by simp; omega)) (xs_cons (x_iffF (f_cmpT (f_bi1 (f_idx (f_callS fn_law_right_down_told (f_cons rfl (f_bin (f_tup (f_cons rfl (f_c _ _) rfl (f_nil _)) (lim_1)) (f_n rfl) rfl rfl (ha)) rfl (f_cons rfl (f_n rfl) rfl (f_nil _))) (e) rfl) (f_c _ _) rfl rfl (rfl)) rfl (hr)) (f_bi1 (f_bin (f_n rfl) (f_c _ _) rfl rfl (bo_add _ _)) rfl (hr)) rfl rfl (ne_same _)) (rfl) (xs_nil _)) (xs_cons (x_asg (f_bin (f_tup (f_cons rfl (f_c _ _) rfl (f_nil _)) (lim_1)) (f_bi1 (lc) rfl (rfl)) rfl rfl (ha2)) rfl rfl) (xs_cons (x_iffF (f_cmpT (f_bi1 (f_callS fn_law_right_last_out (f_cons rfl (f_bin (f_tup (f_cons rfl (f_c _ _) rfl (f_nil _)) (lim_1)) (f_n rfl) rfl rfl (ha)) rfl (f_cons rfl (f_n rfl) rfl (f_cons rfl (hrng) rfl (f_nil _)))) (hl) rfl) rfl (hr2)) (f_bi1 (f_n rfl) rfl (hr2)) rfl rfl (ne_same _)) (rfl) (xs_nil _)) (xs_nil _)))))) rfl⟩
  · exact ⟨none, Eq.trans ((x_iffF (f_and2T (f_cmpT (f_bi1 (f_n rfl) rfl (hsum)) (f_c _ _) rfl rfl (co_gt _ _)) fun hk => (f_cmpT (f_n rfl) (f_c _ _) rfl rfl (co_lt _ _))) ((by simp; omega)) (xs_nil _))) rfl⟩
theorem r19 (st : List SO) (B : Big n a w) : exec G_41 FUEL (.asg (.v 14) (.bi .tuple [.lc [22] (.v 22) (.of (.v 1)) [] (.bi .min [.c (.int 4), .v 22])])) ⟨[some (.d (.ref k)), some (.d (.tup (Row n a))), some (.d (.int w)), some (.d (.int (n : Int))), x4, some (.d (.lst (List.map D.int (ndL a w n)))), some (.d (.int (least (FS n a) w))), some (.d (.tup (Row n (aF a w)))), some (.d (.tup (List.map D.int (one n)))), some (.d (.tup (Row n (bF a w)))), some (.d (.int (least (FS n a) w))), some (.d (.tup ((List.range (TT n a w)).map fun t : Nat => D.tup (Row n (Gone w (one n) a t))))), some (.d (.lst ((List.range (TT n a w + 1)).map fun t : Nat => D.int (outP (FS n a) w (t : Int))))), some (.d (.lst ((List.range n).map fun c : Nat => D.bl (decide (0 < a c) && decide (aF a w c < bF a w c))))), none, none, none, x17, none, none, none, none, none, none, none], st⟩ = some (.nx, ⟨[some (.d (.ref k)), some (.d (.tup (Row n a))), some (.d (.int w)), some (.d (.int (n : Int))), x4, some (.d (.lst (List.map D.int (ndL a w n)))), some (.d (.int (least (FS n a) w))), some (.d (.tup (Row n (aF a w)))), some (.d (.tup (List.map D.int (one n)))), some (.d (.tup (Row n (bF a w)))), some (.d (.int (least (FS n a) w))), some (.d (.tup ((List.range (TT n a w)).map fun t : Nat => D.tup (Row n (Gone w (one n) a t))))), some (.d (.lst ((List.range (TT n a w + 1)).map fun t : Nat => D.int (outP (FS n a) w (t : Int))))), some (.d (.lst ((List.range n).map fun c : Nat => D.bl (decide (0 < a c) && decide (aF a w c < bF a w c))))), some (.d (.tup (Row n fun c => min 4 (a c)))), none, none, x17, none, none, none, none, none, none, none], st⟩) := by
  have h5 := B.l5
  exact Eq.trans ((x_asg (f_bi1 (f_lcmS (xs := List.range n) (φ := fun c => .int (a c)) ((f_of (f_n rfl) rfl (rfl))) (fun t ht => ⟨_, f_lcB rfl (f_bi2 (f_c _ _) (f_n rfl) rfl rfl (bi_min2 _ _)) rfl, rfl⟩) ((by first | decide | exact Ev.lim5 (by omega) | (simp only [List.length_map, List.length_range, List.length_append, List.length_cons, List.length_nil, row_len]; exact Ev.lim5 (by omega)) | (simp; exact Ev.lim5 (by omega)))) rfl) rfl (rfl)) rfl rfl)) rfl
def f4 (a : Nat → Int) (m : Nat) : Nat → Int := fun c => if c < m then min 4 (a c) else 0
theorem f4_row (a : Nat → Int) (m : Nat) : Row m (fun c => min 4 (a c)) = Row m (f4 a m) := row_ext fun c hc => by unfold f4; rw [if_pos hc]
theorem r20 (st : List SO) (B : Big n a w) : exec G_41 FUEL (.iff (.or (.cmp .NotEq (.bi .repr [.call "last_out" [.v 14, .c (.int 20), .rev (.v 8)]]) (.bi .repr [.call "alone_out" [.v 14, .c (.int 20)]])) (.cmp .NotEq (.idx (.call "fairest" [.slc (.v 14) (.na) (.c (.int 4)), .c (.int 20)]) (.c (.int 0))) (.c (.int 0)))) [.ret (.c (.bl false))] []) ⟨[some (.d (.ref k)), some (.d (.tup (Row n a))), some (.d (.int w)), some (.d (.int (n : Int))), x4, some (.d (.lst (List.map D.int (ndL a w n)))), some (.d (.int (least (FS n a) w))), some (.d (.tup (Row n (aF a w)))), some (.d (.tup (List.map D.int (one n)))), some (.d (.tup (Row n (bF a w)))), some (.d (.int (least (FS n a) w))), some (.d (.tup ((List.range (TT n a w)).map fun t : Nat => D.tup (Row n (Gone w (one n) a t))))), some (.d (.lst ((List.range (TT n a w + 1)).map fun t : Nat => D.int (outP (FS n a) w (t : Int))))), some (.d (.lst ((List.range n).map fun c : Nat => D.bl (decide (0 < a c) && decide (aF a w c < bF a w c))))), some (.d (.tup (Row n fun c => min 4 (a c)))), none, none, x17, none, none, none, none, none, none, none], st⟩ = some (.nx, ⟨[some (.d (.ref k)), some (.d (.tup (Row n a))), some (.d (.int w)), some (.d (.int (n : Int))), x4, some (.d (.lst (List.map D.int (ndL a w n)))), some (.d (.int (least (FS n a) w))), some (.d (.tup (Row n (aF a w)))), some (.d (.tup (List.map D.int (one n)))), some (.d (.tup (Row n (bF a w)))), some (.d (.int (least (FS n a) w))), some (.d (.tup ((List.range (TT n a w)).map fun t : Nat => D.tup (Row n (Gone w (one n) a t))))), some (.d (.lst ((List.range (TT n a w + 1)).map fun t : Nat => D.int (outP (FS n a) w (t : Int))))), some (.d (.lst ((List.range n).map fun c : Nat => D.bl (decide (0 < a c) && decide (aF a w c < bF a w c))))), some (.d (.tup (Row n fun c => min 4 (a c)))), none, none, x17, none, none, none, none, none, none, none], st⟩) := by
  have h5 := B.l5
  have h1 := B.l1
  have B4 : Big n (f4 a n) 20 := few_big B n h1 (Nat.le_refl _)
  have hp : (one n).reverse.Perm (one n) := List.reverse_perm _
  have hl : den_last_out [.tup (Row n fun c => min 4 (a c)), .int 20, .tup (List.map D.int (one n).reverse)] st = some (.d (.tup (Row n (aF (f4 a n) 20))), st) := by
    rw [f4_row, w_last_out st B4.toOkF B4.W hp (run_ok B4 hp), row_ext fun c hc => few_last B4 hp (few_4 a n) hc]
  have hal : den_alone_out [.tup (Row n fun c => min 4 (a c)), .int 20] st = some (.d (.tup (Row n (aF (f4 a n) 20))), st) := by
    rw [f4_row]; exact w_alone_out st B4.toOkF B4.W
  have hr := repr_row (n := n) (a := aF (f4 a n) 20) (by omega) fun c hc => by have := aF_bd B4 hc; omega
  have hm1 : 1 ≤ min n 4 := by omega
  have hm2 : min n 4 ≤ n := by omega
  have B5 : Big (min n 4) (f4 a (min n 4)) 20 := few_big B (min n 4) hm1 hm2
  obtain ⟨o, ho, e, _⟩ := w_fairest st B5.toOkF B5.W (ord_runs B5)
  rw [few_wait B5 (ord_perm (by omega) ho) (few_4 a (min n 4)), ← f4_row] at e
  have hs : slcop (.d (.tup (Row n fun c => min 4 (a c)))) none (some 4) = some (.d (.tup (Row (min n 4) fun c => min 4 (a c)))) := by
    rw [sl_tup]
    by_cases h : 4 ≤ n
    · rw [cut_rowT (n := n) (k := 4) (i := 4) h rfl, Nat.min_eq_right h]
    · rw [Nat.min_eq_left (by omega)]
      unfold cutD
      rw [HT.sIx_none, row_len]
      have : HT.sIx n n (some 4) = n := by
        rw [show (4 : Int) = ((4 : Nat) : Int) from rfl, HT.sIx_nat]; omega
      rw [this, Nat.sub_zero, List.drop_zero, List.take_of_length_le (by rw [row_len]; omega)]
  have hrev : revop (.d (.tup (List.map D.int (one n)))) = some (.d (.tup (List.map D.int (one n).reverse))) := by
    rw [rv_tup, List.map_reverse]
  exact Eq.trans ((x_iffF (f_or2T (f_cmpT (f_bi1 (f_callS fn_law_right_last_out (f_cons rfl (f_n rfl) rfl (f_cons rfl (f_c _ _) rfl (f_cons rfl (f_rev (f_n rfl) rfl (hrev)) rfl (f_nil _)))) (hl) rfl) rfl (hr)) (f_bi1 (f_callS fn_law_right_alone_out (f_cons rfl (f_n rfl) rfl (f_cons rfl (f_c _ _) rfl (f_nil _))) (hal) rfl) rfl (hr)) rfl rfl (ne_same _)) fun hk => (f_cmpT (f_idx (f_callS fn_law_right_fairest (f_cons rfl (f_slc (f_n rfl) p_na (p_e rfl (f_c _ _)) rfl (hs)) rfl (f_cons rfl (f_c _ _) rfl (f_nil _))) (e) rfl) (f_c _ _) rfl rfl (rfl)) (f_c _ _) rfl rfl (co_ne _ _))) (rfl) (xs_nil _))) rfl
theorem r21 (st : List SO) (B : Big n a w) : ∃ x15 x18, exec G_41 FUEL (.for (.v 15) (.range [.c (.int 1), .bin .Add (.v 3) (.c (.int 1))]) [.asg (.v 18) (.ite (.cmp .Gt (.bi .sum [.slc (.v 1) (.bin .Sub (.v 15) (.c (.int 1))) (.na)]) (.c (.int 0))) (.bin .Add (.bin .Sub (.v 15) (.c (.int 1))) (.call "_law_up" [.bi .sum [.slc (.v 1) (.bin .Sub (.v 15) (.c (.int 1))) (.na)], .v 2])) (.c (.non))), .iff (.cmp .NotEq (.bi .repr [.call "shows_down" [.v 1, .v 2, .tup [.v 6, .v 15]]]) (.bi .repr [.and (.cmp .IsNot (.v 18) (.c (.non))) (.cmp .Eq (.v 18) (.v 6))])) [.ret (.c (.bl false))] []]) ⟨[some (.d (.ref k)), some (.d (.tup (Row n a))), some (.d (.int w)), some (.d (.int (n : Int))), x4, some (.d (.lst (List.map D.int (ndL a w n)))), some (.d (.int (least (FS n a) w))), some (.d (.tup (Row n (aF a w)))), some (.d (.tup (List.map D.int (one n)))), some (.d (.tup (Row n (bF a w)))), some (.d (.int (least (FS n a) w))), some (.d (.tup ((List.range (TT n a w)).map fun t : Nat => D.tup (Row n (Gone w (one n) a t))))), some (.d (.lst ((List.range (TT n a w + 1)).map fun t : Nat => D.int (outP (FS n a) w (t : Int))))), some (.d (.lst ((List.range n).map fun c : Nat => D.bl (decide (0 < a c) && decide (aF a w c < bF a w c))))), some (.d (.tup (Row n fun c => min 4 (a c)))), none, none, x17, none, none, none, none, none, none, none], st⟩ = some (.nx, ⟨[some (.d (.ref k)), some (.d (.tup (Row n a))), some (.d (.int w)), some (.d (.int (n : Int))), x4, some (.d (.lst (List.map D.int (ndL a w n)))), some (.d (.int (least (FS n a) w))), some (.d (.tup (Row n (aF a w)))), some (.d (.tup (List.map D.int (one n)))), some (.d (.tup (Row n (bF a w)))), some (.d (.int (least (FS n a) w))), some (.d (.tup ((List.range (TT n a w)).map fun t : Nat => D.tup (Row n (Gone w (one n) a t))))), some (.d (.lst ((List.range (TT n a w + 1)).map fun t : Nat => D.int (outP (FS n a) w (t : Int))))), some (.d (.lst ((List.range n).map fun c : Nat => D.bl (decide (0 < a c) && decide (aF a w c < bF a w c))))), some (.d (.tup (Row n fun c => min 4 (a c)))), x15, none, x17, x18, none, none, none, none, none, none], st⟩) := by
  have h5 := B.l5
  have h1 := B.l1
  have w1 := B.W.lo
  have w2 := B.W.hi
  obtain ⟨s', e, x15, x18, rfl⟩ := for_rng (Γ := G_41) (m := FUEL) (t := .v 15) (it := (.range [.c (.int 1), .bin .Add (.v 3) (.c (.int 1))])) (body := ([.asg (.v 18) (.ite (.cmp .Gt (.bi .sum [.slc (.v 1) (.bin .Sub (.v 15) (.c (.int 1))) (.na)]) (.c (.int 0))) (.bin .Add (.bin .Sub (.v 15) (.c (.int 1))) (.call "_law_up" [.bi .sum [.slc (.v 1) (.bin .Sub (.v 15) (.c (.int 1))) (.na)], .v 2])) (.c (.non))), .iff (.cmp .NotEq (.bi .repr [.call "shows_down" [.v 1, .v 2, .tup [.v 6, .v 15]]]) (.bi .repr [.and (.cmp .IsNot (.v 18) (.c (.non))) (.cmp .Eq (.v 18) (.v 6))])) [.ret (.c (.bl false))] []])) (ss := ⟨[some (.d (.ref k)), some (.d (.tup (Row n a))), some (.d (.int w)), some (.d (.int (n : Int))), x4, some (.d (.lst (List.map D.int (ndL a w n)))), some (.d (.int (least (FS n a) w))), some (.d (.tup (Row n (aF a w)))), some (.d (.tup (List.map D.int (one n)))), some (.d (.tup (Row n (bF a w)))), some (.d (.int (least (FS n a) w))), some (.d (.tup ((List.range (TT n a w)).map fun t : Nat => D.tup (Row n (Gone w (one n) a t))))), some (.d (.lst ((List.range (TT n a w + 1)).map fun t : Nat => D.int (outP (FS n a) w (t : Int))))), some (.d (.lst ((List.range n).map fun c : Nat => D.bl (decide (0 < a c) && decide (aF a w c < bF a w c))))), some (.d (.tup (Row n fun c => min 4 (a c)))), none, none, x17, none, none, none, none, none, none, none], st⟩) (n := n) (φ := fun k : Nat => .int (1 + (k : Int)))
    (fun c s => ∃ x15 x18, s = ⟨[some (.d (.ref k)), some (.d (.tup (Row n a))), some (.d (.int w)), some (.d (.int (n : Int))), x4, some (.d (.lst (List.map D.int (ndL a w n)))), some (.d (.int (least (FS n a) w))), some (.d (.tup (Row n (aF a w)))), some (.d (.tup (List.map D.int (one n)))), some (.d (.tup (Row n (bF a w)))), some (.d (.int (least (FS n a) w))), some (.d (.tup ((List.range (TT n a w)).map fun t : Nat => D.tup (Row n (Gone w (one n) a t))))), some (.d (.lst ((List.range (TT n a w + 1)).map fun t : Nat => D.int (outP (FS n a) w (t : Int))))), some (.d (.lst ((List.range n).map fun c : Nat => D.bl (decide (0 < a c) && decide (aF a w c < bF a w c))))), some (.d (.tup (Row n fun c => min 4 (a c)))), x15, none, x17, x18, none, none, none, none, none, none], st⟩)
    ((evI_rng (n := n) (f_c _ _) (f_bin (f_n rfl) (f_c _ _) rfl rfl (bo_add _ _)) (by omega) (by omega) (by omega)))
    ⟨_, _, rfl⟩ (by
      rintro f hf _ ⟨x15, x18, rfl⟩
      have hs : biop .sum [.d (.tup ((((List.range n).map a).drop f).map .int))] = some (.d (.int (pre a n - pre a f))) := (bi_sumX rfl).trans (by rw [FS_drop (by omega)])
      have hsd := w_shows_down st B f hf
      rw [show (f : Int) + 1 = 1 + (f : Int) by omega, sdR_eq B hf] at hsd
      by_cases q : 0 < pre a n - pre a f
      · rw [if_pos q] at hsd
        refine ⟨_, _, .nx, rfl, ok_nx ((xs_cons (x_asg (f_iteT (f_cmpT (f_bi1 (f_slc (f_n rfl) (p_e rfl (f_bin (f_n rfl) (f_c _ _) rfl rfl (bo_sub _ _))) p_na rfl (sl_rowD f (by omega) (by omega))) rfl (hs)) (f_c _ _) rfl rfl (co_gt _ _)) (decide_eq_true q) (f_bin (f_bin (f_n rfl) (f_c _ _) rfl rfl (bo_sub _ _)) (f_callS fn_law_right_law_up (f_cons rfl (f_bi1 (f_slc (f_n rfl) (p_e rfl (f_bin (f_n rfl) (f_c _ _) rfl rfl (bo_sub _ _))) p_na rfl (sl_rowD f (by omega) (by omega))) rfl (hs)) rfl (f_cons rfl (f_n rfl) rfl (f_nil _))) (v_law_up _ w st (by omega) (by omega)) rfl) rfl rfl (bo_add _ _))) rfl rfl) (xs_cons (x_iffF (f_cmpT (f_bi1 (f_callS fn_law_right_shows_down (f_cons rfl (f_n rfl) rfl (f_cons rfl (f_n rfl) rfl (f_cons rfl (f_tup (f_cons rfl (f_n rfl) rfl (f_cons rfl (f_n rfl) rfl (f_nil _))) (lim_2)) rfl (f_nil _)))) (hsd) rfl) rfl (repr_bl _)) (f_bi1 (f_and2 (f_cmp (f_n rfl) (f_c _ _) rfl rfl (co_isnN _)) fun hk => (f_cmp (f_n rfl) (f_n rfl) rfl rfl (co_eq _ _))) rfl (repr_bl _)) rfl rfl ((by rw [show 1 + (f : Int) - 1 = (f : Int) by omega]; exact ne_same _))) (rfl) (xs_nil _)) (xs_nil _)))) ?_, .inl rfl, some (.d (.int (1 + (f : Int)))), some (.d (.int (1 + (f : Int) - 1 + up (pre a n - pre a f) w))), rfl⟩
        rfl
      · rw [if_neg q] at hsd
        refine ⟨_, _, .nx, rfl, ok_nx ((xs_cons (x_asg (f_iteF (f_cmpT (f_bi1 (f_slc (f_n rfl) (p_e rfl (f_bin (f_n rfl) (f_c _ _) rfl rfl (bo_sub _ _))) p_na rfl (sl_rowD f (by omega) (by omega))) rfl (hs)) (f_c _ _) rfl rfl (co_gt _ _)) (decide_eq_false q) (f_c _ _)) rfl rfl) (xs_cons (x_iffF (f_cmpT (f_bi1 (f_callS fn_law_right_shows_down (f_cons rfl (f_n rfl) rfl (f_cons rfl (f_n rfl) rfl (f_cons rfl (f_tup (f_cons rfl (f_n rfl) rfl (f_cons rfl (f_n rfl) rfl (f_nil _))) (lim_2)) rfl (f_nil _)))) (hsd) rfl) rfl (repr_bl _)) (f_bi1 (f_and (k := false) (f_cmp (f_n rfl) (f_c _ _) rfl rfl (co_isnN _)) rfl) rfl (repr_bl _)) rfl rfl (ne_same _)) (rfl) (xs_nil _)) (xs_nil _)))) ?_, .inl rfl, some (.d (.int (1 + (f : Int)))), some (.d .non), rfl⟩
        rfl)
  exact ⟨x15, x18, e⟩
end K72
end

section
set_option Elab.async false
set_option linter.all false
set_option maxRecDepth 100000
set_option maxHeartbeats 4000000
namespace K72
open Ev
open PySem (Str Operator CmpOp PyData)
variable {n : Nat} {a : Nat → Int} {w : Int} {k : Nat} {x4 x17 : Option EV}
theorem r2 (st : List SO) (so : SO) (N : Nat) (B : Big n a w) (hs : st[k]? = some so) (hp : PotOk N so) (hN : N < 900) : ∃ x4 so', exec G_41 FUEL (.for (.v 4) (.of (.tup [.c (.int 0), .c (.int 1), .c (.int 2), .v 3, .bi .int [.call "_law_take" [.v 0, .c (.int 60)]], .c (.int 400)])) [.iff (.cmp .NotEq (.bi .repr [.call "out_after" [.v 1, .v 2, .v 4]]) (.bi .repr [.call "_law_out" [.v 1, .v 2, .v 4]])) [.ret (.c (.bl false))] []]) ⟨[some (.d (.ref k)), some (.d (.tup (Row n a))), some (.d (.int w)), some (.d (.int (n : Int))), none, none, none, none, none, none, none, none, none, none, none, none, none, none, none, none, none, none, none, none, none], st⟩ = some (.nx, ⟨[some (.d (.ref k)), some (.d (.tup (Row n a))), some (.d (.int w)), some (.d (.int (n : Int))), x4, none, none, none, none, none, none, none, none, none, none, none, none, none, none, none, none, none, none, none, none], st.set k so'⟩) ∧ PotOk (N + 1) so' := by
  have h5 := B.l5
  obtain ⟨d, so', e, ⟨d0, d1⟩, hp'⟩ := v_take N k 60 so st (by omega) (by omega) hs hp
  obtain ⟨s', e2, x4, rfl⟩ := for_P (Γ := G_41) (m := FUEL) (t := .v 4) (it := (.of (.tup [.c (.int 0), .c (.int 1), .c (.int 2), .v 3, .bi .int [.call "_law_take" [.v 0, .c (.int 60)]], .c (.int 400)]))) (body := ([.iff (.cmp .NotEq (.bi .repr [.call "out_after" [.v 1, .v 2, .v 4]]) (.bi .repr [.call "_law_out" [.v 1, .v 2, .v 4]])) [.ret (.c (.bl false))] []])) (ss := ⟨[some (.d (.ref k)), some (.d (.tup (Row n a))), some (.d (.int w)), some (.d (.int (n : Int))), none, none, none, none, none, none, none, none, none, none, none, none, none, none, none, none, none, none, none, none, none], st⟩) (s0 := ⟨[some (.d (.ref k)), some (.d (.tup (Row n a))), some (.d (.int w)), some (.d (.int (n : Int))), none, none, none, none, none, none, none, none, none, none, none, none, none, none, none, none, none, none, none, none, none], st.set k so'⟩) (xs := [0, 1, 2, (n : Int), d, 400]) (φ := D.int)
    (fun _ s => ∃ x4, s = ⟨[some (.d (.ref k)), some (.d (.tup (Row n a))), some (.d (.int w)), some (.d (.int (n : Int))), x4, none, none, none, none, none, none, none, none, none, none, none, none, none, none, none, none, none, none, none, none], st.set k so'⟩)
    (Eq.trans ((f_of (f_tup (f_cons rfl (f_c _ _) rfl (f_cons rfl (f_c _ _) rfl (f_cons rfl (f_c _ _) rfl (f_cons rfl (f_n rfl) rfl (f_cons rfl (f_bi1 (f_callS fn_law_right_law_take (f_cons rfl (f_n rfl) rfl (f_cons rfl (f_c _ _) rfl (f_nil _))) (e) rfl) rfl (bi_int _)) rfl (f_cons rfl (f_c _ _) rfl (f_nil _))))))) (lim_6)) rfl (rfl))) rfl)
    ⟨none, rfl⟩ (by
      rintro i t ht _ ⟨x4, rfl⟩
      have hm : t ∈ [0, 1, 2, (n : Int), d, 400] := List.mem_of_getElem? ht
      have hb : 0 ≤ t ∧ t ≤ 400 := by
        simp only [List.mem_cons, List.not_mem_nil, or_false] at hm
        omega
      have ob := outP_bd B t
      have hr := repr_int (i := outP (FS n a) w t) (by omega)
      refine ⟨_, _, .nx, rfl, ok_nx ((xs_cons (x_iffF (f_cmpT (f_bi1 (f_callS fn_law_right_out_after (f_cons rfl (f_n rfl) rfl (f_cons rfl (f_n rfl) rfl (f_cons rfl (f_n rfl) rfl (f_nil _)))) (w_out_after t (st.set k so') B.toOkF B.W hb.1 hb.2) rfl) rfl (hr)) (f_bi1 (f_callS fn_law_right_law_out (f_cons rfl (f_n rfl) rfl (f_cons rfl (f_n rfl) rfl (f_cons rfl (f_n rfl) rfl (f_nil _)))) (v_law_out t (st.set k so') (by omega) B.W) rfl) rfl (hr)) rfl rfl (ne_same _)) (rfl) (xs_nil _)) (xs_nil _))) ?_, .inl rfl, some (.d (.int t)), rfl⟩
      rfl)
  exact ⟨x4, so', e2, hp'⟩
theorem r22 (st : List SO) (so : SO) (N : Nat) (B : Big n a w) (x15 x18 : Option EV) (hs : st[k]? = some so) (hp : PotOk N so) (hN : N < 900) : Ends G_41 FUEL (fun r s => r = .d (.bl true) ∧ ∃ so', s.st = st.set k so' ∧ PotOk (N + 1) so') ([.asg (.v 4) (.bi .int [.call "_law_take" [.v 0, .c (.int 70)]]), .asg (.v 16) (.lc [21] (.v 21) (.range [.c (.int 1), .c (.int 21)]) [.cmp .Eq (.call "_law_out" [.v 1, .v 21, .v 4]) (.bi .sum [.v 1])] (.v 21)), .ret (.cmp .Eq (.bi .repr [.call "widest_need" [.v 1, .v 4]]) (.bi .repr [.ite (.cmp .NotEq (.v 16) (.lst [])) (.idx (.v 16) (.c (.int 0))) (.c (.non))]))]) ⟨[some (.d (.ref k)), some (.d (.tup (Row n a))), some (.d (.int w)), some (.d (.int (n : Int))), x4, some (.d (.lst (List.map D.int (ndL a w n)))), some (.d (.int (least (FS n a) w))), some (.d (.tup (Row n (aF a w)))), some (.d (.tup (List.map D.int (one n)))), some (.d (.tup (Row n (bF a w)))), some (.d (.int (least (FS n a) w))), some (.d (.tup ((List.range (TT n a w)).map fun t : Nat => D.tup (Row n (Gone w (one n) a t))))), some (.d (.lst ((List.range (TT n a w + 1)).map fun t : Nat => D.int (outP (FS n a) w (t : Int))))), some (.d (.lst ((List.range n).map fun c : Nat => D.bl (decide (0 < a c) && decide (aF a w c < bF a w c))))), some (.d (.tup (Row n fun c => min 4 (a c)))), x15, none, x17, x18, none, none, none, none, none, none], st⟩ := by
  have h5 := B.l5
  obtain ⟨d, so', e, ⟨d0, d1⟩, hp'⟩ := v_take N k 70 so st (by omega) (by omega) hs hp
  obtain ⟨t, rfl⟩ : ∃ t : Nat, d = t := ⟨d.toNat, by omega⟩
  refine Ends.cons (s1 := ⟨([some (.d (.ref k)), some (.d (.tup (Row n a))), some (.d (.int w)), some (.d (.int (n : Int))), x4, some (.d (.lst (List.map D.int (ndL a w n)))), some (.d (.int (least (FS n a) w))), some (.d (.tup (Row n (aF a w)))), some (.d (.tup (List.map D.int (one n)))), some (.d (.tup (Row n (bF a w)))), some (.d (.int (least (FS n a) w))), some (.d (.tup ((List.range (TT n a w)).map fun t : Nat => D.tup (Row n (Gone w (one n) a t))))), some (.d (.lst ((List.range (TT n a w + 1)).map fun t : Nat => D.int (outP (FS n a) w (t : Int))))), some (.d (.lst ((List.range n).map fun c : Nat => D.bl (decide (0 < a c) && decide (aF a w c < bF a w c))))), some (.d (.tup (Row n fun c => min 4 (a c)))), x15, none, x17, x18, none, none, none, none, none, none]).set 4 (some (.d (.int (t : Int)))), st.set k so'⟩) (Eq.trans ((x_asg (f_bi1 (f_callS fn_law_right_law_take (f_cons rfl (f_n rfl) rfl (f_cons rfl (f_c _ _) rfl (f_nil _))) (e) rfl) rfl (bi_int _)) rfl rfl)) rfl) ?_
  have hf : ((List.range 20).filter fun j : Nat => decide (outP (FS n a) (1 + (j : Int)) (t : Int) = pre a n)).map (fun j : Nat => D.int (1 + (j : Int))) = (fine (FS n a) t).map .int := by
    unfold fine
    rw [List.map_map]
    have : (List.range 20).filter (fun j : Nat => decide (outP (FS n a) (1 + (j : Int)) (t : Int) = pre a n)) = (List.range 20).filter (fun k : Nat => decide (least (FS n a) (((1 : Nat) : Int) + (k : Int)) ≤ (t : Int))) :=
      List.filter_congr fun j _ => fine_eq B.toOkF B.z t (1 + (j : Int)) (by omega)
    rw [this]
    rfl
  have hsum : biop .sum [.d (.tup (Row n a))] = some (.d (.int (pre a n))) := bi_sumR n a _ rfl
  have wd : ∀ j : Nat, j < 20 → Wd (1 + (j : Int)) := fun j hj => ⟨by omega, by omega⟩
  refine Ends.cons (s1 := ⟨(([some (.d (.ref k)), some (.d (.tup (Row n a))), some (.d (.int w)), some (.d (.int (n : Int))), x4, some (.d (.lst (List.map D.int (ndL a w n)))), some (.d (.int (least (FS n a) w))), some (.d (.tup (Row n (aF a w)))), some (.d (.tup (List.map D.int (one n)))), some (.d (.tup (Row n (bF a w)))), some (.d (.int (least (FS n a) w))), some (.d (.tup ((List.range (TT n a w)).map fun t : Nat => D.tup (Row n (Gone w (one n) a t))))), some (.d (.lst ((List.range (TT n a w + 1)).map fun t : Nat => D.int (outP (FS n a) w (t : Int))))), some (.d (.lst ((List.range n).map fun c : Nat => D.bl (decide (0 < a c) && decide (aF a w c < bF a w c))))), some (.d (.tup (Row n fun c => min 4 (a c)))), x15, none, x17, x18, none, none, none, none, none, none]).set 4 (some (.d (.int (t : Int))))).set 16 (some (.d (.lst ((fine (FS n a) t).map .int)))), st.set k so'⟩) (Eq.trans ((x_asg (f_lcfS (evI_rng (a := 1) (b := 21) (n := 20) (f_c _ _) (f_c _ _) (by decide) (by decide) (by decide)) (fun j hj => ⟨_, f_lcF rfl (f_cmpT (f_callS fn_law_right_law_out (f_cons rfl (f_n rfl) rfl (f_cons rfl (f_n rfl) rfl (f_cons rfl (f_n rfl) rfl (f_nil _)))) (v_law_out (t : Int) (st.set k so') (by omega) (wd j (List.mem_range.mp hj))) rfl) (f_bi1 (f_n rfl) rfl (hsum)) rfl rfl (co_eq _ _)) (f_n rfl) rfl, rfl⟩) ((by first | decide | exact Ev.lim5 (by omega) | (simp only [List.length_map, List.length_range, List.length_append, List.length_cons, List.length_nil, row_len]; exact Ev.lim5 (by omega)) | (simp; exact Ev.lim5 (by omega)))) rfl) rfl rfl)) (by rw [hf]; rfl)) ?_
  have hw := w_widest (a := a) (n := n) (t : Int) (st.set k so') B.toOkF (by omega) (by omega)
  have hfb : ∀ x ∈ fine (FS n a) t, 0 ≤ x ∧ x ≤ 1000 := by
    intro x hx
    unfold fine at hx
    obtain ⟨j, hj, rfl⟩ := List.mem_map.mp hx
    have := List.mem_range.mp (List.mem_filter.mp hj).1
    omega
  have hr : biop .repr [.d (hd (fine (FS n a) t))] = some (.d (.str (hd (fine (FS n a) t)).py.shown)) := by
    cases q : fine (FS n a) t with
    | nil => exact repr_non
    | cons x xs => exact repr_int (hfb x (by rw [q]; exact List.mem_cons_self))
  have hi : ev G_41 (.ite (.cmp .NotEq (.v 16) (.lst [])) (.idx (.v 16) (.c (.int 0))) (.c (.non))) ⟨(([some (.d (.ref k)), some (.d (.tup (Row n a))), some (.d (.int w)), some (.d (.int (n : Int))), x4, some (.d (.lst (List.map D.int (ndL a w n)))), some (.d (.int (least (FS n a) w))), some (.d (.tup (Row n (aF a w)))), some (.d (.tup (List.map D.int (one n)))), some (.d (.tup (Row n (bF a w)))), some (.d (.int (least (FS n a) w))), some (.d (.tup ((List.range (TT n a w)).map fun t : Nat => D.tup (Row n (Gone w (one n) a t))))), some (.d (.lst ((List.range (TT n a w + 1)).map fun t : Nat => D.int (outP (FS n a) w (t : Int))))), some (.d (.lst ((List.range n).map fun c : Nat => D.bl (decide (0 < a c) && decide (aF a w c < bF a w c))))), some (.d (.tup (Row n fun c => min 4 (a c)))), x15, none, x17, x18, none, none, none, none, none, none]).set 4 (some (.d (.int (t : Int))))).set 16 (some (.d (.lst ((fine (FS n a) t).map .int)))), st.set k so'⟩ = some (.d (hd (fine (FS n a) t)), ⟨(([some (.d (.ref k)), some (.d (.tup (Row n a))), some (.d (.int w)), some (.d (.int (n : Int))), x4, some (.d (.lst (List.map D.int (ndL a w n)))), some (.d (.int (least (FS n a) w))), some (.d (.tup (Row n (aF a w)))), some (.d (.tup (List.map D.int (one n)))), some (.d (.tup (Row n (bF a w)))), some (.d (.int (least (FS n a) w))), some (.d (.tup ((List.range (TT n a w)).map fun t : Nat => D.tup (Row n (Gone w (one n) a t))))), some (.d (.lst ((List.range (TT n a w + 1)).map fun t : Nat => D.int (outP (FS n a) w (t : Int))))), some (.d (.lst ((List.range n).map fun c : Nat => D.bl (decide (0 < a c) && decide (aF a w c < bF a w c))))), some (.d (.tup (Row n fun c => min 4 (a c)))), x15, none, x17, x18, none, none, none, none, none, none]).set 4 (some (.d (.int (t : Int))))).set 16 (some (.d (.lst ((fine (FS n a) t).map .int)))), st.set k so'⟩) := by
    have ne := ne_nil (fine (FS n a) t)
    cases q : fine (FS n a) t with
    | nil =>
      rw [q] at ne
      exact (f_iteF (f_cmpT (f_n rfl) (f_lst (f_nil _) (lim_0)) rfl rfl (ne)) (rfl) (f_c _ _))
    | cons x xs =>
      rw [q] at ne
      exact (f_iteT (f_cmpT (f_n rfl) (f_lst (f_nil _) (lim_0)) rfl rfl (ne)) ((by simp)) (f_idx (f_n rfl) (f_c _ _) rfl rfl ((ix_seq _ _).trans (at_map D.int (x :: xs) 0 (by simp)))))
  have hr1 : ∀ so : SO, res (⟨(([some (.d (.ref k)), some (.d (.tup (Row n a))), some (.d (.int w)), some (.d (.int (n : Int))), x4, some (.d (.lst (List.map D.int (ndL a w n)))), some (.d (.int (least (FS n a) w))), some (.d (.tup (Row n (aF a w)))), some (.d (.tup (List.map D.int (one n)))), some (.d (.tup (Row n (bF a w)))), some (.d (.int (least (FS n a) w))), some (.d (.tup ((List.range (TT n a w)).map fun t : Nat => D.tup (Row n (Gone w (one n) a t))))), some (.d (.lst ((List.range (TT n a w + 1)).map fun t : Nat => D.int (outP (FS n a) w (t : Int))))), some (.d (.lst ((List.range n).map fun c : Nat => D.bl (decide (0 < a c) && decide (aF a w c < bF a w c))))), some (.d (.tup (Row n fun c => min 4 (a c)))), x15, none, x17, x18, none, none, none, none, none, none]).set 4 (some (.d (.int (t : Int))))).set 16 (some (.d (.lst ((fine (FS n a) t).map .int)))), st.set k so'⟩ : SS) (.d (hd (fine (FS n a) t))) = some (.d (hd (fine (FS n a) t))) := by
    intro _
    cases fine (FS n a) t <;> rfl
  exact Ends.ret (f_cmp (f_bi1 ((f_callS fn_law_right_widest_need (f_cons rfl (f_n rfl) rfl (f_cons rfl (f_n rfl) rfl (f_nil _))) (hw) rfl)) (hr1 so) hr) (f_bi1 hi (hr1 so) hr) rfl rfl (eq_same _)) ⟨rfl, so', rfl, hp'⟩
theorem right_tail (st : List SO) (so : SO) (N : Nat) (B : Big n a w) (hs : st[k]? = some so) (hp : PotOk N so) (hN : N < 800) : Ends G_41 FUEL (fun r s => r = .d (.bl true) ∧ ∃ so', s.st = st.set k so' ∧ PotOk (N + 2) so') ([.for (.v 4) (.of (.tup [.c (.int 0), .c (.int 1), .c (.int 2), .v 3, .bi .int [.call "_law_take" [.v 0, .c (.int 60)]], .c (.int 400)])) [.iff (.cmp .NotEq (.bi .repr [.call "out_after" [.v 1, .v 2, .v 4]]) (.bi .repr [.call "_law_out" [.v 1, .v 2, .v 4]])) [.ret (.c (.bl false))] []], .asg (.v 5) (.lc [15] (.v 15) (.range [.v 3]) [.cmp .Gt (.bi .sum [.slc (.v 1) (.v 15) (.na)]) (.c (.int 0))] (.bin .Add (.v 15) (.call "_law_up" [.bi .sum [.slc (.v 1) (.v 15) (.na)], .v 2]))), .asg (.v 6) (.ite (.cmp .NotEq (.v 5) (.lst [])) (.bi .max [.v 5]) (.c (.int 0))), .iff (.cmp .NotEq (.bi .repr [.idx (.call "down_told" [.v 1, .v 2]) (.c (.int 0))]) (.bi .repr [.v 6])) [.ret (.c (.bl false))] [], .asg (.v 7) (.bi .tuple [.lc [15, 22] (.tup [.v 15, .v 22]) (.enum (.v 1)) [] (.ite (.cmp .Gt (.v 22) (.c (.int 0))) (.bin .Add (.v 15) (.call "_law_up" [.v 22, .v 2])) (.c (.int 0)))]), .iff (.cmp .NotEq (.bi .repr [.call "alone_out" [.v 1, .v 2]]) (.bi .repr [.v 7])) [.ret (.c (.bl false))] [], .asg (.v 8) (.coll false (.range [.c (.int 1), .bin .Add (.v 3) (.c (.int 1))])), .asg (.tup [.v 9, .v 10]) (.call "_law_from_below" [.v 1, .v 2]), .iff (.or (.cmp .NotEq (.bi .repr [.call "last_out" [.v 1, .v 2, .v 8]]) (.bi .repr [.v 9])) (.cmp .NotEq (.v 10) (.v 6))) [.ret (.c (.bl false))] [], .asg (.v 11) (.call "by_order" [.v 1, .v 2, .v 8]), .asg (.v 12) (.lc [19] (.v 19) (.range [.bin .Add (.v 6) (.c (.int 1))]) [] (.call "_law_out" [.v 1, .v 2, .v 19])), .iff (.cmp .NotEq (.lc [23] (.v 23) (.of (.v 11)) [] (.bi .sum [.v 23])) (.lc [21, 24] (.tup [.v 21, .v 24]) (.zip [.slc (.v 12) (.c (.int 1)) (.na), .v 12]) [] (.bin .Sub (.v 21) (.v 24)))) [.ret (.c (.bl false))] [], .iff (.or (.cmp .IsNot (.call "shows_order" [.v 1, .v 2, .v 9, .tup [.c (.str "order"), .v 8]]) (.c (.bl true))) (.cmp .NotEq (.idx (.call "order_told" [.v 1, .v 2, .v 9]) (.c (.int 0))) (.c (.str "order")))) [.ret (.c (.bl false))] [], .asg (.v 13) (.lc [20, 21] (.tup [.v 20, .v 21]) (.enum (.v 1)) [] (.and (.cmp .Gt (.v 21) (.c (.int 0))) (.cmp .Gt (.idx (.v 9) (.v 20)) (.idx (.v 7) (.v 20))))), .iff (.cmp .NotEq (.bi .repr [.call "shows_order" [.v 1, .v 2, .v 7, .tup [.c (.str "order"), .v 8]]]) (.bi .repr [.not (.bi .any [.v 13])])) [.ret (.c (.bl false))] [], .iff (.and (.cmp .LtE (.v 3) (.c (.int 4))) (.cmp .Gt (.idx (.call "fairest" [.v 1, .v 2]) (.c (.int 0))) (.bi .max [.lc [21, 24] (.tup [.v 21, .v 24]) (.zip [.v 9, .v 7]) [] (.bin .Sub (.v 21) (.v 24))]))) [.ret (.c (.bl false))] [], .iff (.and (.cmp .Gt (.bi .sum [.v 1]) (.c (.int 0))) (.cmp .Lt (.v 3) (.c (.int 5)))) [.iff (.cmp .NotEq (.bi .repr [.idx (.call "down_told" [.bin .Add (.tup [.c (.int 0)]) (.v 1), .v 2]) (.c (.int 0))]) (.bi .repr [.bin .Add (.v 6) (.c (.int 1))])) [.ret (.c (.bl false))] [], .asg (.v 17) (.bin .Add (.tup [.c (.int 0)]) (.bi .tuple [.lc [21] (.v 21) (.of (.v 9)) [] (.bin .Add (.v 21) (.bi .int [.cmp .Gt (.v 21) (.c (.int 0))]))])), .iff (.cmp .NotEq (.bi .repr [.call "last_out" [.bin .Add (.tup [.c (.int 0)]) (.v 1), .v 2, .coll false (.range [.c (.int 1), .bin .Add (.v 3) (.c (.int 2))])]]) (.bi .repr [.v 17])) [.ret (.c (.bl false))] []] [], .asg (.v 14) (.bi .tuple [.lc [22] (.v 22) (.of (.v 1)) [] (.bi .min [.c (.int 4), .v 22])]), .iff (.or (.cmp .NotEq (.bi .repr [.call "last_out" [.v 14, .c (.int 20), .rev (.v 8)]]) (.bi .repr [.call "alone_out" [.v 14, .c (.int 20)]])) (.cmp .NotEq (.idx (.call "fairest" [.slc (.v 14) (.na) (.c (.int 4)), .c (.int 20)]) (.c (.int 0))) (.c (.int 0)))) [.ret (.c (.bl false))] [], .for (.v 15) (.range [.c (.int 1), .bin .Add (.v 3) (.c (.int 1))]) [.asg (.v 18) (.ite (.cmp .Gt (.bi .sum [.slc (.v 1) (.bin .Sub (.v 15) (.c (.int 1))) (.na)]) (.c (.int 0))) (.bin .Add (.bin .Sub (.v 15) (.c (.int 1))) (.call "_law_up" [.bi .sum [.slc (.v 1) (.bin .Sub (.v 15) (.c (.int 1))) (.na)], .v 2])) (.c (.non))), .iff (.cmp .NotEq (.bi .repr [.call "shows_down" [.v 1, .v 2, .tup [.v 6, .v 15]]]) (.bi .repr [.and (.cmp .IsNot (.v 18) (.c (.non))) (.cmp .Eq (.v 18) (.v 6))])) [.ret (.c (.bl false))] []], .asg (.v 4) (.bi .int [.call "_law_take" [.v 0, .c (.int 70)]]), .asg (.v 16) (.lc [21] (.v 21) (.range [.c (.int 1), .c (.int 21)]) [.cmp .Eq (.call "_law_out" [.v 1, .v 21, .v 4]) (.bi .sum [.v 1])] (.v 21)), .ret (.cmp .Eq (.bi .repr [.call "widest_need" [.v 1, .v 4]]) (.bi .repr [.ite (.cmp .NotEq (.v 16) (.lst [])) (.idx (.v 16) (.c (.int 0))) (.c (.non))]))]) ⟨[some (.d (.ref k)), some (.d (.tup (Row n a))), some (.d (.int w)), some (.d (.int (n : Int))), none, none, none, none, none, none, none, none, none, none, none, none, none, none, none, none, none, none, none, none, none], st⟩ := by
  obtain ⟨x4, so1, e2, hp1⟩ := r2 st so N B hs hp (by omega)
  have hk : k < st.length := by
    by_cases h : k < st.length
    · exact h
    · rw [List.getElem?_eq_none (by omega)] at hs; cases hs
  have hs1 : (st.set k so1)[k]? = some so1 := by rw [List.getElem?_set_self hk]
  refine Ends.cons e2 ?_
  refine Ends.cons (r3 _ B) ?_
  refine Ends.cons (r4 _ B) ?_
  refine Ends.cons (r5 _ B) ?_
  refine Ends.cons (r6 _ B) ?_
  refine Ends.cons (r7 _ B) ?_
  refine Ends.cons (r8 _ B) ?_
  refine Ends.cons (r9 _ B) ?_
  refine Ends.cons (r10 _ B) ?_
  refine Ends.cons (r11 _ B) ?_
  refine Ends.cons (r12 _ B) ?_
  refine Ends.cons (r13 _ B) ?_
  refine Ends.cons (r14 _ B) ?_
  refine Ends.cons (r15 _ B) ?_
  refine Ends.cons (r16 _ B) ?_
  refine Ends.cons (r17 _ B) ?_
  obtain ⟨x17, e18⟩ := r18 (k := k) (x4 := x4) (st.set k so1) B
  refine Ends.cons e18 ?_
  refine Ends.cons (r19 _ B) ?_
  refine Ends.cons (r20 _ B) ?_
  obtain ⟨x15, x18, e21⟩ := r21 (k := k) (x4 := x4) (x17 := x17) (st.set k so1) B
  refine Ends.cons e21 ?_
  refine (r22 (st.set k so1) so1 (N + 1) B x15 x18 hs1 hp1 (by omega)).imp ?_
  rintro r s ⟨hr, so', e, hp'⟩
  exact ⟨hr, so', by rw [e, List.set_set], hp'⟩
theorem ds_row (S : List Int) : ∀ ds : List D, (∀ d ∈ ds, ∃ i : Int, d = .int i ∧ i ∈ S) → ∃ a : Nat → Int, ds = Row ds.length a ∧ (∀ c, c < ds.length → a c ∈ S) ∧ ∀ c, ds.length ≤ c → a c = 0
  | [], _ => ⟨fun _ => 0, rfl, fun c hc => absurd hc (Nat.not_lt_zero c), fun _ _ => rfl⟩
  | d :: ds, h => by
    obtain ⟨a, e, h1, h2⟩ := ds_row S ds fun x hx => h x (List.mem_cons_of_mem _ hx)
    obtain ⟨i, rfl, hi⟩ := h d List.mem_cons_self
    refine ⟨fun c => match c with | 0 => i | c + 1 => a c, ?_, ?_, ?_⟩
    · unfold Row
      rw [List.length_cons, List.range_succ_eq_map, List.map_cons, List.map_map]
      congr 1
    · intro c hc
      cases c with
      | zero => exact hi
      | succ c => exact h1 c (by simpa using hc)
    · intro c hc
      cases c with
      | zero => exact absurd hc (by simp)
      | succ c => exact h2 c (by simpa using hc)
theorem v_right (st : List SO) (so : SO) (N : Nat) (hs : st[k]? = some so) (hp : PotOk N so) (hN : N < 700) : ∃ so', den_law_right [.ref k] st = some (.d (.bl true), st.set k so') ∧ PotOk (N + 20) so' := by
  have hk : k < st.length := by
    by_cases h : k < st.length
    · exact h
    · rw [List.getElem?_eq_none (by omega)] at hs; cases hs
  obtain ⟨d, so1, e1, ⟨d0, d1⟩, hp1⟩ := v_take N k 5 so st (by omega) (by omega) hs hp
  have hs1 : (st.set k so1)[k]? = some so1 := by rw [List.getElem?_set_self hk]
  obtain ⟨m, hm⟩ : ∃ m : Nat, 1 + d = m := ⟨(1 + d).toNat, by omega⟩
  obtain ⟨ds, st2, e2, ⟨hds, so2, rfl, hp2⟩, hlen⟩ := lc_st (Γ := G_41) (own := [15]) (t := .v 15) (it := (.range [.bin .Add (.c (.int 1)) (.call "_law_take" [.v 0, .c (.int 5)])])) (elt := (.bi .int [.call "_law_of" [.v 0, .lst [.c (.int 0), .c (.int 1), .c (.int 2), .c (.int 7), .c (.int 49), .c (.int 50)]]])) (ss := ⟨[some (.d (.ref k)), none, none, none, none, none, none, none, none, none, none, none, none, none, none, none, none, none, none, none, none, none, none, none, none], st⟩) (env := [some (.d (.ref k)), none, none, none, none, none, none, none, none, none, none, none, none, none, none, none, none, none, none, none, none, none, none, none, none]) (st := st.set k so1) (xs := List.range m) (φ := fun j : Nat => .int (j : Int))
    (fun acc s => (∀ d ∈ acc, ∃ i : Int, d = .int i ∧ i ∈ [0, 1, 2, 7, 49, (50 : Int)]) ∧ ∃ so', s = st.set k so' ∧ PotOk (N + 1 + acc.length) so')
    (evI_rng1 (n := m) ((f_bin (f_c _ _) (f_callS fn_law_right_law_take (f_cons rfl (f_n rfl) rfl (f_cons rfl (f_c _ _) rfl (f_nil _))) (e1) rfl) rfl rfl (bo_add _ _))) hm (by omega)) ⟨by simp, so1, rfl, hp1⟩ (by
      rintro j hj acc _ ⟨ha, so2, rfl, hp2⟩ hl
      have hs2 : (st.set k so2)[k]? = some so2 := by rw [List.getElem?_set_self hk]
      have hl : acc.length < m := by simpa using hl
      obtain ⟨x, so3, e3, hx, hp3⟩ := v_of (N + 1 + acc.length) k [0, 1, 2, 7, 49, 50] so2 (st.set k so2) (by omega) (by decide) hs2 hp2
      refine ⟨.int x, _, _, f_lcB rfl ((f_bi1 (f_callS fn_law_right_law_of (f_cons rfl (f_n rfl) rfl (f_cons rfl (f_lst (f_cons rfl (f_c _ _) rfl (f_cons rfl (f_c _ _) rfl (f_cons rfl (f_c _ _) rfl (f_cons rfl (f_c _ _) rfl (f_cons rfl (f_c _ _) rfl (f_cons rfl (f_c _ _) rfl (f_nil _))))))) (lim_6)) rfl (f_nil _))) (e3) rfl) rfl (bi_int _))) rfl, rfl, ?_, so3, by rw [List.set_set], ?_⟩
      · intro d hd
        rcases List.mem_append.mp hd with h | h
        · exact ha d h
        · rw [List.mem_singleton] at h
          exact ⟨x, h, hx⟩
      · rw [List.length_append, List.length_singleton]
        exact hp3) (Ev.lim5 (by rw [List.length_range]; omega))
  rw [List.length_range] at hlen
  obtain ⟨a, ea, ha1, ha2⟩ := ds_row _ ds hds
  rw [hlen] at ea ha1 ha2 hp2
  subst ea
  have hs2 : (st.set k so2)[k]? = some so2 := by rw [List.getElem?_set_self hk]
  obtain ⟨w, so3, e3, hw, hp3⟩ := v_of (N + 1 + m) k [1, 2, 3, 7, 20] so2 (st.set k so2) (by omega) (by decide) hs2 hp2
  rw [List.set_set] at e3
  have B : Big m a w := by
    refine ⟨⟨fun c hc => ?_, by omega, by omega⟩, ⟨?_, ?_⟩, ha2⟩
    · have := ha1 c hc
      simp only [List.mem_cons, List.not_mem_nil, or_false] at this
      omega
    · simp only [List.mem_cons, List.not_mem_nil, or_false] at hw; omega
    · simp only [List.mem_cons, List.not_mem_nil, or_false] at hw; omega
  have hs3 : (st.set k so3)[k]? = some so3 := by rw [List.getElem?_set_self hk]
  obtain ⟨r, s', ex, rfl, so4, es, hp4⟩ := Ends.cons (r := ([.asg (.tup [.v 2, .v 3]) (.tup [.bi .int [.call "_law_of" [.v 0, .lst [.c (.int 1), .c (.int 2), .c (.int 3), .c (.int 7), .c (.int 20)]]], .bi .len [.v 1]]), .for (.v 4) (.of (.tup [.c (.int 0), .c (.int 1), .c (.int 2), .v 3, .bi .int [.call "_law_take" [.v 0, .c (.int 60)]], .c (.int 400)])) [.iff (.cmp .NotEq (.bi .repr [.call "out_after" [.v 1, .v 2, .v 4]]) (.bi .repr [.call "_law_out" [.v 1, .v 2, .v 4]])) [.ret (.c (.bl false))] []], .asg (.v 5) (.lc [15] (.v 15) (.range [.v 3]) [.cmp .Gt (.bi .sum [.slc (.v 1) (.v 15) (.na)]) (.c (.int 0))] (.bin .Add (.v 15) (.call "_law_up" [.bi .sum [.slc (.v 1) (.v 15) (.na)], .v 2]))), .asg (.v 6) (.ite (.cmp .NotEq (.v 5) (.lst [])) (.bi .max [.v 5]) (.c (.int 0))), .iff (.cmp .NotEq (.bi .repr [.idx (.call "down_told" [.v 1, .v 2]) (.c (.int 0))]) (.bi .repr [.v 6])) [.ret (.c (.bl false))] [], .asg (.v 7) (.bi .tuple [.lc [15, 22] (.tup [.v 15, .v 22]) (.enum (.v 1)) [] (.ite (.cmp .Gt (.v 22) (.c (.int 0))) (.bin .Add (.v 15) (.call "_law_up" [.v 22, .v 2])) (.c (.int 0)))]), .iff (.cmp .NotEq (.bi .repr [.call "alone_out" [.v 1, .v 2]]) (.bi .repr [.v 7])) [.ret (.c (.bl false))] [], .asg (.v 8) (.coll false (.range [.c (.int 1), .bin .Add (.v 3) (.c (.int 1))])), .asg (.tup [.v 9, .v 10]) (.call "_law_from_below" [.v 1, .v 2]), .iff (.or (.cmp .NotEq (.bi .repr [.call "last_out" [.v 1, .v 2, .v 8]]) (.bi .repr [.v 9])) (.cmp .NotEq (.v 10) (.v 6))) [.ret (.c (.bl false))] [], .asg (.v 11) (.call "by_order" [.v 1, .v 2, .v 8]), .asg (.v 12) (.lc [19] (.v 19) (.range [.bin .Add (.v 6) (.c (.int 1))]) [] (.call "_law_out" [.v 1, .v 2, .v 19])), .iff (.cmp .NotEq (.lc [23] (.v 23) (.of (.v 11)) [] (.bi .sum [.v 23])) (.lc [21, 24] (.tup [.v 21, .v 24]) (.zip [.slc (.v 12) (.c (.int 1)) (.na), .v 12]) [] (.bin .Sub (.v 21) (.v 24)))) [.ret (.c (.bl false))] [], .iff (.or (.cmp .IsNot (.call "shows_order" [.v 1, .v 2, .v 9, .tup [.c (.str "order"), .v 8]]) (.c (.bl true))) (.cmp .NotEq (.idx (.call "order_told" [.v 1, .v 2, .v 9]) (.c (.int 0))) (.c (.str "order")))) [.ret (.c (.bl false))] [], .asg (.v 13) (.lc [20, 21] (.tup [.v 20, .v 21]) (.enum (.v 1)) [] (.and (.cmp .Gt (.v 21) (.c (.int 0))) (.cmp .Gt (.idx (.v 9) (.v 20)) (.idx (.v 7) (.v 20))))), .iff (.cmp .NotEq (.bi .repr [.call "shows_order" [.v 1, .v 2, .v 7, .tup [.c (.str "order"), .v 8]]]) (.bi .repr [.not (.bi .any [.v 13])])) [.ret (.c (.bl false))] [], .iff (.and (.cmp .LtE (.v 3) (.c (.int 4))) (.cmp .Gt (.idx (.call "fairest" [.v 1, .v 2]) (.c (.int 0))) (.bi .max [.lc [21, 24] (.tup [.v 21, .v 24]) (.zip [.v 9, .v 7]) [] (.bin .Sub (.v 21) (.v 24))]))) [.ret (.c (.bl false))] [], .iff (.and (.cmp .Gt (.bi .sum [.v 1]) (.c (.int 0))) (.cmp .Lt (.v 3) (.c (.int 5)))) [.iff (.cmp .NotEq (.bi .repr [.idx (.call "down_told" [.bin .Add (.tup [.c (.int 0)]) (.v 1), .v 2]) (.c (.int 0))]) (.bi .repr [.bin .Add (.v 6) (.c (.int 1))])) [.ret (.c (.bl false))] [], .asg (.v 17) (.bin .Add (.tup [.c (.int 0)]) (.bi .tuple [.lc [21] (.v 21) (.of (.v 9)) [] (.bin .Add (.v 21) (.bi .int [.cmp .Gt (.v 21) (.c (.int 0))]))])), .iff (.cmp .NotEq (.bi .repr [.call "last_out" [.bin .Add (.tup [.c (.int 0)]) (.v 1), .v 2, .coll false (.range [.c (.int 1), .bin .Add (.v 3) (.c (.int 2))])]]) (.bi .repr [.v 17])) [.ret (.c (.bl false))] []] [], .asg (.v 14) (.bi .tuple [.lc [22] (.v 22) (.of (.v 1)) [] (.bi .min [.c (.int 4), .v 22])]), .iff (.or (.cmp .NotEq (.bi .repr [.call "last_out" [.v 14, .c (.int 20), .rev (.v 8)]]) (.bi .repr [.call "alone_out" [.v 14, .c (.int 20)]])) (.cmp .NotEq (.idx (.call "fairest" [.slc (.v 14) (.na) (.c (.int 4)), .c (.int 20)]) (.c (.int 0))) (.c (.int 0)))) [.ret (.c (.bl false))] [], .for (.v 15) (.range [.c (.int 1), .bin .Add (.v 3) (.c (.int 1))]) [.asg (.v 18) (.ite (.cmp .Gt (.bi .sum [.slc (.v 1) (.bin .Sub (.v 15) (.c (.int 1))) (.na)]) (.c (.int 0))) (.bin .Add (.bin .Sub (.v 15) (.c (.int 1))) (.call "_law_up" [.bi .sum [.slc (.v 1) (.bin .Sub (.v 15) (.c (.int 1))) (.na)], .v 2])) (.c (.non))), .iff (.cmp .NotEq (.bi .repr [.call "shows_down" [.v 1, .v 2, .tup [.v 6, .v 15]]]) (.bi .repr [.and (.cmp .IsNot (.v 18) (.c (.non))) (.cmp .Eq (.v 18) (.v 6))])) [.ret (.c (.bl false))] []], .asg (.v 4) (.bi .int [.call "_law_take" [.v 0, .c (.int 70)]]), .asg (.v 16) (.lc [21] (.v 21) (.range [.c (.int 1), .c (.int 21)]) [.cmp .Eq (.call "_law_out" [.v 1, .v 21, .v 4]) (.bi .sum [.v 1])] (.v 21)), .ret (.cmp .Eq (.bi .repr [.call "widest_need" [.v 1, .v 4]]) (.bi .repr [.ite (.cmp .NotEq (.v 16) (.lst [])) (.idx (.v 16) (.c (.int 0))) (.c (.non))]))])) (s := (.asg (.v 1) (.bi .tuple [.lc [15] (.v 15) (.range [.bin .Add (.c (.int 1)) (.call "_law_take" [.v 0, .c (.int 5)])]) [] (.bi .int [.call "_law_of" [.v 0, .lst [.c (.int 0), .c (.int 1), .c (.int 2), .c (.int 7), .c (.int 49), .c (.int 50)]]])]))) (ss := ⟨[some (.d (.ref k)), none, none, none, none, none, none, none, none, none, none, none, none, none, none, none, none, none, none, none, none, none, none, none, none], st⟩) (s1 := ⟨([some (.d (.ref k)), none, none, none, none, none, none, none, none, none, none, none, none, none, none, none, none, none, none, none, none, none, none, none, none]).set 1 (some (.d (.tup (Row m a)))), st.set k so2⟩) (Eq.trans ((x_asg (f_bi1 (e2) rfl (rfl)) rfl rfl)) rfl)
    (Ends.cons (s := (.asg (.tup [.v 2, .v 3]) (.tup [.bi .int [.call "_law_of" [.v 0, .lst [.c (.int 1), .c (.int 2), .c (.int 3), .c (.int 7), .c (.int 20)]]], .bi .len [.v 1]]))) (Eq.trans ((x_asgA (f_tup (f_cons rfl (f_bi1 (f_callS fn_law_right_law_of (f_cons rfl (f_n rfl) rfl (f_cons rfl (f_lst (f_cons rfl (f_c _ _) rfl (f_cons rfl (f_c _ _) rfl (f_cons rfl (f_c _ _) rfl (f_cons rfl (f_c _ _) rfl (f_cons rfl (f_c _ _) rfl (f_nil _)))))) (lim_5)) rfl (f_nil _))) (e3) rfl) rfl (bi_int _)) rfl (f_cons rfl (f_bi1 (f_n rfl) rfl (bi_lenR m a _ rfl)) rfl (f_nil _))) (lim_2)) rfl (rfl))) rfl) (right_tail (st.set k so3) so3 (N + 1 + m + 1) B hs3 hp3 (by omega)))
  obtain ⟨env', st'⟩ := s'
  have es : st' = _ := es
  subst es
  refine ⟨so4, ?_, hp4.mono (by omega)⟩
  have := run_of (n := 1) (ds := [.ref k]) (N := N_law_right) (ir := ir_law_right) (st := st) (fuel := FUEL) (Γ := G_41) ex (exit_dl (by simp)) rfl
  rw [List.set_set] at this
  exact this
end K72
end

section
set_option Elab.async false
set_option linter.all false
set_option maxRecDepth 100000
set_option maxHeartbeats 4000000
namespace Ev
theorem bi_all_true {r : RA} {ds : List D} (h : r.lseq = some ds) (hd : ∀ d ∈ ds, d = .bl true) : biop .all [r] = some (.d (.bl true)) := by
  have : ds = ds.map fun _ => D.bl true := by
    conv => lhs; rw [← List.map_id ds]
    exact List.map_congr_left fun d hx => hd d hx
  rw [this] at h
  refine (bi_allX (p := fun _ => true) h).trans ?_
  simp
end Ev
namespace K72
open Ev
open PySem (Str Operator CmpOp PyData)
theorem law_true (ns : List Int) (hn : ns.length ≤ 63) : ∃ st', den_law [.lst (ns.map .int)] [] = some (.d (.bl true), st') := by
  obtain ⟨m, hm1, hm3, ec⟩ := v_cells ns []
  obtain ⟨s', e, x1, x2, st', rfl⟩ := for_rng (Γ := G_42) (m := FUEL) (t := .v 1) (it := (.of (.call "_law_cells" [.v 0, .c (.int 3)]))) (body := ([.asg (.v 2) (.heap (.call "_law_pot" [.v 0, .v 1])), .iff (.not (.bi .all [.lc [3] (.v 3) (.range [.c (.int 3)]) [] (.call "_law_right" [.v 2])])) [.ret (.c (.bl false))] []])) (ss := ⟨[some (.d (.lst (ns.map .int))), none, none, none], []⟩) (n := m) (φ := fun k : Nat => .int (k : Int))
    (fun _ s => ∃ x1 x2 st, s = ⟨[some (.d (.lst (ns.map .int))), x1, x2, none], st⟩)
    ((f_of (f_callS fn_law_law_cells (f_cons rfl (f_n rfl) rfl (f_cons rfl (f_c _ _) rfl (f_nil _))) (ec) rfl) rfl (rfl)))
    ⟨_, _, _, rfl⟩ (by
      rintro j hj _ ⟨x1, x2, st, rfl⟩
      obtain ⟨so, ep, hp⟩ := v_pot ns (j : Int) st (by omega) (by omega)
      have hs : (st ++ [so])[st.length]? = some so := by simp
      obtain ⟨ds, st2, e2, ⟨hds, so2, rfl, hp2⟩, hlen⟩ := lc_st (Γ := G_42) (own := [3]) (t := .v 3) (it := (.range [.c (.int 3)])) (elt := (.call "_law_right" [.v 2])) (ss := ⟨[some (.d (.lst (ns.map .int))), some (.d (.int (j : Int))), some (.d (.ref st.length)), none], st ++ [so]⟩) (env := [some (.d (.lst (ns.map .int))), some (.d (.int (j : Int))), some (.d (.ref st.length)), none]) (st := st ++ [so]) (xs := List.range 3) (φ := fun j : Nat => .int (j : Int))
        (fun acc s => (∀ d ∈ acc, d = .bl true) ∧ ∃ so', s = (st ++ [so]).set st.length so' ∧ PotOk (20 * acc.length) so')
        (evI_rng1 (n := 3) (f_c _ _) rfl (by decide)) ⟨by simp, so, by simp, hp⟩ (by
          rintro i hi acc _ ⟨ha, so2, rfl, hp2⟩ hl
          have hl : acc.length < 3 := by simpa using hl
          have hs2 : ((st ++ [so]).set st.length so2)[st.length]? = some so2 := by rw [List.getElem?_set_self (by simp)]
          obtain ⟨so3, e3, hp3⟩ := v_right ((st ++ [so]).set st.length so2) so2 (20 * acc.length) hs2 hp2 (by omega)
          refine ⟨.bl true, _, _, f_lcB rfl ((f_callS fn_law_law_right (f_cons rfl (f_n rfl) rfl (f_nil _)) (e3) rfl)) rfl, rfl, ?_, so3, by rw [List.set_set], ?_⟩
          · intro d hd
            rcases List.mem_append.mp hd with h | h
            · exact ha d h
            · rwa [List.mem_singleton] at h
          · rw [List.length_append, List.length_singleton]
            exact hp3.mono (by omega)) (by decide)
      refine ⟨_, _, .nx, rfl, ok_nx ((xs_cons (x_asg (f_heap ((f_callS fn_law_law_pot (f_cons rfl (f_n rfl) rfl (f_cons rfl (f_n rfl) rfl (f_nil _))) (ep) rfl))) rfl rfl) (xs_cons (x_iffF (f_notT (f_biT (f_bi1 (e2) rfl (bi_all_true rfl hds)))) (rfl) (xs_nil _)) (xs_nil _)))) ?_, .inl rfl, some (.d (.int (j : Int))), some (.d (.ref st.length)), (st ++ [so]).set st.length so2, rfl⟩
      rfl)
  exact ⟨_, run_of (n := 1) (ds := [.lst (ns.map .int)]) (N := N_law) (ir := ir_law) (st := []) (fuel := FUEL) (Γ := G_42) ((xs_cons (e) (xs_out (x_ret (f_c _ _))))) rfl rfl⟩
end K72
end

open PySem PySem.W PySem.Calls PyProof.Rows
set_option maxRecDepth 100000 in
set_option maxHeartbeats 0 in
theorem PySem.Challenge.cw_outandshut_k72_whole_floors_by_what_is_l_holds : PySem.Challenge.rw_outandshut_k72_whole_floors_by_what_is_l.Holds := by
  w_on; o_law
  refine HandSHeadRun.head_any (r := OpenLaw.row PySem.Challenge.rw_outandshut_k72_whole_floors_by_what_is_l) (q := view (OpenLaw.row PySem.Challenge.rw_outandshut_k72_whole_floors_by_what_is_l).prog [60]) (H := K72.hk) (ob := K72.ob) (M := 6000) (loose := K72.names) (d := HandSHeadRun.topDef (OpenLaw.row PySem.Challenge.rw_outandshut_k72_whole_floors_by_what_is_l).prog 60) (kwd := []) K72.ob_eq
    (by kernel_rfl) (fun s => by kernel_rfl) K72.run (by kernel_rfl) (by kernel_rfl) (by kernel_rfl) (by rfl) (by first | assumption | decide +kernel) (by decide +kernel) ⟨rfl, rfl, rfl, rfl, rfl, by decide +kernel⟩ ?hw ?hc
  case hw => w_witness2
  case hc =>
    refine Ev.walk_run (l := PySem.Challenge.rw_outandshut_k72_whole_floors_by_what_is_l) (n := 63) (k := 43) (x := "script") rfl (by decide) (by kernel_rfl) ⟨rfl, by decide, by decide⟩ ?F
    intro w mg fa h Y G hmg0
    obtain ⟨K, KX, c, hnl⟩ := Y
    have hmg : mg ("law" : PySem.Str) = some (.ref fa) := by
      have e : (HandSHeadRun.topDef (OpenLaw.row PySem.Challenge.rw_outandshut_k72_whole_floors_by_what_is_l).prog 60).name = ("law" : PySem.Str) := by kernel_rfl
      rw [← e]
      exact hmg0
    obtain ⟨fd, hb, hF⟩ := K72.facts (P := (PySem.Challenge.rw_outandshut_k72_whole_floors_by_what_is_l).prog) (w := w) KX G hmg c
    exact ⟨K, fd, K72.den_law, KX, hnl, hb, K72.law_true, hF⟩
