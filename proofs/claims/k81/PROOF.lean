import PyProof.Rows.All
import Wide.All
import OpenK.AllK
import Wide.FinOn
import HandS.ForMost
import HandS.Iter
import HandS.Deep
import HandS.TupAny
import HandS.Wide
import HandS.SetKeys
import HandS.DictComp
import HandS.SortOrd
import HandS.SortInts
import HandS.Zip
import HandS.IsInst
import HandS.Codes
import HandS.Conv
import HandS.Style
import HandS.TupMul
import HandS.More
import HandS.Defaults
import KE.GoesMore
import HandS.Head0
import HandS.Head1
import HandS.Head2
import HandS.HeadEnd
import HandS.HeadHook1
import HandS.HeadHook2
import PySem.Challenge.RW_ownrules_k81_numbers_and_texts_have_octe
set_option Elab.async false
set_option linter.all false
set_option maxRecDepth 100000
set_option maxHeartbeats 4000000
/-! A data layer over the hand layer: values as plain data, tuples by value; lists and dicts by their address in a small store. -/
namespace L2.DL
open PySem PySem.Spec PyProof.Rows

/-- plain data -/
inductive D where
  | non | bl (b : Bool) | int (i : Int) | str (x : Str) | ty (n : String) | ref (a : Addr) | tup (xs : List D)
/-- what stands at a known address -/
inductive Ob where
  | lst (xs : List D)
  | rol (xs : List D)
  | dic (kvs : List (Key × D))
  | rod (kvs : List (Key × D))
  | raw (o : HO)
abbrev Sto := Addr → Option Ob
noncomputable def put (st : Sto) (a : Addr) (o : Ob) : Sto := fun b => if b = a then some o else st b
theorem put_same {st : Sto} {a : Addr} {o : Ob} : put st a o a = some o := by unfold put; rw [if_pos rfl]
theorem put_ne {st : Sto} {a b : Addr} {o : Ob} (h : b ≠ a) : put st a o b = st b := by unfold put; rw [if_neg h]
theorem put_put {st : Sto} {a : Addr} {o u : Ob} : put (put st a o) a u = put st a u := by
  funext b; unfold put; split <;> rfl

mutual
inductive RelD (K : PySem.W.Frag) (H : Hp) : D → V → Prop
  | non : RelD K H .non .non
  | bl (b : Bool) : RelD K H (.bl b) (.bl b)
  | int (i : Int) : RelD K H (.int i) (.int i)
  | str (x : Str) : RelD K H (.str x) (.str x)
  | ty (n : String) : RelD K H (.ty n) (.ty n)
  | ref (a : Addr) : RelD K H (.ref a) (.ref a)
  | tup {a : Addr} {vs : List V} {ds : List D} : SqT K H a vs → RelDs K H ds vs → RelD K H (.tup ds) (.ref a)
inductive RelDs (K : PySem.W.Frag) (H : Hp) : List D → List V → Prop
  | nil : RelDs K H [] []
  | cons {d : D} {v : V} {ds : List D} {vs : List V} : RelD K H d v → RelDs K H ds vs → RelDs K H (d :: ds) (v :: vs)
end

/-- tuples stay -/
def ExtT (H H' : Hp) : Prop := ∀ a xs, Rd H a (.tup xs) → Rd H' a (.tup xs)
/-- tuples stay, and what is locked -/
structure Ext (H H' : Hp) : Prop where
  t : ExtT H H'
  f : ∀ a o u, H a = some (.frz o u) → H' a = some (.frz o u)
theorem ExtT.sqT {K : PySem.W.Frag} {H H' : Hp} (e : ExtT H H') {a : Addr} {xs : List V} (h : SqT K H a xs) : SqT K H' a xs := by
  rcases h with h | h
  · exact .inl (e _ _ h)
  · exact .inr h
theorem Ext.refl {H : Hp} : Ext H H := ⟨fun _ _ h => h, fun _ _ _ h => h⟩
theorem Ext.trans {H H1 H2 : Hp} (a : Ext H H1) (b : Ext H1 H2) : Ext H H2 := ⟨fun _ _ h => b.t _ _ (a.t _ _ h), fun _ _ _ h => b.f _ _ _ (a.f _ _ _ h)⟩
theorem Ext.sqT {K : PySem.W.Frag} {H H' : Hp} (e : Ext H H') {a : Addr} {xs : List V} (h : SqT K H a xs) : SqT K H' a xs := e.t.sqT h
theorem Ext.upd_new {H : Hp} {p : Addr} {o : HO} (h : H p = none) : Ext H (upd H p o) := ⟨fun a xs r => by
  have ne : a ≠ p := by
    rintro rfl
    rcases r with r | ⟨_, r⟩ <;> rw [h] at r <;> cases r
  rcases r with r | ⟨u, r⟩
  · exact .inl (by rw [upd_ne ne]; exact r)
  · exact .inr ⟨u, by rw [upd_ne ne]; exact r⟩, fun a o u e => by rw [upd_ne (ne_of_none e h)]; exact e⟩
theorem Ext.upd_mut {H : Hp} {p : Addr} {o : HO} (h : Mut (H p)) : Ext H (upd H p o) := ⟨fun a xs r => by
  have ne : a ≠ p := by
    rintro rfl
    rcases r with r | ⟨_, r⟩ <;> rw [r] at h <;> exact h
  rcases r with r | ⟨u, r⟩
  · exact .inl (by rw [upd_ne ne]; exact r)
  · exact .inr ⟨u, by rw [upd_ne ne]; exact r⟩, fun a o u e => by
    have ne : a ≠ p := by
      rintro rfl
      rw [e] at h; exact h
    rw [upd_ne ne]; exact e⟩
mutual
theorem RelD.monoT {K : PySem.W.Frag} {H H' : Hp} (e : ExtT H H') : ∀ {d : D} {v : V}, RelD K H d v → RelD K H' d v
  | _, _, .non => .non
  | _, _, .bl b => .bl b
  | _, _, .int i => .int i
  | _, _, .str x => .str x
  | _, _, .ty n => .ty n
  | _, _, .ref a => .ref a
  | _, _, .tup h r => .tup (e.sqT h) (RelDs.monoT e r)
theorem RelDs.monoT {K : PySem.W.Frag} {H H' : Hp} (e : ExtT H H') : ∀ {ds : List D} {vs : List V}, RelDs K H ds vs → RelDs K H' ds vs
  | _, _, .nil => .nil
  | _, _, .cons r t => .cons (RelD.monoT e r) (RelDs.monoT e t)
end
theorem RelD.mono {K : PySem.W.Frag} {H H' : Hp} (e : Ext H H') {d : D} {v : V} (r : RelD K H d v) : RelD K H' d v := r.monoT e.t
theorem RelDs.mono {K : PySem.W.Frag} {H H' : Hp} (e : Ext H H') {d : List D} {v : List V} (r : RelDs K H d v) : RelDs K H' d v := r.monoT e.t
section
variable {K : PySem.W.Frag} {H : Hp}
theorem RelDs.length : ∀ {ds : List D} {vs : List V}, RelDs K H ds vs → ds.length = vs.length
  | _, _, .nil => rfl
  | _, _, .cons _ t => by simp [RelDs.length t]
theorem RelDs.get : ∀ {ds : List D} {vs : List V} {i : Nat} {d : D}, RelDs K H ds vs → ds[i]? = some d → ∃ v, vs[i]? = some v ∧ RelD K H d v
  | _, _, _, _, .nil, e => by simp at e
  | _, _, 0, _, .cons r _, e => by simp at e; subst e; exact ⟨_, rfl, r⟩
  | _, _, i + 1, d, .cons _ t, e => by
    obtain ⟨u, h1, h2⟩ := RelDs.get (i := i) (d := d) t (by simpa using e)
    exact ⟨u, by simpa using h1, h2⟩
theorem RelDs.getV : ∀ {ds : List D} {vs : List V} {i : Nat} {v : V}, RelDs K H ds vs → vs[i]? = some v → ∃ d, ds[i]? = some d ∧ RelD K H d v
  | _, _, _, _, .nil, e => by simp at e
  | _, _, 0, _, .cons r _, e => by simp at e; subst e; exact ⟨_, rfl, r⟩
  | _, _, i + 1, d, .cons _ t, e => by
    obtain ⟨u, h1, h2⟩ := RelDs.getV (i := i) (v := d) t (by simpa using e)
    exact ⟨u, by simpa using h1, h2⟩
theorem RelDs.append : ∀ {ds es : List D} {vs ws : List V}, RelDs K H ds vs → RelDs K H es ws → RelDs K H (ds ++ es) (vs ++ ws)
  | _, _, _, _, .nil, s => s
  | _, _, _, _, .cons r t, s => .cons r (RelDs.append t s)
theorem RelDs.take : ∀ {ds : List D} {vs : List V} (n : Nat), RelDs K H ds vs → RelDs K H (ds.take n) (vs.take n)
  | _, _, 0, _ => by simpa using RelDs.nil
  | _, _, _ + 1, .nil => by simpa using RelDs.nil
  | _, _, n + 1, .cons r t => by simpa using RelDs.cons r (RelDs.take n t)
theorem RelDs.drop : ∀ {ds : List D} {vs : List V} (n : Nat), RelDs K H ds vs → RelDs K H (ds.drop n) (vs.drop n)
  | _, _, 0, r => r
  | _, _, _ + 1, .nil => by simpa using RelDs.nil
  | _, _, n + 1, .cons _ t => by simpa using RelDs.drop n t
theorem RelDs.set {d : D} {v : V} (r : RelD K H d v) : ∀ {ds : List D} {vs : List V} (i : Nat), RelDs K H ds vs → RelDs K H (ds.set i d) (vs.set i v)
  | _, _, _, .nil => .nil
  | _, _, 0, .cons _ t => .cons r t
  | _, _, i + 1, .cons q t => .cons q (RelDs.set r i t)
theorem RelDs.reverse {ds : List D} {vs : List V} (h : RelDs K H ds vs) : RelDs K H ds.reverse vs.reverse := by
  have go : ∀ {ds : List D} {vs : List V}, RelDs K H ds vs → ∀ {es : List D} {ws : List V}, RelDs K H es ws → RelDs K H (ds.reverse ++ es) (vs.reverse ++ ws) := by
    intro ds
    induction ds with
    | nil => intro vs h es ws h'; cases h; exact h'
    | cons d ds ih =>
      intro vs h es ws h'
      cases h with
      | cons r t =>
        simp only [List.reverse_cons, List.append_assoc]
        exact ih t (.cons r h')
  simpa using go h .nil
theorem RelDs.dropLast {ds : List D} {vs : List V} (h : RelDs K H ds vs) : RelDs K H ds.dropLast vs.dropLast := by
  rw [List.dropLast_eq_take, List.dropLast_eq_take, h.length]
  exact h.take _
theorem RelDs.ints : ∀ {ns : List Int} {vs : List V}, RelDs K H (ns.map D.int) vs → vs = ns.map V.int
  | [], _, .nil => rfl
  | n :: ns, _, .cons r t => by cases r; rw [RelDs.ints t]; rfl
theorem RelDs.of_ints : ∀ (ns : List Int), RelDs K H (ns.map D.int) (ns.map V.int)
  | [] => .nil
  | n :: ns => .cons (.int n) (RelDs.of_ints ns)
theorem RelDs.strs : ∀ {ns : List Str} {vs : List V}, RelDs K H (ns.map D.str) vs → vs = ns.map V.str
  | [], _, .nil => rfl
  | n :: ns, _, .cons r t => by cases r; rw [RelDs.strs t]; rfl
theorem RelDs.of_strs : ∀ (ns : List Str), RelDs K H (ns.map D.str) (ns.map V.str)
  | [] => .nil
  | n :: ns => .cons (.str n) (RelDs.of_strs ns)
theorem RelDs.bls : ∀ {ns : List Bool} {vs : List V}, RelDs K H (ns.map D.bl) vs → vs = ns.map V.bl
  | [], _, .nil => rfl
  | n :: ns, _, .cons r t => by cases r; rw [RelDs.bls t]; rfl
end

/-- pairs of a dict -/
inductive RelK {κ : Type} (K : PySem.W.Frag) (H : Hp) : List (κ × D) → List (κ × V) → Prop
  | nil : RelK K H [] []
  | cons {k : κ} {d : D} {v : V} {ds : List (κ × D)} {vs : List (κ × V)} : RelD K H d v → RelK K H ds vs → RelK K H ((k, d) :: ds) ((k, v) :: vs)
theorem RelK.monoT {κ : Type} {K : PySem.W.Frag} {H H' : Hp} (e : ExtT H H') : ∀ {ds : List (κ × D)} {vs : List (κ × V)}, RelK K H ds vs → RelK K H' ds vs
  | _, _, .nil => .nil
  | _, _, .cons r t => .cons (r.monoT e) (RelK.monoT e t)
theorem RelK.mono {κ : Type} {K : PySem.W.Frag} {H H' : Hp} (e : Ext H H') {ds : List (κ × D)} {vs : List (κ × V)} (r : RelK K H ds vs) : RelK K H' ds vs := r.monoT e.t
theorem RelK.keys {κ : Type} {K : PySem.W.Frag} {H : Hp} : ∀ {ds : List (κ × D)} {vs : List (κ × V)}, RelK K H ds vs → vs.map (·.1) = ds.map (·.1)
  | _, _, .nil => rfl
  | _, _, .cons r t => by simp [RelK.keys t]
theorem RelK.length {κ : Type} {K : PySem.W.Frag} {H : Hp} {ds : List (κ × D)} {vs : List (κ × V)} (h : RelK K H ds vs) : vs.length = ds.length := by
  have := congrArg List.length h.keys
  simpa using this

def RelOb (K : PySem.W.Frag) (H : Hp) (a : Addr) : Ob → Prop
  | .lst ds => ∃ vs, H a = some (.lst vs) ∧ RelDs K H ds vs
  | .rol ds => ∃ vs, SqL K H a vs ∧ RelDs K H ds vs
  | .dic kvs => ∃ ws, H a = some (.dK ws) ∧ RelK K H kvs ws
  | .rod kvs => ∃ ws u, H a = some (.frz u (.dK ws)) ∧ RelK K H kvs ws
  | .raw o => H a = some o
def RelSto (K : PySem.W.Frag) (H : Hp) (st : Sto) : Prop := ∀ a o, st a = some o → RelOb K H a o
/-- what the address holds stays, tuples stay -/
theorem RelOb.keep {K : PySem.W.Frag} {H H' : Hp} {a : Addr} {o : Ob} (h : RelOb K H a o) (e : ExtT H H') (s : ∀ u, H a = some u → H' a = some u) : RelOb K H' a o := by
  cases o with
  | lst ds => obtain ⟨vs, h1, h2⟩ := h; exact ⟨vs, s _ h1, h2.monoT e⟩
  | rol ds =>
    obtain ⟨vs, h1, h2⟩ := h
    refine ⟨vs, ?_, h2.monoT e⟩
    rcases h1 with (h1 | ⟨u, h1⟩) | h1
    · exact .inl (.inl (s _ h1))
    · exact .inl (.inr ⟨u, s _ h1⟩)
    · exact .inr h1
  | dic kvs => obtain ⟨ws, h1, h2⟩ := h; exact ⟨ws, s _ h1, h2.monoT e⟩
  | rod kvs =>
    obtain ⟨ws, u, h1, h2⟩ := h
    exact ⟨ws, u, s _ h1, h2.monoT e⟩
  | raw u => exact s _ h
/-- an object is laid anew or changed -/
theorem RelSto.put {K : PySem.W.Frag} {H : Hp} {st : Sto} {a : Addr} {o : Ob} {u : HO} (h : RelSto K H st) (e : Ext H (upd H a u)) (n : RelOb K (upd H a u) a o) : RelSto K (upd H a u) (put st a o) := fun b ob hb => by
  by_cases q : b = a
  · subst q; rw [put_same] at hb; cases hb; exact n
  · rw [put_ne q] at hb
    exact (h b ob hb).keep e.t fun v hv => by rw [upd_ne q]; exact hv
/-- a new object that is not named -/
theorem RelSto.new {K : PySem.W.Frag} {H : Hp} {st : Sto} {a : Addr} {u : HO} (h : RelSto K H st) (hn : H a = none) : RelSto K (upd H a u) st := fun b ob hb =>
  (h b ob hb).keep (Ext.upd_new hn).t fun v hv => by
    rw [upd_ne (ne_of_none hv hn)]; exact hv
/-- forgetting -/
def Sub (st st' : Sto) : Prop := ∀ a o, st a = some o → st' a = some o
theorem Sub.refl {st : Sto} : Sub st st := fun _ _ h => h
theorem Sub.trans {a b c : Sto} (h : Sub a b) (k : Sub b c) : Sub a c := fun _ _ e => k _ _ (h _ _ e)
theorem Sub.put {st st' : Sto} {a : Addr} {o : Ob} (h : Sub st st') (n : st a = none) : Sub st (put st' a o) := fun b u e => by
  rw [put_ne (by rintro rfl; rw [n] at e; cases e)]; exact h _ _ e
theorem Sub.new {st : Sto} {a : Addr} {o : Ob} (n : st a = none) : Sub st (L2.DL.put st a o) := Sub.refl.put n
theorem RelSto.sub {K : PySem.W.Frag} {H : Hp} {st st' : Sto} (h : RelSto K H st') (s : Sub st st') : RelSto K H st := fun a o e => h a o (s a o e)
/-- an address is not named, but by what is read alone -/
def Nf (st : Sto) (a : Addr) : Prop := st a = none ∨ ∃ xs, st a = some (.rol xs)
theorem RelSto.fresh {K : PySem.W.Frag} {H : Hp} {st : Sto} {a : Addr} (h : RelSto K H st) (hn : H a = none) : Nf st a := by
  cases e : st a with
  | none => exact .inl e
  | some o =>
    have q := h a o e
    cases o with
    | lst ds => obtain ⟨vs, h1, _⟩ := q; rw [hn] at h1; cases h1
    | rol ds => exact .inr ⟨ds, e⟩
    | dic kvs => obtain ⟨ws, h1, _⟩ := q; rw [hn] at h1; cases h1
    | rod kvs =>
      obtain ⟨ws, u, h1, _⟩ := q
      rw [hn] at h1; cases h1
    | raw u => have h1 : H a = some u := q; rw [hn] at h1; cases h1
/-- a list that is read -/
def rdL : Option Ob → Option (List D)
  | some (.lst xs) => some xs
  | some (.rol xs) => some xs
  | _ => none
theorem RelSto.rdL {K : PySem.W.Frag} {H : Hp} {st : Sto} {a : Addr} {ds : List D} (h : RelSto K H st) (e : rdL (st a) = some ds) : ∃ vs, SqL K H a vs ∧ RelDs K H ds vs := by
  cases q : st a with
  | none => rw [q] at e; cases e
  | some o =>
    rw [q] at e
    have r := h a o q
    cases o with
    | lst xs => cases e; obtain ⟨vs, h1, h2⟩ := r; exact ⟨vs, .of h1, h2⟩
    | rol xs => cases e; obtain ⟨vs, h1, h2⟩ := r; exact ⟨vs, h1, h2⟩
    | dic kvs => cases e
    | rod kvs => cases e
    | raw u => cases e
/-- a dict that is read -/
def rdD : Option Ob → Option (List (Key × D))
  | some (.dic kvs) => some kvs
  | some (.rod kvs) => some kvs
  | _ => none
theorem RelSto.rdD {K : PySem.W.Frag} {H : Hp} {st : Sto} {a : Addr} {ds : List (Key × D)} (h : RelSto K H st) (e : rdD (st a) = some ds) : ∃ vs, Rd H a (.dK vs) ∧ RelK K H ds vs := by
  cases q : st a with
  | none => rw [q] at e; cases e
  | some o =>
    rw [q] at e
    have r := h a o q
    cases o with
    | lst xs => cases e
    | rol xs => cases e
    | dic kvs => cases e; obtain ⟨vs, h1, h2⟩ := r; exact ⟨vs, .of h1, h2⟩
    | rod kvs => cases e; obtain ⟨vs, u, h1, h2⟩ := r; exact ⟨vs, .inr ⟨u, h1⟩, h2⟩
    | raw u => cases e
end L2.DL

namespace L2.DL
open PySem PySem.Spec PyProof.Rows

abbrev Env := List (Option D)
abbrev DK := D → Sto → Prop
abbrev ME := Env → Sto → DK → Prop
abbrev MT := Env → Sto → (Bool → Sto → Prop) → Prop
abbrev MA := Env → Sto → (List D → Sto → Prop) → Prop
structure DEnds where
  nx : Env → Sto → Prop
  rt : DK
  bk : Env → Sto → Prop := fun _ _ => False
  ct : Env → Sto → Prop := fun _ _ => False
abbrev MS := DEnds → Env → Sto → Prop

def RelX (K : PySem.W.Frag) (H : Hp) : Option D → Option V → Prop
  | some d, some v => RelD K H d v
  | some _, none => False
  | none, _ => True
/-- slots: what is told of them -/
inductive RelE (K : PySem.W.Frag) (H : Hp) : Env → St → Prop
  | nil : RelE K H [] []
  | cons {d : Option D} {v : Option V} {env : Env} {σ : St} : RelX K H d v → RelE K H env σ → RelE K H (d :: env) (v :: σ)
section
variable {K : PySem.W.Frag} {H H' : Hp}
theorem RelX.mono (e : Ext H H') : ∀ {d : Option D} {v : Option V}, RelX K H d v → RelX K H' d v
  | some _, some _, h => RelD.mono e h
  | some _, none, h => h
  | none, _, _ => trivial
theorem RelE.mono (e : Ext H H') : ∀ {env : Env} {σ : St}, RelE K H env σ → RelE K H' env σ
  | _, _, .nil => .nil
  | _, _, .cons r t => .cons (r.mono e) (RelE.mono e t)
theorem RelE.get : ∀ {env : Env} {σ : St} {i : Nat} {d : D}, RelE K H env σ → env[i]? = some (some d) → ∃ v, σ[i]? = some (some v) ∧ RelD K H d v
  | _, _, _, _, .nil, e => by simp at e
  | _, _, 0, d, .cons (v := v) r _, e => by
    simp at e; subst e
    cases v with
    | none => exact r.elim
    | some v => exact ⟨v, rfl, r⟩
  | _, _, i + 1, d, .cons _ t, e => by
    obtain ⟨u, h1, h2⟩ := RelE.get (i := i) (d := d) t (by simpa using e)
    exact ⟨u, by simpa using h1, h2⟩
theorem RelE.set {d : D} {v : V} (r : RelD K H d v) : ∀ {env : Env} {σ : St} (i : Nat), RelE K H env σ → RelE K H (env.set i (some d)) (σ.set i (some v))
  | _, _, _, .nil => .nil
  | _, _, 0, .cons _ t => .cons r t
  | _, _, i + 1, .cons q t => .cons q (RelE.set r i t)
theorem RelE.forget : ∀ {env : Env} {σ : St} (i : Nat), RelE K H env σ → RelE K H (env.set i none) (σ.set i none)
  | _, _, _, .nil => .nil
  | _, _, 0, .cons _ t => .cons trivial t
  | _, _, i + 1, .cons q t => .cons q (RelE.forget i t)
theorem RelE.start (N : List Str) {ds : List D} {vs : List V} (h : RelDs K H ds vs) : RelE K H (ds.map some ++ List.replicate (N.length - ds.length) none) (start N vs) := by
  unfold L2.start
  rw [h.length]
  generalize N.length - vs.length = n
  induction ds generalizing vs with
  | nil =>
    cases h
    induction n with
    | zero => exact .nil
    | succ n ih => exact .cons trivial ih
  | cons d ds ih =>
    cases h with
    | cons r t => exact .cons r (ih t)
end
def wipeE (env : Env) : List Nat → Env
  | [] => env
  | v :: vs => (wipeE env vs).set v none
theorem RelE.wipe {K : PySem.W.Frag} {H : Hp} {env : Env} {σ : St} (h : RelE K H env σ) : ∀ vs : List Nat, RelE K H (wipeE env vs) (wipe σ vs)
  | [] => h
  | v :: vs => (RelE.wipe h vs).forget v

/-! ### from data readings to the hand layer's -/
def lift (K : PySem.W.Frag) (m : ME) : TE := fun σ H Q' => ∃ env st Q, RelE K H env σ ∧ RelSto K H st ∧ m env st Q ∧
  ∀ d st' v H', Q d st' → Ext H H' → RelD K H' d v → RelSto K H' st' → Q' v H'
def liftT (K : PySem.W.Frag) (m : MT) : TT := fun σ H Q' => ∃ env st Q, RelE K H env σ ∧ RelSto K H st ∧ m env st Q ∧
  ∀ b st' H', Q b st' → Ext H H' → RelSto K H' st' → Q' b H'
def liftA (K : PySem.W.Frag) (m : MA) : TA := fun σ H Q' => ∃ env st Q, RelE K H env σ ∧ RelSto K H st ∧ m env st Q ∧
  ∀ ds st' vs H', Q ds st' → Ext H H' → RelDs K H' ds vs → RelSto K H' st' → Q' vs H'
def liftS (K : PySem.W.Frag) (m : MS) : TS := fun D' σ H => ∃ env st D, RelE K H env σ ∧ RelSto K H st ∧ m D env st ∧
  (∀ env' st' σ' H', D.nx env' st' → Ext H H' → RelE K H' env' σ' → RelSto K H' st' → D'.nx σ' H') ∧
  (∀ d st' v H', D.rt d st' → Ext H H' → RelD K H' d v → RelSto K H' st' → D'.rt v H') ∧
  (∀ env' st' σ' H', D.bk env' st' → Ext H H' → RelE K H' env' σ' → RelSto K H' st' → D'.bk σ' H') ∧
  (∀ env' st' σ' H', D.ct env' st' → Ext H H' → RelE K H' env' σ' → RelSto K H' st' → D'.ct σ' H')
/-- two-place operations by values -/
abbrev M2 := D → D → Sto → DK → Prop
def lift2 (K : PySem.W.Frag) (r : M2) : R2 := fun x y H Q' => ∃ dx dy st Q, RelD K H dx x ∧ RelD K H dy y ∧ RelSto K H st ∧ r dx dy st Q ∧
  ∀ d st' v H', Q d st' → Ext H H' → RelD K H' d v → RelSto K H' st' → Q' v H'
/-- calls by values -/
abbrev MC := List D → Sto → DK → Prop
def liftC (K : PySem.W.Frag) (r : MC) : List V → Hp → VK → Prop := fun xs H Q' => ∃ ds st Q, RelDs K H ds xs ∧ RelSto K H st ∧ r ds st Q ∧
  ∀ d st' v H', Q d st' → Ext H H' → RelD K H' d v → RelSto K H' st' → Q' v H'

structure DE (X : Cx) (e : Expr) (m : ME) : Prop where
  pe : PE X e (lift X.K m)
structure DT (X : Cx) (e : Expr) (m : MT) : Prop where
  pt : PT X e (liftT X.K m)
structure DW (X : Cx) (e : Expr) (m : MT) : Prop where
  pw : PW X e (liftT X.K m)
structure DA (X : Cx) (es : List Expr) (m : MA) : Prop where
  pa : PA X es (liftA X.K m)
structure DS (X : Cx) (st : Stmt) (m : MS) : Prop where
  ps : PS X st (liftS X.K m)
structure DSs (X : Cx) (st : List Stmt) (m : MS) : Prop where
  pss : PSs X st (liftS X.K m)
structure DO2 (X : Cx) (f : Value → Value → Sem Value) (r : M2) : Prop where
  op : OpR X f (lift2 X.K r)
structure DC (X : Cx) (f : Value) (r : MC) : Prop where
  call : CallR X f (liftC X.K r)

theorem pe_mono {X : Cx} {e : Expr} {t t' : TE} (h : PE X e t) (k : ∀ σ H Q, t' σ H Q → t σ H Q) : PE X e t' := ⟨fun pins s σ H Q I hw => h.run pins s σ H Q I (k _ _ _ hw)⟩
theorem pt_mono {X : Cx} {e : Expr} {t t' : TT} (h : PT X e t) (k : ∀ σ H Q, t' σ H Q → t σ H Q) : PT X e t' := ⟨fun pins s σ H Q I hw => h.run pins s σ H Q I (k _ _ _ hw)⟩
theorem pw_mono {X : Cx} {e : Expr} {t t' : TT} (h : PW X e t) (k : ∀ σ H Q, t' σ H Q → t σ H Q) : PW X e t' := ⟨fun wh pins s σ H Q I hw => h.run wh pins s σ H Q I (k _ _ _ hw)⟩
theorem pa_mono {X : Cx} {e : List Expr} {t t' : TA} (h : PA X e t) (k : ∀ σ H Q, t' σ H Q → t σ H Q) : PA X e t' := ⟨fun pos pins s σ H Q I hw => h.run pos pins s σ H Q I (k _ _ _ hw)⟩
theorem ps_mono {X : Cx} {e : Stmt} {t t' : TS} (h : PS X e t) (k : ∀ D σ H, t' D σ H → t D σ H) : PS X e t' := ⟨fun pins s σ H D I hw => h.run pins s σ H D I (k _ _ _ hw)⟩
theorem pss_mono {X : Cx} {e : List Stmt} {t t' : TS} (h : PSs X e t) (k : ∀ D σ H, t' D σ H → t D σ H) : PSs X e t' := ⟨fun pins s σ H D I hw => h.run pins s σ H D I (k _ _ _ hw)⟩

/-- into a lift -/
theorem lift_in {K : PySem.W.Frag} {m : ME} {env : Env} {st : Sto} {σ : St} {H : Hp} {Q : DK} {Q' : VK} (re : RelE K H env σ) (rs : RelSto K H st) (h : m env st Q)
    (k : ∀ d st' v H', Q d st' → Ext H H' → RelD K H' d v → RelE K H' env σ → RelSto K H' st' → Q' v H') : lift K m σ H Q' :=
  ⟨env, st, Q, re, rs, h, fun d st' v H' q e r s => k d st' v H' q e r (re.mono e) s⟩
theorem liftT_in {K : PySem.W.Frag} {m : MT} {env : Env} {st : Sto} {σ : St} {H : Hp} {Q : Bool → Sto → Prop} {Q' : Bool → Hp → Prop} (re : RelE K H env σ) (rs : RelSto K H st) (h : m env st Q)
    (k : ∀ b st' H', Q b st' → Ext H H' → RelE K H' env σ → RelSto K H' st' → Q' b H') : liftT K m σ H Q' :=
  ⟨env, st, Q, re, rs, h, fun b st' H' q e s => k b st' H' q e (re.mono e) s⟩
theorem liftA_in {K : PySem.W.Frag} {m : MA} {env : Env} {st : Sto} {σ : St} {H : Hp} {Q : List D → Sto → Prop} {Q' : List V → Hp → Prop} (re : RelE K H env σ) (rs : RelSto K H st) (h : m env st Q)
    (k : ∀ ds st' vs H', Q ds st' → Ext H H' → RelDs K H' ds vs → RelE K H' env σ → RelSto K H' st' → Q' vs H') : liftA K m σ H Q' :=
  ⟨env, st, Q, re, rs, h, fun d st' v H' q e r s => k d st' v H' q e r (re.mono e) s⟩

/-! ### names, constants -/
def mVar (i : Nat) : ME := fun env st Q => ∃ d, env[i]? = some (some d) ∧ Q d st
def mC (d : D) : ME := fun _ st Q => Q d st
section
variable {X : Cx} {a b e : Expr} {es : List Expr} {ma mb m : ME} {pos : Pos}
theorem de_var {i : Nat} {x : Str} (hN : X.N[i]? = some x) (hv : Vis X.env.scope x) (hd : (x == ("__debug__" : Str)) = false := by decide) (hcd : (x == ("__classdict__" : Str)) = false := by decide) : DE X (.Name x pos) (mVar i) :=
  ⟨pe_mono (pe_var hN hv hd hcd) fun σ H Q ⟨env, st, Q0, re, rs, ⟨d, e, h⟩, k⟩ => by
    obtain ⟨v, e1, r⟩ := re.get e
    exact ⟨v, e1, k d st v H h .refl r rs⟩⟩
theorem de_int {i : Int} {j pos} : DE X (.Constant (.int i) j pos) (mC (.int i)) := ⟨pe_mono pe_int fun σ H Q ⟨env, st, Q0, re, rs, h, k⟩ => k _ st _ H h .refl (.int i) rs⟩
theorem de_bl {b : Bool} {j pos} : DE X (.Constant (.bool b) j pos) (mC (.bl b)) := ⟨pe_mono pe_bl fun σ H Q ⟨env, st, Q0, re, rs, h, k⟩ => k _ st _ H h .refl (.bl b) rs⟩
theorem de_non {j pos} : DE X (.Constant .none j pos) (mC .non) := ⟨pe_mono pe_non fun σ H Q ⟨env, st, Q0, re, rs, h, k⟩ => k _ st _ H h .refl .non rs⟩
theorem de_str {x : Str} {j pos} : DE X (.Constant (.str x) j pos) (mC (.str x)) := ⟨pe_mono pe_str fun σ H Q ⟨env, st, Q0, re, rs, h, k⟩ => k _ st _ H h .refl (.str x) rs⟩
/-- a constant of the module: an int, a text -/
theorem de_glob {x : Str} {v : V} {d : D} {u : Value} (hg : Gl X x) (hm : X.mg x = some u) (r : RelV v u) (rd : ∀ H, RelD X.K H d v) (hd : (x == ("__debug__" : Str)) = false := by decide) : DE X (.Name x pos) (mC d) :=
  ⟨pe_mono (pe_glob hg hm r hd) fun σ H Q ⟨env, st, Q0, re, rs, h, k⟩ => k _ st _ H h .refl (rd H) rs⟩
theorem de_bltn {x : Str} {n : String} (hg : Gl X x) (hm : X.mg x = none) (hv : bootBuiltins x = some (.type n)) (hn : x ≠ "__name__" := by decide) (hd : (x == ("__debug__" : Str)) = false := by decide) : DE X (.Name x pos) (mC (.ty n)) :=
  ⟨pe_mono (pe_bltn (v := .ty n) hg hm hv rfl hn hd) fun σ H Q ⟨env, st, Q0, re, rs, h, k⟩ => k _ st _ H h .refl (.ty n) rs⟩

/-! ### operators -/
def mBin (r : M2) (ma mb : ME) : ME := fun env st Q => ma env st fun x st1 => mb env st1 fun y st2 => r x y st2 Q
theorem lift_bin {K : PySem.W.Frag} {r : M2} {σ : St} {H : Hp} {Q : VK} (h : lift K (mBin r ma mb) σ H Q) : tOp (lift2 K r) (lift K ma) (lift K mb) σ H Q := by
  obtain ⟨env, st, Q0, re, rs, h, k⟩ := h
  refine lift_in re rs h fun x st1 x' H1 q1 e1 rx re1 rs1 => ?_
  refine lift_in re1 rs1 q1 fun y st2 y' H2 q2 e2 ry re2 rs2 => ?_
  exact ⟨x, y, st2, Q0, rx.mono e2, ry, rs2, q2, fun d st' v H' q e r s => k d st' v H' q (e1.trans (e2.trans e)) r s⟩
theorem de_bin {op : Operator} {r : M2} (ho : DO2 X (binaryOp op) r) (ha : DE X a ma) (hb : DE X b mb) : DE X (.BinOp a op b pos) (mBin r ma mb) :=
  ⟨pe_mono (pe_op ho.op ha.pe hb.pe) fun _ _ _ => lift_bin⟩
theorem de_cmp {op : CmpOp} {r : M2} (ho : DO2 X (compareOp op) r) (ha : DE X a ma) (hb : DE X b mb) (hm : behindInMarks op b = false) : DE X (.Compare a [op] [b] pos) (mBin r ma mb) :=
  ⟨pe_mono (pe_cmpR ho.op ha.pe hb.pe hm) fun _ _ _ => lift_bin⟩
/-- a value that is a bool, as a test -/
def mTest (m : ME) : MT := fun env st Q => m env st fun x st1 => ∃ k, x = .bl k ∧ Q k st1
theorem RelD.bl_of {K : PySem.W.Frag} {H : Hp} {k : Bool} {v : V} (r : RelD K H (.bl k) v) : v = .bl k := by cases r; rfl
theorem RelD.int_of {K : PySem.W.Frag} {H : Hp} {k : Int} {v : V} (r : RelD K H (.int k) v) : v = .int k := by cases r; rfl
theorem RelD.str_of {K : PySem.W.Frag} {H : Hp} {k : Str} {v : V} (r : RelD K H (.str k) v) : v = .str k := by cases r; rfl
theorem RelD.ref_of {K : PySem.W.Frag} {H : Hp} {k : Addr} {v : V} (r : RelD K H (.ref k) v) : v = .ref k := by cases r; rfl
theorem RelD.non_of {K : PySem.W.Frag} {H : Hp} {v : V} (r : RelD K H .non v) : v = .non := by cases r; rfl
theorem RelD.ty_of {K : PySem.W.Frag} {H : Hp} {n : String} {v : V} (r : RelD K H (.ty n) v) : v = .ty n := by cases r; rfl
theorem RelD.tup_of {K : PySem.W.Frag} {H : Hp} {ds : List D} {v : V} (r : RelD K H (.tup ds) v) : ∃ a vs, v = .ref a ∧ SqT K H a vs ∧ RelDs K H ds vs := by
  cases r with
  | tup h t => exact ⟨_, _, rfl, h, t⟩
theorem dt_cmp {op : CmpOp} {r : M2} (ho : DO2 X (compareOp op) r) (ha : DE X a ma) (hb : DE X b mb) (hm : behindInMarks op b = false) : DT X (.Compare a [op] [b] pos) (mTest (mBin r ma mb)) :=
  ⟨pt_mono (pt_cmpR ho.op ha.pe hb.pe hm) fun σ H Q ⟨env, st, Q0, re, rs, h, k⟩ => by
    refine lift_bin ⟨env, st, _, re, rs, h, fun d st' v H' ⟨c, e, q⟩ ex r s => ?_⟩
    subst e
    exact ⟨c, r.bl_of, k c st' H' q ex s⟩⟩
theorem dt_val (ha : DE X a ma) (he : ∀ whole, isTrue a X.env whole = (do let v ← whole; standAt a.pos; holding [v] (truthy v)) := by intro _; rfl) : DT X a (mTest ma) :=
  ⟨pt_mono (pt_val ha.pe he) fun σ H Q ⟨env, st, Q0, re, rs, h, k⟩ => ⟨env, st, _, re, rs, h, fun d st' v H' ⟨c, e, q⟩ ex r s => by
    subst e
    exact ⟨c, r.bl_of, k c st' H' q ex s⟩⟩⟩

/-! ### and, or, not -/
variable {tA tB : MT} {rest : List Expr}
def mAnd (t u : MT) : MT := fun env st Q => t env st fun c st1 => if c = true then u env st1 Q else Q false st1
def mOr (t u : MT) : MT := fun env st Q => t env st fun c st1 => if c = true then Q true st1 else u env st1 Q
def mNot (t : MT) : MT := fun env st Q => t env st fun c st1 => Q (!c) st1
theorem dw_and1 (ha : DT X a tA) : DW X (.BoolOp .And [a] pos) tA := ⟨pw_and1 ha.pt⟩
theorem dw_or1 (ha : DT X a tA) : DW X (.BoolOp .Or [a] pos) tA := ⟨pw_or1 ha.pt⟩
theorem dw_and (ha : DT X a tA) (hb : DW X (.BoolOp .And (b :: rest) pos) tB) : DW X (.BoolOp .And (a :: b :: rest) pos) (mAnd tA tB) :=
  ⟨pw_mono (pw_and ha.pt hb.pw) fun σ H Q ⟨env, st, Q0, re, rs, h, k⟩ => by
    refine liftT_in re rs h fun c st1 H1 q e re1 rs1 => ?_
    cases c with
    | true => exact ⟨env, st1, _, re1, rs1, q, fun b st' H' q2 e2 s2 => k b st' H' q2 (e.trans e2) s2⟩
    | false => exact k false st1 H1 q e rs1⟩
theorem dw_or (ha : DT X a tA) (hb : DW X (.BoolOp .Or (b :: rest) pos) tB) : DW X (.BoolOp .Or (a :: b :: rest) pos) (mOr tA tB) :=
  ⟨pw_mono (pw_or ha.pt hb.pw) fun σ H Q ⟨env, st, Q0, re, rs, h, k⟩ => by
    refine liftT_in re rs h fun c st1 H1 q e re1 rs1 => ?_
    cases c with
    | false => exact ⟨env, st1, _, re1, rs1, q, fun b st' H' q2 e2 s2 => k b st' H' q2 (e.trans e2) s2⟩
    | true => exact k true st1 H1 q e rs1⟩
theorem DW.dt (h : DW X a tA) : DT X a tA := ⟨h.pw.pt⟩
theorem dt_not (ha : DT X a tA) : DT X (.UnaryOp .Not a pos) (mNot tA) :=
  ⟨pt_mono (pt_not ha.pt) fun σ H Q ⟨env, st, Q0, re, rs, h, k⟩ => liftT_in re rs h fun c st1 H1 q e re1 rs1 => k _ st1 H1 q e rs1⟩
/-- as values: all but the last are bools -/
def mAndV (ma mb : ME) : ME := fun env st Q => ma env st fun x st1 => ∃ c, x = .bl c ∧ if c = true then mb env st1 Q else Q (.bl false) st1
def mOrV (ma mb : ME) : ME := fun env st Q => ma env st fun x st1 => ∃ c, x = .bl c ∧ if c = true then Q (.bl true) st1 else mb env st1 Q
def mNotV (ma : ME) : ME := fun env st Q => ma env st fun x st1 => ∃ c, x = .bl c ∧ Q (.bl (!c)) st1
theorem de_one {op} (h : DE X a m) : DE X (.BoolOp op [a] pos) m := ⟨pe_one h.pe⟩
theorem de_and (ha : DE X a ma) (hb : DE X (.BoolOp .And (b :: rest) pos) mb) : DE X (.BoolOp .And (a :: b :: rest) pos) (mAndV ma mb) :=
  ⟨pe_mono (pe_and ha.pe hb.pe) fun σ H Q ⟨env, st, Q0, re, rs, h, k⟩ => by
    refine lift_in re rs h fun x st1 x' H1 q e rx re1 rs1 => ?_
    obtain ⟨c, rfl, q⟩ := q
    refine ⟨c, rx.bl_of, ?_⟩
    cases c with
    | true => exact ⟨env, st1, _, re1, rs1, q, fun d st' v H' q2 e2 r2 s2 => k d st' v H' q2 (e.trans e2) r2 s2⟩
    | false => exact k _ st1 _ H1 q e (.bl false) rs1⟩
theorem de_or (ha : DE X a ma) (hb : DE X (.BoolOp .Or (b :: rest) pos) mb) : DE X (.BoolOp .Or (a :: b :: rest) pos) (mOrV ma mb) :=
  ⟨pe_mono (pe_or ha.pe hb.pe) fun σ H Q ⟨env, st, Q0, re, rs, h, k⟩ => by
    refine lift_in re rs h fun x st1 x' H1 q e rx re1 rs1 => ?_
    obtain ⟨c, rfl, q⟩ := q
    refine ⟨c, rx.bl_of, ?_⟩
    cases c with
    | false => exact ⟨env, st1, _, re1, rs1, q, fun d st' v H' q2 e2 r2 s2 => k d st' v H' q2 (e.trans e2) r2 s2⟩
    | true => exact k _ st1 _ H1 q e (.bl true) rs1⟩
theorem de_not (ha : DE X a ma) : DE X (.UnaryOp .Not a pos) (mNotV ma) :=
  ⟨pe_mono (pe_not ha.pe) fun σ H Q ⟨env, st, Q0, re, rs, h, k⟩ => by
    refine lift_in re rs h fun x st1 x' H1 q e rx re1 rs1 => ?_
    obtain ⟨c, rfl, q⟩ := q
    exact ⟨c, rx.bl_of, k _ st1 _ H1 q e (.bl _) rs1⟩⟩
def mIf (t : MT) (ma mb : ME) : ME := fun env st Q => t env st fun c st1 => if c = true then ma env st1 Q else mb env st1 Q
theorem de_ifExp {c : Expr} (hc : DT X c tA) (ha : DE X a ma) (hb : DE X b mb) : DE X (.IfExp c a b pos) (mIf tA ma mb) :=
  ⟨pe_mono (pe_ifExp hc.pt ha.pe hb.pe) fun σ H Q ⟨env, st, Q0, re, rs, h, k⟩ => by
    refine liftT_in re rs h fun c st1 H1 q e re1 rs1 => ?_
    cases c with
    | true => exact ⟨env, st1, _, re1, rs1, q, fun d st' v H' q2 e2 r2 s2 => k d st' v H' q2 (e.trans e2) r2 s2⟩
    | false => exact ⟨env, st1, _, re1, rs1, q, fun d st' v H' q2 e2 r2 s2 => k d st' v H' q2 (e.trans e2) r2 s2⟩⟩

/-! ### arguments, displays -/
def mNil : MA := fun _ st Q => Q [] st
def mCons (ma : ME) (mr : MA) : MA := fun env st Q => ma env st fun x st1 => mr env st1 fun xs st2 => Q (x :: xs) st2
variable {mr : MA}
theorem da_nil : DA X [] mNil := ⟨pa_mono pa_nil fun σ H Q ⟨env, st, Q0, re, rs, h, k⟩ => k [] st [] H h .refl .nil rs⟩
theorem da_cons (ha : DE X e ma) (hr : DA X es mr) (hs : starEach (e :: es) X.env = (false, eval e X.env) :: starEach es X.env := by rfl) : DA X (e :: es) (mCons ma mr) :=
  ⟨pa_mono (pa_cons ha.pe hr.pa hs) fun σ H Q ⟨env, st, Q0, re, rs, h, k⟩ => by
    refine lift_in re rs h fun x st1 x' H1 q1 e1 rx re1 rs1 => ?_
    refine liftA_in re1 rs1 q1 fun xs st2 xs' H2 q2 e2 rxs re2 rs2 => ?_
    exact k _ st2 _ H2 q2 (e1.trans e2) (.cons (rx.mono e2) rxs) rs2⟩
def mTup (m : MA) : ME := fun env st Q => m env st fun xs st1 => xs.length ≤ sizeLine ∧ Q (.tup xs) st1
def mLst (m : MA) : ME := fun env st Q => m env st fun xs st1 => xs.length ≤ sizeLine ∧ ∀ p, Nf st1 p → Q (.ref p) (put st1 p (.lst xs))
theorem de_tup {x1} (h : DA X es mr) : DE X (.Tuple es x1 pos) (mTup mr) :=
  ⟨pe_mono (pe_tup h.pa) fun σ H Q ⟨env, st, Q0, re, rs, h, k⟩ => by
    refine liftA_in re rs h fun xs st1 xs' H1 q1 e1 rx re1 rs1 => ?_
    obtain ⟨hl, q1⟩ := q1
    refine ⟨by rw [← rx.length]; exact hl, fun p hp => ?_⟩
    have ex : Ext H1 (upd H1 p (.tup xs')) := .upd_new hp
    exact k _ st1 _ _ q1 (e1.trans ex) (.tup (.of upd_same) (rx.mono ex)) (rs1.new hp)⟩
theorem de_lst (h : DA X es mr) : DE X (.List es pos) (mLst mr) :=
  ⟨pe_mono (pe_lst h.pa) fun σ H Q ⟨env, st, Q0, re, rs, h, k⟩ => by
    refine liftA_in re rs h fun xs st1 xs' H1 q1 e1 rx re1 rs1 => ?_
    obtain ⟨hl, q1⟩ := q1
    refine ⟨by rw [← rx.length]; exact hl, fun p hp => ?_⟩
    have ex : Ext H1 (upd H1 p (.lst xs')) := .upd_new hp
    exact k _ _ _ _ (q1 p (rs1.fresh hp)) (e1.trans ex) (.ref p) (rs1.put ex ⟨xs', upd_same, rx.mono ex⟩)⟩

/-! ### built-in functions and types called -/
def mCall (r : MC) (m : MA) : ME := fun env st Q => m env st fun xs st1 => r xs st1 Q
theorem lift_call {K : PySem.W.Frag} {r : MC} {σ : St} {H : Hp} {Q : VK} (h : lift K (mCall r mr) σ H Q) : tCB (liftC K r) (liftA K mr) σ H Q := by
  obtain ⟨env, st, Q0, re, rs, h, k⟩ := h
  refine liftA_in re rs h fun xs st1 xs' H1 q1 e1 rx re1 rs1 => ?_
  exact ⟨xs, st1, Q0, rx, rs1, q1, fun d st' v H' q e r s => k d st' v H' q (e1.trans e) r s⟩
theorem de_callB {x : Str} {id : String} {p pos : Pos} {r : MC} (hc : DC X (.builtin id) r) (hg : Gl X x) (hm : X.mg x = none) (hv : bootBuiltins x = some (.builtin id)) (ha : DA X (e :: es) mr) (hn : x ≠ "__name__" := by decide) (hdb : (x == ("__debug__" : Str)) = false := by decide)
    (he : starEach (e :: es) X.env = (false, eval e X.env) :: starEach es X.env := by rfl) (hpl : (backTo pos (starEach es X.env)).any (·.1) = false := by rfl) : DE X (.Call (.Name x p) (e :: es) [] pos) (mCall r mr) :=
  ⟨pe_mono (pe_callB hc.call hg hm hv ha.pa hn hdb he hpl) fun _ _ _ => lift_call⟩
theorem de_callTy {x : Str} {T : String} {p pos : Pos} {r : MC} (hc : DC X (.type T) r) (hg : Gl X x) (hm : X.mg x = none) (hv : bootBuiltins x = some (.type T)) (ha : DA X (e :: es) mr) (hn : x ≠ "__name__" := by decide) (hdb : (x == ("__debug__" : Str)) = false := by decide)
    (he : starEach (e :: es) X.env = (false, eval e X.env) :: starEach es X.env := by rfl) (hpl : (backTo pos (starEach es X.env)).any (·.1) = false := by rfl) : DE X (.Call (.Name x p) (e :: es) [] pos) (mCall r mr) :=
  ⟨pe_mono (pe_callTy hc.call hg hm hv ha.pa hn hdb he hpl) fun _ _ _ => lift_call⟩

/-! ### defs of the text -/
/-- a def's promise over data -/
abbrev DSp := List D → Sto → DK → Prop
def liftSp (K : PySem.W.Frag) (sp : DSp) : Sp := fun vs H Q' _ => ∃ ds st Q, RelDs K H ds vs ∧ RelSto K H st ∧ sp ds st Q ∧
  ∀ d st' v H', Q d st' → Ext H H' → RelD K H' d v → RelSto K H' st' → Q' v H'
theorem de_call {x : Str} {k : Nat} {f : Addr} {fd : FuncData} {ps : List Str} {sp : DSp} {p pos : Pos} (F : FnOk X.prog X.w X.K X.mg X.base CX0 k f fd ps (liftSp X.K sp)) (hr : Room k X.A) (hg : Gl X x) (hm : X.mg x = some (.ref f)) (hk : PySem.W.keepIn X.K (.ref f) = true) (hb : Binds X.K fd ps [])
    (ha : DA X (e :: es) mr) (hdb : (x == ("__debug__" : Str)) = false := by decide) (he : starEach (e :: es) X.env = (false, eval e X.env) :: starEach es X.env := by rfl) (hpl : (backTo pos (starEach es X.env)).any (·.1) = false := by rfl) :
    DE X (.Call (.Name x p) (e :: es) [] pos) (mCall sp mr) :=
  ⟨pe_mono (pe_call F hr hg hm hk hb .nil pass0 ha.pa hdb he hpl) fun σ H Q h => by
    obtain ⟨env, st, Q0, re, rs, h, k⟩ := h
    refine liftA_in re rs h fun xs st1 xs' H1 q1 e1 rx re1 rs1 => ?_
    rw [List.append_nil]
    exact ⟨xs, st1, Q0, rx, rs1, q1, fun d st' v H' q e r s => k d st' v H' q (e1.trans e) r s⟩⟩
theorem de_call0 {x : Str} {k : Nat} {f : Addr} {fd : FuncData} {ps : List Str} {sp : DSp} {p pos : Pos} (F : FnOk X.prog X.w X.K X.mg X.base CX0 k f fd ps (liftSp X.K sp)) (hr : Room k X.A) (hg : Gl X x) (hm : X.mg x = some (.ref f)) (hk : PySem.W.keepIn X.K (.ref f) = true) (hb : Binds X.K fd ps [])
    (hdb : (x == ("__debug__" : Str)) = false := by decide) : DE X (.Call (.Name x p) [] [] pos) (mCall sp mNil) :=
  ⟨pe_mono (pe_call0 F hr hg hm hk hb .nil pass0 hdb) fun σ H Q h => by
    obtain ⟨env, st, Q0, re, rs, h, k⟩ := h
    exact ⟨[], st, Q0, .nil, rs, h, k⟩⟩
end
end L2.DL

namespace L2.DL
open PySem PySem.Spec PyProof.Rows

/-! ### data compared -/
mutual
def toPy : D → Option PyData
  | .non => some .none
  | .bl b => some (.bool b)
  | .int i => some (.int i)
  | .str x => some (.str x)
  | .ty _ => none
  | .ref _ => none
  | .tup xs => (toPys xs).map .tuple
def toPys : List D → Option (List PyData)
  | [] => some []
  | d :: ds => (toPy d).bind fun p => (toPys ds).map fun ps => p :: ps
end
def pyOf (st : Sto) : D → Option PyData
  | .ref a => ((rdL (st a)).bind toPys).map .list
  | d => toPy d
mutual
theorem dp_of {K : PySem.W.Frag} {H : Hp} : ∀ {d : D} {v : V} {p : PyData}, RelD K H d v → toPy d = some p → Dp K H v p
  | .non, _, p, r, e => by cases r; simp only [toPy, Option.some.injEq] at e; subst e; exact .non
  | .bl b, _, p, r, e => by cases r; simp only [toPy, Option.some.injEq] at e; subst e; exact .bl b
  | .int b, _, p, r, e => by cases r; simp only [toPy, Option.some.injEq] at e; subst e; exact .int b
  | .str b, _, p, r, e => by cases r; simp only [toPy, Option.some.injEq] at e; subst e; exact .str b
  | .ty n, _, p, r, e => by simp [toPy] at e
  | .ref a, _, p, r, e => by simp [toPy] at e
  | .tup ds, _, p, r, e => by
    cases r with
    | tup h t =>
      simp only [toPy, Option.map_eq_some_iff] at e
      obtain ⟨ps, e, rfl⟩ := e
      exact .tup h (dps_of t e)
theorem dps_of {K : PySem.W.Frag} {H : Hp} : ∀ {ds : List D} {vs : List V} {ps : List PyData}, RelDs K H ds vs → toPys ds = some ps → DpAll K H vs ps
  | [], _, ps, r, e => by cases r; simp only [toPys, Option.some.injEq] at e; subst e; exact .nil
  | d :: ds, _, ps, r, e => by
    cases r with
    | cons r t =>
      simp only [toPys, Option.bind_eq_some_iff, Option.map_eq_some_iff] at e
      obtain ⟨p, e1, qs, e2, rfl⟩ := e
      exact .cons (dp_of r e1) (dps_of t e2)
end
theorem pyOf_dp {K : PySem.W.Frag} {H : Hp} {st : Sto} {d : D} {v : V} {p : PyData} (rs : RelSto K H st) (r : RelD K H d v) (e : pyOf st d = some p) : Dp K H v p := by
  cases d with
  | ref a =>
    cases r
    simp only [pyOf, Option.map_eq_some_iff, Option.bind_eq_some_iff] at e
    obtain ⟨ps, ⟨xs, e1, e2⟩, rfl⟩ := e
    obtain ⟨vs, h1, h2⟩ := rs.rdL e1
    exact .lst h1 (dps_of h2 e2)
  | _ => exact dp_of r e

theorem opr_mono {X : Cx} {f : Value → Value → Sem Value} {r r' : R2} (h : OpR X f r) (k : ∀ x y H Q, r' x y H Q → r x y H Q) : OpR X f r' :=
  fun pins s σ H x y v u Q I rx ry q => h pins s σ H x y v u Q I rx ry (k _ _ _ _ q)
theorem callr_mono {X : Cx} {f : Value} {r r' : List V → Hp → VK → Prop} (h : CallR X f r) (k : ∀ xs H Q, r' xs H Q → r xs H Q) : CallR X f r' :=
  fun pins s σ H xs us Q I rx q => h pins s σ H xs us Q I rx (k _ _ _ q)
theorem ixr_mono {X : Cx} {r r' : R2} (h : IxR X r) (k : ∀ x y H Q, r' x y H Q → r x y H Q) : IxR X r' :=
  fun value slice pins s σ H x y v u Q I rx ry q hs => h value slice pins s σ H x y v u Q I rx ry (k _ _ _ _ q) hs
theorem mtr_mono {X : Cx} {id : String} {r r' : V → List V → Hp → VK → Prop} (h : MtR X id r) (k : ∀ x xs H Q, r' x xs H Q → r x xs H Q) : MtR X id r' :=
  fun pins s σ H x xs v us Q I rx rs q => h pins s σ H x xs v us Q I rx rs (k _ _ _ _ q)

/-! ### two-place operations -/
def oAdd : M2
  | .int i, .int j, st, Q => Q (.int (i + j)) st
  | .str i, .str j, st, Q => i.length + j.length ≤ sizeLine ∧ Q (.str (i ++ j)) st
  | .tup a, .tup b, st, Q => a.length + b.length ≤ sizeLine ∧ Q (.tup (a ++ b)) st
  | .ref a, .ref b, st, Q => ∃ xs ys, st a = some (.lst xs) ∧ st b = some (.lst ys) ∧ xs.length + ys.length ≤ sizeLine ∧ ∀ p, Nf st p → Q (.ref p) (put st p (.lst (xs ++ ys)))
  | _, _, _, _ => False
def oSub : M2
  | .int i, .int j, st, Q => Q (.int (i - j)) st
  | _, _, _, _ => False
def oMul : M2
  | .int i, .int j, st, Q => CMulW i j ∧ Q (.int (i * j)) st
  | .ref a, .int k, st, Q => ∃ xs, st a = some (.lst xs) ∧ (-(2 ^ 63) ≤ k ∧ k < 2 ^ 63) ∧ xs.length * k.toNat ≤ sizeLine ∧ ∀ p, Nf st p → Q (.ref p) (put st p (.lst (List.replicate k.toNat xs).flatten))
  | .tup xs, .int k, st, Q => xs ≠ [] ∧ 2 ≤ k ∧ (xs.length : Int) * k ≤ 1000000 ∧ Q (.tup (List.replicate k.toNat xs).flatten) st
  | _, _, _, _ => False
def oDiv : M2
  | .int i, .int j, st, Q => CDivW i j ∧ Q (.int (i / j)) st
  | _, _, _, _ => False
def oMod : M2
  | .int i, .int j, st, Q => 0 < j ∧ Q (.int (i % j)) st
  | _, _, _, _ => False
def oPow : M2
  | .int i, .int j, st, Q => CPow i j ∧ Q (.int (i ^ j.toNat)) st
  | _, _, _, _ => False
/-- == of flat values of kinds that do not mix -/
def eqSc : D → D → Option Bool
  | .non, .non => some true
  | .non, .int _ => some false
  | .int _, .non => some false
  | .non, .bl _ => some false
  | .bl _, .non => some false
  | .non, .str _ => some false
  | .str _, .non => some false
  | .int i, .int j => some (decide (i = j))
  | .bl i, .bl j => some (decide (i = j))
  | .str i, .str j => some (decide (i = j))
  | .int _, .str _ => some false
  | .str _, .int _ => some false
  | .bl _, .str _ => some false
  | .str _, .bl _ => some false
  | _, _ => none
def oEq (x y : D) (st : Sto) (Q : DK) : Prop := (∃ b, eqSc x y = some b ∧ Q (.bl b) st) ∨ ∃ p q, pyOf st x = some p ∧ pyOf st y = some q ∧ SeqAt.shaped p = true ∧ SeqAt.shaped q = true ∧ Q (.bl (p.eqv q)) st
def oNe (x y : D) (st : Sto) (Q : DK) : Prop := (∃ b, eqSc x y = some b ∧ Q (.bl (!b)) st) ∨ ∃ p q, pyOf st x = some p ∧ pyOf st y = some q ∧ SeqAt.shaped p = true ∧ SeqAt.shaped q = true ∧ Q (.bl (!p.eqv q)) st
def oLt : M2
  | .int i, .int j, st, Q => Q (.bl (decide (i < j))) st
  | .str i, .str j, st, Q => Q (.bl (decide (i.cps.toList < j.cps.toList))) st
  | _, _, _, _ => False
def oLe : M2
  | .int i, .int j, st, Q => Q (.bl (decide (i ≤ j))) st
  | _, _, _, _ => False
def oGt : M2
  | .int i, .int j, st, Q => Q (.bl (decide (j < i))) st
  | _, _, _, _ => False
def oGe : M2
  | .int i, .int j, st, Q => Q (.bl (decide (j ≤ i))) st
  | _, _, _, _ => False
def oIs : M2
  | x, .non, st, Q => Q (.bl (match x with | .non => true | _ => false)) st
  | x, .bl b, st, Q => Q (.bl (match x with | .bl a => decide (a = b) | _ => false)) st
  | _, _, _, _ => False
def oIsNot : M2
  | x, .non, st, Q => Q (.bl (match x with | .non => false | _ => true)) st
  | x, .bl b, st, Q => Q (.bl (match x with | .bl a => !decide (a = b) | _ => true)) st
  | _, _, _, _ => False
/-- flat values and their == -/
def flatD : D → Bool
  | .non => true
  | .bl _ => true
  | .int _ => true
  | .str _ => true
  | _ => false
def eqF : D → D → Bool
  | .non, .non => true
  | .bl a, .bl b => a == b
  | .bl a, .int b => (if a then 1 else 0) == b
  | .int a, .bl b => a == (if b then 1 else 0)
  | .int a, .int b => a == b
  | .str a, .str b => a == b
  | _, _ => false
def inF (x : D) (xs : List D) : Bool := xs.any fun y => eqF y x
def keyD : D → Option Key
  | .int i => some (.inl i)
  | .str x => some (.inr x)
  | _ => none
def valD {κ : Type} [DecidableEq κ] (kvs : List (κ × D)) (k : κ) : Option D := (kvs.find? fun kv => decide (kv.1 = k)).map (·.2)
def oIn : M2
  | .str c, .str z, st, Q => Q (.bl (!(Builtin.Str.occurrences z c 0 z.length 1).isEmpty)) st
  | x, .tup xs, st, Q => flatD x = true ∧ xs.all flatD = true ∧ Q (.bl (inF x xs)) st
  | x, .ref a, st, Q => (∃ xs, rdL (st a) = some xs ∧ flatD x = true ∧ xs.all flatD = true ∧ Q (.bl (inF x xs)) st) ∨
      (∃ kvs k, rdD (st a) = some kvs ∧ keyD x = some k ∧ Q (.bl (valD kvs k).isSome) st)
  | _, _, _, _ => False
def oNotIn (x y : D) (st : Sto) (Q : DK) : Prop := oIn x y st fun d st' => ∃ b, d = .bl b ∧ Q (.bl (!b)) st'

section
variable {X : Cx}
theorem RelK.valD {κ : Type} [DecidableEq κ] {K : PySem.W.Frag} {H : Hp} : ∀ {ds : List (κ × D)} {vs : List (κ × V)} (k : κ), RelK K H ds vs → RelX K H (DL.valD ds k) (valV vs k) ∧ (DL.valD ds k).isSome = (valV vs k).isSome
  | _, _, k, .nil => ⟨trivial, rfl⟩
  | _, _, k, .cons (k := k') (d := d) (v := v) (ds := ds) (vs := vs) r t => by
    unfold DL.valD valV
    by_cases h : k' = k
    · subst h
      simp only [List.find?_cons, decide_true]
      exact ⟨r, rfl⟩
    · simp only [List.find?_cons, decide_eq_false h]
      exact RelK.valD k t
theorem do_add : DO2 X (binaryOp .Add) oAdd :=
  ⟨opr_mono (((op_add (X := X)).or op_add_str).or (op_catA.or op_cat)) fun x y H Q ⟨dx, dy, st, Q0, rx, ry, rs, h, k⟩ => by
    cases dx <;> cases dy <;> simp only [oAdd] at h <;> try exact h.elim
    · cases rx; cases ry
      exact .inl (.inl ⟨_, _, rfl, rfl, k _ st _ H h .refl (.int _) rs⟩)
    · cases rx; cases ry
      obtain ⟨hl, h⟩ := h
      exact .inl (.inr ⟨_, _, rfl, rfl, hl, k _ st _ H h .refl (.str _) rs⟩)
    · cases rx; cases ry
      obtain ⟨xs, ys, h1, h2, hl, h⟩ := h
      obtain ⟨vs, g1, r1⟩ := rs _ _ h1
      obtain ⟨ws, g2, r2⟩ := rs _ _ h2
      refine .inr (.inr ⟨_, _, vs, ws, rfl, rfl, g1, g2, by rw [← r1.length, ← r2.length]; exact hl, fun p hp => ?_⟩)
      have ex : Ext H (upd H p (.lst (vs ++ ws))) := .upd_new hp
      exact k _ _ _ _ (h p (rs.fresh hp)) ex (.ref p) (rs.put ex ⟨_, upd_same, (r1.append r2).mono ex⟩)
    · obtain ⟨a, vs, rfl, g1, r1⟩ := rx.tup_of
      obtain ⟨b, ws, rfl, g2, r2⟩ := ry.tup_of
      obtain ⟨hl, h⟩ := h
      refine .inr (.inl ⟨a, b, vs, ws, rfl, rfl, g1, g2, by rw [← r1.length, ← r2.length]; exact hl, fun e => ?_, fun _ e => ?_, fun _ _ p hp => ?_⟩)
      · subst e
        cases r1
        exact k _ st _ H h .refl (by simpa using ry) rs
      · subst e
        cases r2
        exact k _ st _ H h .refl (by simpa using rx) rs
      · have ex : Ext H (upd H p (.tup (vs ++ ws))) := .upd_new hp
        exact k _ st _ _ h ex (.tup (.of upd_same) ((r1.append r2).mono ex)) (rs.new hp)⟩
theorem do_sub : DO2 X (binaryOp .Sub) oSub :=
  ⟨opr_mono op_sub fun x y H Q ⟨dx, dy, st, Q0, rx, ry, rs, h, k⟩ => by
    cases dx <;> cases dy <;> simp only [oSub] at h <;> try exact h.elim
    cases rx; cases ry
    exact ⟨_, _, rfl, rfl, k _ st _ H h .refl (.int _) rs⟩⟩
theorem RelDs.rep {K : PySem.W.Frag} {H : Hp} {ds : List D} {vs : List V} (r : RelDs K H ds vs) : ∀ k : Nat, RelDs K H (List.replicate k ds).flatten (List.replicate k vs).flatten
  | 0 => .nil
  | k + 1 => by
    rw [List.replicate_succ, List.replicate_succ, List.flatten_cons, List.flatten_cons]
    exact r.append (RelDs.rep r k)
/-- a tuple some times -/
theorem op_times : OpR X (binaryOp .Mult) (fun x y H Q => ∃ (l : Addr) (k : Int) (xs : List V), x = .ref l ∧ y = .int k ∧ SqT X.K H l xs ∧ xs ≠ [] ∧ 2 ≤ k ∧ (xs.length : Int) * k ≤ 1000000 ∧ ∀ p, H p = none → Q (.ref p) (upd H p (.tup (List.replicate k.toNat xs).flatten))) := by
  intro pins s σ H x y v u Q I rx ry w
  obtain ⟨l, k, xs, rfl, rfl, hT, ne, k2, km, q⟩ := w
  cases rx
  obtain ⟨t, rfl⟩ := ry
  obtain ⟨its, r, ⟨⟨cls, dd, data, sl⟩, ho, hc, n, hd⟩, hs⟩ := I.tuple hT
  simp only at hc hd
  subst hc hd
  have le : xs.length = its.length := r.length
  have tn : k.toNat * xs.length ≤ 1000000 := by
    have e : ((k.toNat * xs.length : Nat) : Int) = (xs.length : Int) * k := by rw [Int.natCast_mul, Int.mul_comm, Int.toNat_of_nonneg (by omega)]
    omega
  have i0 : its.toArray.isEmpty = false := by
    cases its with
    | cons a b => rfl
    | nil => exact absurd (List.eq_nil_of_length_eq_zero le) ne
  have z0 : ((its.toArray.size : Nat) : Int) * k ≤ 1000000 := by rw [List.size_toArray, ← le]; exact km
  have fl : (List.replicate k.toNat its).flatten.length ≤ sizeLine := by rw [PyProof.Rows.lm_len_rep_flat, ← le, sizeLine_eq]; omega
  have kl : k ≤ 1000000 := by
    have p1 : 1 ≤ (xs.length : Int) := by
      have := List.length_pos_iff.mpr ne
      omega
    have := Int.mul_le_mul_of_nonneg_right p1 (show (0 : Int) ≤ k by omega)
    omega
  have d0 : (decide (k < -(2 ^ 63)) || decide (k ≥ 2 ^ 63)) = false := by simp; omega
  have d1 : (its.toArray.isEmpty || k == 1) = false := by rw [i0]; simp; omega
  have d2 : (decide (k ≤ 0) || its.toArray.isEmpty) = false := by rw [i0]; simp; omega
  have d4 : Builtin.Tuple.tupleTooMany (((its.toArray.size : Nat) : Int) * k) = false := by unfold Builtin.Tuple.tupleTooMany; rw [sizeLine_eq]; simp only [decide_eq_false_iff_not]; omega
  have M := tuple_mulW l its.toArray n dd sl k t d0 d1 d2 (by omega) d4 (by rw [size_rep, List.size_toArray]; exact fl)
  refine wpAny_binaryOp_repeat_ref (T := "tuple") (U := "int") (by decide) ⟨_, ho, rfl⟩ (fun s' => typeIs_int s' k t) noFill_tuple_mul F.fills_int_mul F.slot_int_rmul repeat_tuple F.slot_int_index.lookup
    (call_meets F.slot_int_rmul (typeIs_int s k t) F.entry_int_rmul (F.args_int_rmul_2 _ _) (int_rmul_tuple k t l its.toArray n dd sl) ⟨ho, rfl, ⟨_, ho, rfl⟩, call_meets F.slot_tuple_mul ⟨_, ho, rfl⟩ F.entry_tuple_mul (F.args_tuple_mul_2 _ _) M ⟨ho, ?_⟩⟩)
  rw [size_rep]
  refine ⟨.ref s.heap.objs.size, _, I.laid (t' := s.toks) (o := .tup (List.replicate k.toNat xs).flatten) (fun b ob q => Heap.get?_push_of_some _ q) (Nat.le_refl _) ?_, rfl, q _ (I.hok.fresh (Nat.le_refl _))⟩
  exact ⟨by rw [PyProof.Rows.lm_len_rep_flat, sizeLine_eq]; omega, _, r.rep k.toNat, IsTup.new _ _⟩
theorem do_mul : DO2 X (binaryOp .Mult) oMul :=
  ⟨opr_mono (((op_mulW (X := X)).or op_rep).or op_times) fun x y H Q ⟨dx, dy, st, Q0, rx, ry, rs, h, k⟩ => by
    cases dx <;> cases dy <;> simp only [oMul] at h <;> try exact h.elim
    · cases rx; cases ry
      exact .inl (.inl ⟨_, _, rfl, rfl, h.1, k _ st _ H h.2 .refl (.int _) rs⟩)
    · cases rx; cases ry
      obtain ⟨xs, e, ⟨b1, b2⟩, hl, h⟩ := h
      obtain ⟨vs, g, r⟩ := rs _ _ e
      have ex : ∀ p u, H p = none → Ext H (upd H p u) := fun p u hp => .upd_new hp
      exact .inl (.inr ⟨_, _, vs, rfl, rfl, g, b1, b2, by rw [← r.length]; exact hl, fun p hp =>
        k _ _ _ _ (h p (rs.fresh hp)) (ex p _ hp) (.ref p) (rs.put (ex p _ hp) ⟨_, upd_same, (r.rep _).mono (ex p _ hp)⟩)⟩)
    · cases ry
      obtain ⟨ne, k2, km, h⟩ := h
      obtain ⟨a, vs, rfl, g, r⟩ := rx.tup_of
      refine .inr ⟨a, _, vs, rfl, rfl, g, fun e => ?_, k2, by rw [← r.length]; exact km, fun p hp => ?_⟩
      · have := r.length
        rw [e] at this
        exact ne (List.eq_nil_of_length_eq_zero this)
      · have ex : ∀ u, Ext H (upd H p u) := fun u => .upd_new hp
        exact k _ st _ _ h (ex _) (.tup (.of upd_same) ((r.rep _).mono (ex _))) (rs.new hp)⟩
theorem do_div : DO2 X (binaryOp .FloorDiv) oDiv :=
  ⟨opr_mono op_fdivW fun x y H Q ⟨dx, dy, st, Q0, rx, ry, rs, h, k⟩ => by
    cases dx <;> cases dy <;> simp only [oDiv] at h <;> try exact h.elim
    cases rx; cases ry
    exact ⟨_, _, rfl, rfl, h.1, k _ st _ H h.2 .refl (.int _) rs⟩⟩
theorem do_mod : DO2 X (binaryOp .Mod) oMod :=
  ⟨opr_mono op_mod fun x y H Q ⟨dx, dy, st, Q0, rx, ry, rs, h, k⟩ => by
    cases dx <;> cases dy <;> simp only [oMod] at h <;> try exact h.elim
    cases rx; cases ry
    exact ⟨_, _, rfl, rfl, h.1, k _ st _ H h.2 .refl (.int _) rs⟩⟩
theorem do_pow : DO2 X (binaryOp .Pow) oPow :=
  ⟨opr_mono op_pow fun x y H Q ⟨dx, dy, st, Q0, rx, ry, rs, h, k⟩ => by
    cases dx <;> cases dy <;> simp only [oPow] at h <;> try exact h.elim
    cases rx; cases ry
    exact ⟨_, _, rfl, rfl, h.1, k _ st _ H h.2 .refl (.int _) rs⟩⟩
theorem eqSc_rel {K : PySem.W.Frag} {H : Hp} {x y : D} {v w : V} {b : Bool} (r : RelD K H x v) (q : RelD K H y w) (e : eqSc x y = some b) : scal v w = true ∧ decide (v = w) = b := by
  cases r <;> cases q <;> simp only [eqSc, Option.some.injEq, reduceCtorEq] at e <;> subst e <;> refine ⟨rfl, ?_⟩ <;> simp
theorem do_eq (hu : X.A.units + 64 < cLine) : DO2 X (compareOp .Eq) oEq :=
  ⟨opr_mono ((op_eq (X := X)).or (op_eqD hu)) fun x y H Q ⟨dx, dy, st, Q0, rx, ry, rs, h, k⟩ => by
    rcases h with ⟨b, e, h⟩ | ⟨p, q, e1, e2, s1, s2, h⟩
    · obtain ⟨s1, e1⟩ := eqSc_rel rx ry e
      exact .inl ⟨s1, by rw [e1]; exact k _ st _ H h .refl (.bl _) rs⟩
    · exact .inr ⟨p, q, pyOf_dp rs rx e1, pyOf_dp rs ry e2, s1, s2, k _ st _ H h .refl (.bl _) rs⟩⟩
theorem do_ne (hu : X.A.units + 64 < cLine) : DO2 X (compareOp .NotEq) oNe :=
  ⟨opr_mono ((op_ne (X := X)).or (op_neD hu)) fun x y H Q ⟨dx, dy, st, Q0, rx, ry, rs, h, k⟩ => by
    rcases h with ⟨b, e, h⟩ | ⟨p, q, e1, e2, s1, s2, h⟩
    · obtain ⟨s1, e1⟩ := eqSc_rel rx ry e
      exact .inl ⟨s1, by rw [e1]; exact k _ st _ H h .refl (.bl _) rs⟩
    · exact .inr ⟨p, q, pyOf_dp rs rx e1, pyOf_dp rs ry e2, s1, s2, k _ st _ H h .refl (.bl _) rs⟩⟩
theorem do_lt : DO2 X (compareOp .Lt) oLt :=
  ⟨opr_mono ((op_lt (X := X)).or op_lt_str) fun x y H Q ⟨dx, dy, st, Q0, rx, ry, rs, h, k⟩ => by
    cases dx <;> cases dy <;> simp only [oLt] at h <;> try exact h.elim
    · cases rx; cases ry
      exact .inl ⟨_, _, rfl, rfl, k _ st _ H h .refl (.bl _) rs⟩
    · cases rx; cases ry
      exact .inr ⟨_, _, rfl, rfl, k _ st _ H h .refl (.bl _) rs⟩⟩
theorem do_le : DO2 X (compareOp .LtE) oLe :=
  ⟨opr_mono op_le fun x y H Q ⟨dx, dy, st, Q0, rx, ry, rs, h, k⟩ => by
    cases dx <;> cases dy <;> simp only [oLe] at h <;> try exact h.elim
    cases rx; cases ry
    exact ⟨_, _, rfl, rfl, k _ st _ H h .refl (.bl _) rs⟩⟩
theorem do_gt : DO2 X (compareOp .Gt) oGt :=
  ⟨opr_mono op_gt fun x y H Q ⟨dx, dy, st, Q0, rx, ry, rs, h, k⟩ => by
    cases dx <;> cases dy <;> simp only [oGt] at h <;> try exact h.elim
    cases rx; cases ry
    exact ⟨_, _, rfl, rfl, k _ st _ H h .refl (.bl _) rs⟩⟩
theorem do_ge : DO2 X (compareOp .GtE) oGe :=
  ⟨opr_mono op_ge fun x y H Q ⟨dx, dy, st, Q0, rx, ry, rs, h, k⟩ => by
    cases dx <;> cases dy <;> simp only [oGe] at h <;> try exact h.elim
    cases rx; cases ry
    exact ⟨_, _, rfl, rfl, k _ st _ H h .refl (.bl _) rs⟩⟩
theorem RelD.isNon {K : PySem.W.Frag} {H : Hp} {d : D} {v : V} (r : RelD K H d v) : decide (v = .non) = (match d with | .non => true | _ => false) := by
  cases r <;> simp
theorem rel_bool {x : V} {v : Value} {b : Bool} (r : RelV x v) : plainIs v (.bool b) = true ∧ (v == Value.bool b) = decide (x = .bl b) := by
  cases x with
  | non => cases r; exact ⟨rfl, rfl⟩
  | bl c => cases r; cases b <;> cases c <;> exact ⟨rfl, rfl⟩
  | int i => obtain ⟨t, rfl⟩ := r; exact ⟨rfl, rfl⟩
  | str i => obtain ⟨t, rfl⟩ := r; exact ⟨rfl, rfl⟩
  | byt i => obtain ⟨t, rfl⟩ := r; exact ⟨rfl, rfl⟩
  | flt i => obtain ⟨t, rfl⟩ := r; exact ⟨rfl, rfl⟩
  | ref i => cases r; exact ⟨rfl, rfl⟩
  | ty i => cases r; exact ⟨rfl, rfl⟩
theorem op_isTF : OpR X (compareOp .Is) (fun x y H Q => ∃ b, y = .bl b ∧ Q (.bl (decide (x = .bl b))) H) := by
  rintro pins s σ H x y v u Q I rx ry ⟨b, rfl, q⟩
  cases ry
  obtain ⟨h1, h2⟩ := rel_bool (b := b) rx
  exact wpAny_is_plain h1 ⟨_, H, I, by rw [h2]; rfl, q⟩
theorem op_notTF : OpR X (compareOp .IsNot) (fun x y H Q => ∃ b, y = .bl b ∧ Q (.bl (!decide (x = .bl b))) H) := by
  rintro pins s σ H x y v u Q I rx ry ⟨b, rfl, q⟩
  cases ry
  obtain ⟨h1, h2⟩ := rel_bool (b := b) rx
  exact wpAny_isNot_plain h1 ⟨_, H, I, by rw [h2]; rfl, q⟩
theorem RelD.isBl {K : PySem.W.Frag} {H : Hp} {d : D} {v : V} {b : Bool} (r : RelD K H d v) : decide (v = .bl b) = (match d with | .bl a => decide (a = b) | _ => false) := by
  cases r <;> simp
theorem do_is : DO2 X (compareOp .Is) oIs :=
  ⟨opr_mono ((op_isN (X := X)).or op_isTF) fun x y H Q ⟨dx, dy, st, Q0, rx, ry, rs, h, k⟩ => by
    cases dy with
    | non =>
      cases ry
      refine .inl ⟨rfl, ?_⟩
      rw [rx.isNon]
      cases dx <;> exact k _ st _ H h .refl (.bl _) rs
    | bl b =>
      cases ry
      refine .inr ⟨b, rfl, ?_⟩
      rw [rx.isBl]
      cases dx <;> exact k _ st _ H h .refl (.bl _) rs
    | _ => cases dx <;> exact h.elim⟩
theorem do_isnot : DO2 X (compareOp .IsNot) oIsNot :=
  ⟨opr_mono ((op_notN (X := X)).or op_notTF) fun x y H Q ⟨dx, dy, st, Q0, rx, ry, rs, h, k⟩ => by
    cases dy with
    | non =>
      cases ry
      refine .inl ⟨rfl, ?_⟩
      rw [rx.isNon]
      cases dx <;> exact k _ st _ H h .refl (.bl _) rs
    | bl b =>
      cases ry
      refine .inr ⟨b, rfl, ?_⟩
      rw [rx.isBl]
      cases dx <;> exact k _ st _ H h .refl (.bl _) rs
    | _ => cases dx <;> exact h.elim⟩
theorem flat_rel {K : PySem.W.Frag} {H : Hp} {d : D} {v : V} (r : RelD K H d v) (f : flatD d = true) : flatV v = true := by
  cases r <;> first | rfl | exact f
theorem flats_rel {K : PySem.W.Frag} {H : Hp} : ∀ {ds : List D} {vs : List V}, RelDs K H ds vs → ds.all flatD = true → vs.all flatV = true
  | _, _, .nil, _ => rfl
  | _, _, .cons r t, f => by
    simp only [List.all_cons, Bool.and_eq_true] at f ⊢
    exact ⟨flat_rel r f.1, flats_rel t f.2⟩
theorem eqF_rel {K : PySem.W.Frag} {H : Hp} {d e : D} {v w : V} (r : RelD K H d v) (q : RelD K H e w) (f : flatD d = true) (g : flatD e = true) : eqV v w = eqF d e := by
  cases r <;> cases q <;> first | rfl | (simp [flatD] at f; done) | (simp [flatD] at g; done)
theorem inF_rel {K : PySem.W.Frag} {H : Hp} {x : D} {v : V} (r : RelD K H x v) (f : flatD x = true) : ∀ {ds : List D} {vs : List V}, RelDs K H ds vs → ds.all flatD = true → inV v vs = inF x ds
  | _, _, .nil, _ => rfl
  | _, _, .cons (d := d) (v := w) (ds := ds) (vs := vs) q t, g => by
    simp only [List.all_cons, Bool.and_eq_true] at g
    have ih := inF_rel r f t g.2
    unfold inV inF at ih ⊢
    rw [List.any_cons, List.any_cons, ih, eqF_rel q r g.1 f]
theorem key_rel {K : PySem.W.Frag} {H : Hp} {x : D} {v : V} {k : Key} (r : RelD K H x v) (e : keyD x = some k) : v = kV k := by
  cases r <;> simp [keyD] at e <;> subst e <;> rfl
theorem or_dictIn (hu : X.A.units + 1 < cLine) : OpR X (compareOp .In) (fun x y H Q => ∃ a o, y = .ref a ∧ DGet H a x o ∧ Q (.bl o.isSome) H) := by
  intro pins s σ H x y v u Q I rx ry h
  obtain ⟨a, o, rfl, g, q⟩ := h
  obtain rfl : u = Value.ref a := ry
  exact d_in hu I g rx fun s' I' => ⟨.bl o.isSome, H, I', rfl, q⟩
theorem or_dictNotIn (hu : X.A.units + 1 < cLine) : OpR X (compareOp .NotIn) (fun x y H Q => ∃ a o, y = .ref a ∧ DGet H a x o ∧ Q (.bl (!o.isSome)) H) := by
  intro pins s σ H x y v u Q I rx ry h
  obtain ⟨a, o, rfl, g, q⟩ := h
  obtain rfl : u = Value.ref a := ry
  exact d_notIn hu I g rx fun s' I' => ⟨.bl (!o.isSome), H, I', rfl, q⟩
theorem do_in (hu : X.A.units + 1 < cLine) : DO2 X (compareOp .In) oIn :=
  ⟨opr_mono (((op_in_str (X := X)).or op_in_seq).or (or_dictIn hu)) fun x y H Q ⟨dx, dy, st, Q0, rx, ry, rs, h, k⟩ => by
    cases dy with
    | str z =>
      cases dx <;> simp only [oIn] at h <;> try exact h.elim
      cases rx; cases ry
      exact .inl (.inl ⟨_, _, rfl, rfl, k _ st _ H h .refl (.bl _) rs⟩)
    | tup ds =>
      obtain ⟨a, vs, rfl, g, r⟩ := ry.tup_of
      have h' : flatD dx = true ∧ ds.all flatD = true ∧ Q0 (.bl (inF dx ds)) st := by cases dx <;> exact h
      obtain ⟨f1, f2, h'⟩ := h'
      refine .inl (.inr ⟨a, vs, rfl, .inr g, flat_rel rx f1, flats_rel r f2, ?_⟩)
      rw [if_neg Bool.false_ne_true, inF_rel rx f1 r f2]
      exact k _ st _ H h' .refl (.bl _) rs
    | ref a =>
      cases ry
      have h' : (∃ xs, rdL (st a) = some xs ∧ flatD dx = true ∧ xs.all flatD = true ∧ Q0 (.bl (inF dx xs)) st) ∨ (∃ kvs kk, rdD (st a) = some kvs ∧ keyD dx = some kk ∧ Q0 (.bl (valD kvs kk).isSome) st) := by cases dx <;> exact h
      rcases h' with ⟨xs, e, f1, f2, h'⟩ | ⟨kvs, kk, e, ek, h'⟩
      · obtain ⟨vs, g, r⟩ := rs.rdL e
        refine .inl (.inr ⟨a, vs, rfl, .inl g, flat_rel rx f1, flats_rel r f2, ?_⟩)
        rw [if_neg Bool.false_ne_true, inF_rel rx f1 r f2]
        exact k _ st _ H h' .refl (.bl _) rs
      · obtain ⟨ws, g, r⟩ := rs.rdD e
        rw [key_rel rx ek]
        refine .inr ⟨a, _, rfl, .inl ⟨ws, kk, g, rfl, rfl⟩, ?_⟩
        rw [← (r.valD kk).2]
        exact k _ st _ H h' .refl (.bl _) rs
    | _ => cases dx <;> exact h.elim⟩
theorem do_notin (hu : X.A.units + 1 < cLine) : DO2 X (compareOp .NotIn) oNotIn :=
  ⟨opr_mono (((op_notIn_str (X := X)).or op_notIn_seq).or (or_dictNotIn hu)) fun x y H Q ⟨dx, dy, st, Q0, rx, ry, rs, h, k⟩ => by
    unfold oNotIn at h
    cases dy with
    | str z =>
      cases dx <;> simp only [oIn] at h <;> try exact h.elim
      cases rx; cases ry
      obtain ⟨b, e, h⟩ := h
      cases e
      exact .inl (.inl ⟨_, _, rfl, rfl, k _ st _ H h .refl (.bl _) rs⟩)
    | tup ds =>
      obtain ⟨a, vs, rfl, g, r⟩ := ry.tup_of
      have h' : flatD dx = true ∧ ds.all flatD = true ∧ ∃ b, D.bl (inF dx ds) = .bl b ∧ Q0 (.bl !b) st := by cases dx <;> exact h
      obtain ⟨f1, f2, b, e, h'⟩ := h'
      cases e
      refine .inl (.inr ⟨a, vs, rfl, .inr g, flat_rel rx f1, flats_rel r f2, ?_⟩)
      rw [if_pos rfl, inF_rel rx f1 r f2]
      exact k _ st _ H h' .refl (.bl _) rs
    | ref a =>
      cases ry
      have h' : (∃ xs, rdL (st a) = some xs ∧ flatD dx = true ∧ xs.all flatD = true ∧ ∃ b, D.bl (inF dx xs) = .bl b ∧ Q0 (.bl !b) st) ∨ (∃ kvs kk, rdD (st a) = some kvs ∧ keyD dx = some kk ∧ ∃ b, D.bl (valD kvs kk).isSome = .bl b ∧ Q0 (.bl !b) st) := by cases dx <;> exact h
      rcases h' with ⟨xs, e, f1, f2, b, eb, h'⟩ | ⟨kvs, kk, e, ek, b, eb, h'⟩
      · cases eb
        obtain ⟨vs, g, r⟩ := rs.rdL e
        refine .inl (.inr ⟨a, vs, rfl, .inl g, flat_rel rx f1, flats_rel r f2, ?_⟩)
        rw [if_pos rfl, inF_rel rx f1 r f2]
        exact k _ st _ H h' .refl (.bl _) rs
      · cases eb
        obtain ⟨ws, g, r⟩ := rs.rdD e
        rw [key_rel rx ek]
        refine .inr ⟨a, _, rfl, .inl ⟨ws, kk, g, rfl, rfl⟩, ?_⟩
        rw [← (r.valD kk).2]
        exact k _ st _ H h' .refl (.bl _) rs
    | _ => cases dx <;> exact h.elim⟩
end
end L2.DL

namespace L2.DL
open PySem PySem.Spec PyProof.Rows

/-! ### subscripts -/
theorem RelDs.atI {K : PySem.W.Frag} {H : Hp} {ds : List D} {vs : List V} {i : Int} {d : D} (r : RelDs K H ds vs) (h : L2.atI ds i = some d) : ∃ v, L2.atI vs i = some v ∧ RelD K H d v := by
  unfold L2.atI at h ⊢
  rw [← r.length]
  cases e : ixN ds.length i with
  | none => rw [e] at h; cases h
  | some j =>
    rw [e] at h
    obtain ⟨v, h1, h2⟩ := r.get (i := j) (d := d) h
    exact ⟨v, h1, h2⟩
def oIx : M2
  | .tup xs, .int i, st, Q => ∃ v, atI xs i = some v ∧ Q v st
  | .str z, .int i, st, Q => z.length ≤ sizeLine ∧ ∃ c, atI z.cps.toList i = some c ∧ Q (.str ⟨#[c]⟩) st
  | .ref a, y, st, Q => (∃ xs i v, rdL (st a) = some xs ∧ y = .int i ∧ atI xs i = some v ∧ Q v st) ∨ (∃ kvs k v, rdD (st a) = some kvs ∧ keyD y = some k ∧ valD kvs k = some v ∧ Q v st)
  | _, _, _, _ => False
structure DIx (X : Cx) (r : M2) : Prop where
  ix : IxR X (lift2 X.K r)
section
variable {X : Cx}
theorem ix_dict (hu : X.A.units + 1 < cLine) : IxR X (fun x y H Q => ∃ a v, x = .ref a ∧ DGet H a y (some v) ∧ Q v H) := by
  intro value slice pins s σ H x y u iv Q I rx ry h hs
  obtain ⟨a, v, ex, g, q⟩ := h
  subst ex
  obtain rfl : u = Value.ref a := rx
  have hT := dict_typeIs I g
  have h2 : wpAny (model X.prog X.w) X.A (getItem (.ref a) iv) (EP X pins σ Q) X.xe s := d_getItem hu I g ry fun w' s3 I3 rw' => ⟨v, H, I3, rw', q⟩
  unfold subscriptTail
  refine wpAny_bind ?_
  rw [getitemInPython_of_ne hT.not_modules]
  refine wpAny_bind (wpAny_specialOf hT PySem.F.slot_dict_getitem.lookup ?_)
  have fin : wpAny (model X.prog X.w) X.A (subscripted slice false (.ref a) iv) (fun r s₃ => wpAny (model X.prog X.w) X.A (letTemporaryGo value (.ref a) r >>= fun _ => pure r) (EP X pins σ Q) X.xe s₃) X.xe s := by
    rw [hs]
    exact wpAny_operating (wpAny_mono h2 (fun r s₃ h₃ => wpAny_bind (wpAny_letTemporaryGo (wpAny_pure h₃))) fun _ _ x => x)
  first
    | exact wpAny_pure (wpAny_bind fin)
    | exact wpAny_bind (wpAny_pure (wpAny_bind fin))
    | exact wpAny_bind fin
theorem di_all (hu : X.A.units + 1 < cLine) : DIx X oIx :=
  ⟨ixr_mono ((ix_seq (X := X)).or (ix_dict hu)) fun x y H Q ⟨dx, dy, st, Q0, rx, ry, rs, h, k⟩ => by
    cases dx with
    | tup ds =>
      cases dy <;> simp only [oIx] at h <;> try exact h.elim
      cases ry
      obtain ⟨v, e, h⟩ := h
      obtain ⟨a, vs, rfl, g, r⟩ := rx.tup_of
      obtain ⟨v', e', rv⟩ := r.atI e
      exact .inl (.inr (.inl ⟨a, vs, _, v', rfl, rfl, g, e', k _ st _ H h .refl rv rs⟩))
    | str z =>
      cases dy <;> simp only [oIx] at h <;> try exact h.elim
      cases ry; cases rx
      obtain ⟨hz, c, e, h⟩ := h
      exact .inl (.inr (.inr ⟨z, _, c, rfl, rfl, hz, e, k _ st _ H h .refl (.str _) rs⟩))
    | ref a =>
      cases rx
      have h' : (∃ xs i v, rdL (st a) = some xs ∧ dy = .int i ∧ atI xs i = some v ∧ Q0 v st) ∨ (∃ kvs kk v, rdD (st a) = some kvs ∧ keyD dy = some kk ∧ valD kvs kk = some v ∧ Q0 v st) := by cases dy <;> exact h
      rcases h' with ⟨xs, i, v, e1, rfl, e2, h'⟩ | ⟨kvs, kk, v, e1, e2, e3, h'⟩
      · cases ry
        obtain ⟨vs, g, r⟩ := rs.rdL e1
        obtain ⟨v', e', rv⟩ := r.atI e2
        exact .inl (.inl ⟨a, vs, i, v', rfl, rfl, g, e', k _ st _ H h' .refl rv rs⟩)
      · obtain ⟨ws, g, r⟩ := rs.rdD e1
        rw [key_rel ry e2]
        have rx := (r.valD kk).1
        rw [e3] at rx
        cases ev : valV ws kk with
        | none => rw [ev] at rx; exact rx.elim
        | some v' =>
          rw [ev] at rx
          exact .inr ⟨a, v', rfl, .inl ⟨ws, kk, g, rfl, ev.symm⟩, k _ st _ H h' .refl rx rs⟩
    | _ => cases dy <;> exact h.elim⟩
theorem de_ix {a b : Expr} {ma mb : ME} {pos : Pos} {r : M2} (hr : DIx X r) (ha : DE X a ma) (hb : DE X b mb) (hs : PlainIx b := by exact fun _ _ => rfl) : DE X (.Subscript a b pos) (mBin r ma mb) :=
  ⟨pe_mono (pe_ix hr.ix ha.pe hb.pe hs) fun _ _ _ => lift_bin⟩

/-! ### slices -/
abbrev MO := Env → Sto → (Option Int → Sto → Prop) → Prop
def liftO (K : PySem.W.Frag) (m : MO) : TO := fun σ H Q' => ∃ env st Q, RelE K H env σ ∧ RelSto K H st ∧ m env st Q ∧
  ∀ o st' H', Q o st' → Ext H H' → RelSto K H' st' → Q' o H'
structure DPo (X : Cx) (e : Option Expr) (m : MO) : Prop where
  po : PO X e (liftO X.K m)
def mNoPart : MO := fun _ st Q => Q none st
def mPart (m : ME) : MO := fun env st Q => m env st fun x st1 => ∃ i, x = .int i ∧ Q (some i) st1
theorem po_mono {e : Option Expr} {t t' : TO} (h : PO X e t) (k : ∀ σ H Q, t' σ H Q → t σ H Q) : PO X e t' := by
  refine ⟨fun pins s σ H Q I hw => ?_⟩
  exact h.run pins s σ H Q I (k _ _ _ hw)
theorem dp_none : DPo X none mNoPart := ⟨po_mono po_none fun σ H Q ⟨env, st, Q0, re, rs, h, k⟩ => k none st H h .refl rs⟩
theorem dp_some {e : Expr} {m : ME} (he : DE X e m) : DPo X (some e) (mPart m) :=
  ⟨po_mono (po_some he.pe) fun σ H Q ⟨env, st, Q0, re, rs, h, k⟩ => lift_in re rs h fun x st1 x' H1 ⟨i, e1, q⟩ ex rx re1 rs1 => by
    subst e1
    exact ⟨i, rx.int_of, k (some i) st1 H1 q ex rs1⟩⟩
def cutL {α : Type} (xs : List α) (lo hi : Option Int) : List α := (xs.drop (HT.sIx xs.length 0 lo)).take (HT.sIx xs.length xs.length hi - HT.sIx xs.length 0 lo)
theorem cutL_length {α : Type} (xs : List α) (lo hi : Option Int) : (cutL xs lo hi).length ≤ xs.length := by
  unfold cutL
  simp only [List.length_take, List.length_drop]
  omega
theorem RelDs.cut {K : PySem.W.Frag} {H : Hp} {ds : List D} {vs : List V} (r : RelDs K H ds vs) (lo hi : Option Int) : RelDs K H (cutL ds lo hi) (cutV vs lo hi) := by
  unfold cutL cutV
  rw [r.length]
  exact (r.drop _).take _
theorem cutL_whole {α : Type} {xs : List α} {lo hi : Option Int} (h1 : HT.sIx xs.length 0 lo = 0) (h2 : HT.sIx xs.length xs.length hi = xs.length) : cutL xs lo hi = xs := by
  unfold cutL
  rw [h1, h2]
  simp
abbrev MSl := D → Option Int → Option Int → Sto → DK → Prop
def oSl : MSl
  | .tup xs, lo, hi, st, Q => Q (.tup (cutL xs lo hi)) st
  | .str z, lo, hi, st, Q => z.length ≤ sizeLine ∧ Q (.str (cutS z lo hi)) st
  | .ref a, lo, hi, st, Q => ∃ xs, rdL (st a) = some xs ∧ ∀ p, Nf st p → Q (.ref p) (put st p (.lst (cutL xs lo hi)))
  | _, _, _, _, _ => False
def mSl (m : ME) (ml mh : MO) : ME := fun env st Q => m env st fun x st1 => ml env st1 fun lo st2 => mh env st2 fun hi st3 => oSl x lo hi st3 Q
theorem slr_mono {r r' : V → Option Int → Option Int → Hp → VK → Prop} (h : SlR X r) (k : ∀ x lo hi H Q, r' x lo hi H Q → r x lo hi H Q) : SlR X r' := by
  intro pins s σ H x v vl vu lo hi sl Q I rx hs pl pu q
  exact h pins s σ H x v vl vu lo hi sl Q I rx hs pl pu (k _ _ _ _ _ q)
theorem de_sl {e : Expr} {lo hi : Option Expr} {m : ME} {ml mh : MO} {p2 pos : Pos} (he : DE X e m) (hl : DPo X lo ml) (hu : DPo X hi mh) : DE X (.Subscript e (.Slice lo hi none p2) pos) (mSl m ml mh) :=
  ⟨pe_mono (pe_slice (slr_mono ((sl_tupA (X := X)).or (SlR.or sl_str sl_list)) fun x l u H Q (h : ∃ dx st Q0, RelD X.K H dx x ∧ RelSto X.K H st ∧ oSl dx l u st Q0 ∧ ∀ d st' v H', Q0 d st' → Ext H H' → RelD X.K H' d v → RelSto X.K H' st' → Q v H') => by
      obtain ⟨dx, st, Q0, rx, rs, h, k⟩ := h
      cases dx with
      | tup ds =>
        obtain ⟨a, vs, rfl, g, r⟩ := rx.tup_of
        refine .inl ⟨a, vs, rfl, g, fun ⟨e1, e2⟩ => ?_, fun _ p hp => ?_⟩
        · have e : cutL ds l u = ds := by rw [← r.length] at e1 e2; exact cutL_whole e1 e2
          refine k _ st _ H ?_ .refl rx rs
          have h' : Q0 (.tup (cutL ds l u)) st := h
          rw [e] at h'
          exact h'
        · have ex : Ext H (upd H p (.tup (cutV vs l u))) := .upd_new hp
          exact k _ st _ _ h ex (.tup (.of upd_same) ((r.cut l u).mono ex)) (rs.new hp)
      | str z =>
        cases rx
        exact .inr (.inl ⟨z, rfl, h.1, k _ st _ H h.2 .refl (.str _) rs⟩)
      | ref a =>
        cases rx
        obtain ⟨xs, e, h⟩ := h
        obtain ⟨vs, g, r⟩ := rs.rdL e
        refine .inr (.inr ⟨a, vs, rfl, g, fun p hp => ?_⟩)
        have ex : Ext H (upd H p (.lst (cutV vs l u))) := .upd_new hp
        exact k _ _ _ _ (h p (rs.fresh hp)) ex (.ref p) (rs.put ex ⟨_, upd_same, (r.cut l u).mono ex⟩)
      | _ => exact h.elim) he.pe hl.po hu.po) fun σ H Q ⟨env, st, Q0, re, rs, h, k⟩ => by
    refine lift_in re rs h fun x st1 x' H1 q1 e1 rx re1 rs1 => ?_
    refine ⟨env, st1, _, re1, rs1, q1, fun l st2 H2 q2 e2 rs2 => ?_⟩
    refine ⟨env, st2, _, re1.mono e2, rs2, q2, fun u st3 H3 q3 e3 rs3 => ?_⟩
    exact ⟨x, st3, Q0, rx.mono (e2.trans e3), rs3, q3, fun d st' v H' q e r s => k d st' v H' q (e1.trans (e2.trans (e3.trans e))) r s⟩⟩
/-- xs[::-1], a list -/
def mRev (m : ME) : ME := fun env st Q => m env st fun x st1 => ∃ a xs, x = .ref a ∧ rdL (st1 a) = some xs ∧ ∀ p, Nf st1 p → Q (.ref p) (put st1 p (.lst xs.reverse))
theorem de_rev {e : Expr} {m : ME} {k : Nat} {p1 p2 p3 pos : Pos} (he : DE X e m) : DE X (.Subscript e (.Slice none none (some (.UnaryOp .USub (.Constant (.int 1) k p1) p2)) p3) pos) (mRev m) :=
  ⟨pe_mono (pe_revL he.pe) fun σ H Q ⟨env, st, Q0, re, rs, h, k⟩ => lift_in re rs h fun x st1 x' H1 ⟨a, xs, e, e2, q⟩ ex rx re1 rs1 => by
    subst e
    cases rx
    obtain ⟨vs, g, r⟩ := rs1.rdL e2
    refine ⟨a, vs, rfl, g, fun p hp => ?_⟩
    have ex2 : Ext H1 (upd H1 p (.lst vs.reverse)) := .upd_new hp
    exact k _ _ _ _ (q p (rs1.fresh hp)) (ex.trans ex2) (.ref p) (rs1.put ex2 ⟨_, upd_same, r.reverse.mono ex2⟩)⟩
end

/-! ### methods of built-in types -/
abbrev MM := D → List D → Sto → DK → Prop
def liftM (K : PySem.W.Frag) (r : MM) : V → List V → Hp → VK → Prop := fun x xs H Q' => ∃ dx ds st Q, RelD K H dx x ∧ RelDs K H ds xs ∧ RelSto K H st ∧ r dx ds st Q ∧
  ∀ d st' v H', Q d st' → Ext H H' → RelD K H' d v → RelSto K H' st' → Q' v H'
structure DM (X : Cx) (id : String) (r : MM) : Prop where
  mt : MtR X id (liftM X.K r)
/-- the receiver is a list, a text -/
def isL (x : D) (st : Sto) : Prop := ∃ a xs, x = .ref a ∧ rdL (st a) = some xs
def isS (x : D) (_ : Sto) : Prop := ∃ z, x = .str z
def mMeth (ty : D → Sto → Prop) (r : MM) (mo : ME) (ma : MA) : ME := fun env st Q => mo env st fun x st1 => ty x st1 ∧ ma env st1 fun xs st2 => r x xs st2 Q
def Ty (K : PySem.W.Frag) (T : String) (ty : D → Sto → Prop) : Prop := ∀ (x : D) (v : V) (st : Sto) (H : Hp), ty x st → RelD K H x v → RelSto K H st → tyV K T v H
theorem ty_list {K : PySem.W.Frag} : Ty K "list" isL := fun x v st H ⟨a, xs, e, e2⟩ rx rs => by
  subst e
  cases rx
  obtain ⟨vs, g, r⟩ := rs.rdL e2
  exact .inl ⟨rfl, vs, g⟩
theorem ty_str {K : PySem.W.Frag} : Ty K "str" isS := fun x v st H ⟨z, e⟩ rx rs => by
  subst e
  cases rx
  exact rfl
section
variable {X : Cx} {o e : Expr} {es : List Expr} {mo : ME} {ma : MA} {name : Str} {apos cpos : Pos} {T id : String} {r : MM} {ty : D → Sto → Prop}
theorem de_m0 (pa : PlainAttrs T) (slot : Slot T name id) (hty : typeOf (.builtin id) = pure (.type "method_descriptor")) (tok : Ty X.K T ty) (hm : DM X id r) (ho : DE X o mo)
    (hbase : attributeBase o name X.env (eval o X.env) = eval o X.env := by rfl) (hline : (apos.endLine == cpos.line) = true := by rfl) : DE X (.Call (.Attribute o name apos) [] [] cpos) (mMeth ty r mo mNil) :=
  ⟨pe_mono (pe_bm0 pa slot hty hm.mt ho.pe hbase hline) fun σ H Q ⟨env, st, Q0, re, rs, h, k⟩ => lift_in re rs h fun x st1 x' H1 ⟨t, q⟩ ex rx re1 rs1 =>
    ⟨tok x x' st1 H1 t rx rs1, x, [], st1, Q0, rx, .nil, rs1, q, fun d st' v H' q e r s => k d st' v H' q (ex.trans e) r s⟩⟩
theorem de_m (pa : PlainAttrs T) (slot : Slot T name id) (hty : typeOf (.builtin id) = pure (.type "method_descriptor")) (tok : Ty X.K T ty) (hm : DM X id r) (ho : DE X o mo) (ha : DA X (e :: es) ma)
    (hbase : attributeBase o name X.env (eval o X.env) = eval o X.env := by rfl)
    (hfew : ((backTo cpos (starEach (e :: es) X.env)).all (fun x => !x.1) && (backToKw cpos (keywordEach [] X.env)).all (fun x => x.1.isSome)
      && decide ((e :: es).length + ([] : List Keyword).length + (if ([] : List Keyword).isEmpty then 0 else 1) < 30)) = true := by rfl)
    (hline : (apos.endLine == cpos.line) = true := by rfl) (hs : starEach (e :: es) X.env = (false, eval e X.env) :: starEach es X.env := by rfl) (hplain : (backTo cpos (starEach es X.env)).any (·.1) = false := by rfl) :
    DE X (.Call (.Attribute o name apos) (e :: es) [] cpos) (mMeth ty r mo ma) :=
  ⟨pe_mono (pe_bm pa slot hty hm.mt ho.pe ha.pa hbase hfew hline hs hplain) fun σ H Q ⟨env, st, Q0, re, rs, h, k⟩ => lift_in re rs h fun x st1 x' H1 ⟨t, q⟩ ex rx re1 rs1 =>
    ⟨tok x x' st1 H1 t rx rs1, liftA_in re1 rs1 q fun xs st2 xs' H2 q2 ex2 rxs re2 rs2 =>
      ⟨x, xs, st2, Q0, rx.mono ex2, rxs, rs2, q2, fun d st' v H' q e r s => k d st' v H' q (ex.trans (ex2.trans e)) r s⟩⟩⟩
def oAppend : MM
  | .ref a, [y], st, Q => ∃ xs, st a = some (.lst xs) ∧ xs.length < sizeLine ∧ Q .non (put st a (.lst (xs ++ [y])))
  | _, _, _, _ => False
def oPop : MM
  | .ref a, [], st, Q => ∃ xs y, st a = some (.lst xs) ∧ xs.getLast? = some y ∧ Q y (put st a (.lst xs.dropLast))
  | _, _, _, _ => False
def oExtend : MM
  | .ref a, [.ref b], st, Q => ∃ xs ys, st a = some (.lst xs) ∧ st b = some (.lst ys) ∧ xs.length + ys.length ≤ sizeLine ∧ Q .non (put st a (.lst (xs ++ ys)))
  | .ref a, [.tup ys], st, Q => ∃ xs, st a = some (.lst xs) ∧ xs.length + ys.length ≤ sizeLine ∧ Q .non (put st a (.lst (xs ++ ys)))
  | _, _, _, _ => False
theorem upd_mutL {H : Hp} {a : Addr} {vs : List V} {u : HO} (h : H a = some (.lst vs)) : Ext H (upd H a u) := .upd_mut (by rw [h]; trivial)
theorem dm_append : DM X "list.append" oAppend :=
  ⟨mtr_mono mt_append fun x xs H Q ⟨dx, ds, st, Q0, rx, rxs, rs, h, k⟩ => by
    unfold oAppend at h
    split at h
    · cases rx
      cases rxs with
      | cons ry t =>
        cases t
        obtain ⟨ys, e, hl, q⟩ := h
        obtain ⟨vs, g, r⟩ := rs _ _ e
        have ex : ∀ u, Ext H (upd H _ u) := fun u => upd_mutL g
        exact ⟨_, vs, _, rfl, rfl, g, by rw [← r.length]; exact hl, k _ _ _ _ q (ex _) .non (rs.put (ex _) ⟨_, upd_same, (r.append (.cons ry .nil)).mono (ex _)⟩)⟩
    · exact h.elim⟩
theorem dm_pop : DM X "list.pop" oPop :=
  ⟨mtr_mono mt_pop fun x xs H Q ⟨dx, ds, st, Q0, rx, rxs, rs, h, k⟩ => by
    unfold oPop at h
    split at h
    · cases rx
      cases rxs
      obtain ⟨ys, y, e, hl, q⟩ := h
      obtain ⟨vs, g, r⟩ := rs _ _ e
      rw [List.getLast?_eq_getElem?, r.length] at hl
      obtain ⟨v, hv, rv⟩ := r.get hl
      have ex : ∀ u, Ext H (upd H _ u) := fun u => upd_mutL g
      exact ⟨_, vs, v, rfl, rfl, g, hv, k _ _ _ _ q (ex _) (rv.mono (ex _)) (rs.put (ex _) ⟨_, upd_same, r.dropLast.mono (ex _)⟩)⟩
    · exact h.elim⟩
theorem list_extend_tup (l : Addr) (items : Array Value) (n : Nat) (b : Addr) (ob : Obj) (items2 : Array Value) (n2 : Nat) (hcb : ob.cls = .type "tuple") (hdb : ob.data = .seq items2 n2) (hs0 : ¬(!items.isEmpty && Builtin.List.listTooLong (items.size + items2.size)) = true) (hs1 : items.size ≤ sizeLine) (hs2 : items.size + items2.size ≤ sizeLine + 1) :
    Meets (Builtin.«list.extend» ⟨[.ref l, .ref b], []⟩) (fun _ R s => s.heap.get? l = some { cls := .type "list", dict := none, data := .seq items n, slots := #[] } ∧ s.heap.get? b = some ob ∧ R (.ok (.ret Value.none)) { s with heap := s.heap.update l (Obj.mapSeq fun x => x ++ items2), toks := s.toks }) :=
  .of_wp fun prog w A R s h => by
    obtain ⟨cls, dict, data, slots⟩ := ob
    simp only at hcb hdb
    subst hcb hdb
    obtain ⟨hp, g, d, tk, os⟩ := s; obtain ⟨hl, hb, h⟩ := h; have f1 := AutoSeq1.idx_int; have f2 := AutoSeq1.sub_tuple_tuple; have f3 := AutoSeq1.sub_list_list; have f4 := AutoSeq1.sub_tuple_list; have f5 := AutoSeq1.sub_list_tuple;
    have hz' : (items ++ items2).size ≤ sizeLine + 1 := by rw [Array.size_append]; exact hs2
    wp_walk using (wpAny_updateSeq hl rfl (hz := hs1) (_hz' := hz')), AutoSeq1.wpAny_loadPart' hl, AutoSeq1.wpAny_loadPart' hb; exact ⟨_, rfl, h⟩
theorem mt_extendT : MtR X "list.extend" (fun x vs H Q => ∃ l b xs zs, x = .ref l ∧ vs = [.ref b] ∧ H l = some (.lst xs) ∧ SqT X.K H b zs ∧ xs.length + zs.length ≤ sizeLine ∧ Q .non (upd H l (.lst (xs ++ zs)))) := by
  intro pins s σ H x vs v us Q I rx rv h
  obtain ⟨l, b, xs, zs, rfl, rfl, hH, hB, hz, q⟩ := h
  cases rx
  obtain ⟨u, rfl, ru⟩ := rv.one
  cases ru
  obtain ⟨z, its, n, r, hl, e⟩ := I.lstM hH
  obtain ⟨its2, r2, ⟨ob, e2, hc2, n2, hd2⟩, z2⟩ := I.tuple hB
  have hl2 := r2.length
  have hsz : its.toArray.size + its2.toArray.size ≤ sizeLine := by rw [List.size_toArray, List.size_toArray]; omega
  have hlong : ¬ (!its.toArray.isEmpty && Builtin.List.listTooLong (its.toArray.size + its2.toArray.size)) = true := by
    rw [notLongL hsz, Bool.and_false]
    exact Bool.false_ne_true
  refine call_meets F.slot_list_extend ⟨_, e, rfl⟩ F.entry_list_extend (F.args_list_extend_2 _ _)
    (list_extend_tup l its.toArray n b ob its2.toArray n2 hc2 hd2 hlong (by rw [List.size_toArray]; omega) (by omega)) ⟨e, e2, ?_⟩
  refine ⟨.non, _, I.lset (its' := its ++ its2) hH e (by simp) (r.append r2) ?_, rfl, q⟩
  rw [List.length_append]
  omega
theorem dm_extend : DM X "list.extend" oExtend :=
  ⟨mtr_mono (MtR.or (X := X) mt_extend mt_extendT) fun x xs H Q ⟨dx, ds, st, Q0, rx, rxs, rs, h, k⟩ => by
    unfold oExtend at h
    split at h
    · cases rx
      cases rxs with
      | cons ry t =>
        cases t
        cases ry
        obtain ⟨xs, ys, e, e2, hl, q⟩ := h
        obtain ⟨vs, g, r⟩ := rs _ _ e
        obtain ⟨ws, g2, r2⟩ := rs _ _ e2
        have ex : ∀ u, Ext H (upd H _ u) := fun u => upd_mutL g
        exact .inl ⟨_, _, vs, ws, rfl, rfl, g, g2, by rw [← r.length, ← r2.length]; exact hl, k _ _ _ _ q (ex _) .non (rs.put (ex _) ⟨_, upd_same, (r.append r2).mono (ex _)⟩)⟩
    · cases rx
      cases rxs with
      | cons ry t =>
        cases t
        obtain ⟨b, ws, rfl, g2, r2⟩ := ry.tup_of
        obtain ⟨xs, e, hl, q⟩ := h
        obtain ⟨vs, g, r⟩ := rs _ _ e
        have ex : ∀ u, Ext H (upd H _ u) := fun u => upd_mutL g
        exact .inr ⟨_, _, vs, ws, rfl, rfl, g, g2, by rw [← r.length, ← r2.length]; exact hl, k _ _ _ _ q (ex _) .non (rs.put (ex _) ⟨_, upd_same, (r.append r2).mono (ex _)⟩)⟩
    · exact h.elim⟩
/-- the texts of a list or tuple -/
def textsD : List D → Option (List Str)
  | [] => some []
  | .str x :: ds => (textsD ds).map (x :: ·)
  | _ :: _ => none
theorem texts_eq : ∀ {ds : List D} {xs : List Str}, textsD ds = some xs → ds = xs.map D.str
  | [], _, e => by simp only [textsD, Option.some.injEq] at e; subst e; rfl
  | .str x :: ds, _, e => by
    simp only [textsD, Option.map_eq_some_iff] at e
    obtain ⟨ys, e, rfl⟩ := e
    rw [texts_eq e]; rfl
  | .non :: _, _, e => by simp [textsD] at e
  | .bl _ :: _, _, e => by simp [textsD] at e
  | .int _ :: _, _, e => by simp [textsD] at e
  | .ty _ :: _, _, e => by simp [textsD] at e
  | .ref _ :: _, _, e => by simp [textsD] at e
  | .tup _ :: _, _, e => by simp [textsD] at e
theorem texts_map : ∀ (xs : List Str), textsD (xs.map D.str) = some xs
  | [] => rfl
  | x :: xs => by simp only [List.map_cons, textsD, texts_map xs, Option.map_some]
/-- what a sequence holds -/
def seqD (st : Sto) : D → Option (List D)
  | .tup xs => some xs
  | .ref a => rdL (st a)
  | _ => none
def oJoin : MM
  | .str a, [y], st, Q => ∃ ds ys, seqD st y = some ds ∧ textsD ds = some ys ∧ (ys.map (·.length)).sum + ys.length * a.length ≤ 16777216 ∧ Q (.str (Txt.join a ys)) st
  | _, _, _, _ => False
theorem seqD_rel {K : PySem.W.Frag} {H : Hp} {st : Sto} {y : D} {v : V} {ds : List D} (rs : RelSto K H st) (r : RelD K H y v) (e : seqD st y = some ds) : ∃ b ws, v = .ref b ∧ (SqL K H b ws ∨ SqT K H b ws) ∧ RelDs K H ds ws := by
  cases y with
  | tup zs =>
    simp only [seqD, Option.some.injEq] at e
    subst e
    obtain ⟨b, ws, rfl, g2, r2⟩ := r.tup_of
    exact ⟨b, ws, rfl, .inr g2, r2⟩
  | ref b =>
    cases r
    obtain ⟨ws, g2, r2⟩ := rs.rdL e
    exact ⟨b, ws, rfl, .inl g2, r2⟩
  | _ => simp [seqD] at e
theorem dm_join : DM X "str.join" oJoin :=
  ⟨mtr_mono mt_join fun x xs H Q ⟨dx, ds, st, Q0, rx, rxs, rs, h, k⟩ => by
    unfold oJoin at h
    split at h
    · cases rx
      cases rxs with
      | cons ry t =>
        cases t
        obtain ⟨ds, ys, e, e2, hl, q⟩ := h
        have e3 := texts_eq e2
        subst e3
        obtain ⟨b, ws, rfl, g, r2⟩ := seqD_rel rs ry e
        rw [r2.strs] at g
        exact ⟨_, b, ys, rfl, rfl, g, hl, k _ st _ H q .refl (.str _) rs⟩
    · exact h.elim⟩
def oFind : MM
  | .str a, [.str b], st, Q => Q (.int (Txt.find a b)) st
  | _, _, _, _ => False
theorem dm_find : DM X "str.find" oFind :=
  ⟨mtr_mono mt_find fun x xs H Q ⟨dx, ds, st, Q0, rx, rxs, rs, h, k⟩ => by
    unfold oFind at h
    split at h
    · cases rx
      cases rxs with
      | cons ry t =>
        cases t
        cases ry
        exact ⟨_, _, rfl, rfl, k _ st _ H h .refl (.int _) rs⟩
    · exact h.elim⟩
end

/-! ### built-in functions -/
section
variable {X : Cx}
def oLen : MC
  | [.str z], st, Q => z.length ≤ sizeLine ∧ Q (.int z.length) st
  | [.tup xs], st, Q => Q (.int xs.length) st
  | [.ref a], st, Q => (∃ xs, rdL (st a) = some xs ∧ Q (.int xs.length) st) ∨ (∃ kvs, st a = some (.dic kvs) ∧ Q (.int kvs.length) st)
  | _, _, _ => False
theorem dc_len : DC X (.builtin "len") oLen :=
  ⟨callr_mono (((call_len_str (X := X)).or call_len_seq).or call_lenD) fun xs H Q ⟨ds, st, Q0, rx, rs, h, k⟩ => by
    unfold oLen at h
    split at h
    · cases rx with
      | cons r t =>
        cases t; cases r
        exact .inl (.inl ⟨_, rfl, h.1, k _ st _ H h.2 .refl (.int _) rs⟩)
    · cases rx with
      | cons r t =>
        cases t
        obtain ⟨a, vs, rfl, g, r⟩ := r.tup_of
        exact .inl (.inr ⟨a, vs, rfl, .inr g, by rw [← r.length]; exact k _ st _ H h .refl (.int _) rs⟩)
    · cases rx with
      | cons r t =>
        cases t; cases r
        rcases h with ⟨ys, e, h⟩ | ⟨kvs, e, h⟩
        · obtain ⟨vs, g, r⟩ := rs.rdL e
          exact .inl (.inr ⟨_, vs, rfl, .inl g, by rw [← r.length]; exact k _ st _ H h .refl (.int _) rs⟩)
        · obtain ⟨ws, g, r⟩ := rs _ _ e
          exact .inr ⟨_, ws, rfl, g, by rw [r.length]; exact k _ st _ H h .refl (.int _) rs⟩
    · exact h.elim⟩
def oAbs : MC
  | [.int i], st, Q => Q (.int (if i < 0 then -i else i)) st
  | _, _, _ => False
theorem dc_abs : DC X (.builtin "abs") oAbs :=
  ⟨callr_mono call_abs fun xs H Q ⟨ds, st, Q0, rx, rs, h, k⟩ => by
    unfold oAbs at h
    split at h
    · cases rx with
      | cons r t =>
        cases t; cases r
        exact ⟨_, rfl, k _ st _ H h .refl (.int _) rs⟩
    · exact h.elim⟩
def oInt : MC
  | [.int i], st, Q => Q (.int i) st
  | [.bl b], st, Q => Q (.int (if b then 1 else 0)) st
  | _, _, _ => False
theorem dc_int : DC X (.type "int") oInt :=
  ⟨callr_mono call_int1 fun xs H Q ⟨ds, st, Q0, rx, rs, h, k⟩ => by
    unfold oInt at h
    split at h
    · cases rx with
      | cons r t =>
        cases t; cases r
        exact .inl ⟨_, rfl, k _ st _ H h .refl (.int _) rs⟩
    · cases rx with
      | cons r t =>
        cases t; cases r
        exact .inr ⟨_, rfl, k _ st _ H h .refl (.int _) rs⟩
    · exact h.elim⟩
def oMax : MC
  | [.int i, .int j], st, Q => Q (.int (if j > i then j else i)) st
  | _, _, _ => False
theorem dc_max (hc : X.calm = true) : DC X (.builtin "max") oMax :=
  ⟨callr_mono (call_max2 hc) fun xs H Q ⟨ds, st, Q0, rx, rs, h, k⟩ => by
    unfold oMax at h
    split at h
    · cases rx with
      | cons r t =>
        cases t with
        | cons r2 t =>
          cases t; cases r; cases r2
          exact ⟨_, _, rfl, k _ st _ H h .refl (.int _) rs⟩
    · exact h.elim⟩
def oMin : MC
  | [.int i, .int j], st, Q => Q (.int (if j < i then j else i)) st
  | _, _, _ => False
theorem dc_min (hc : X.calm = true) : DC X (.builtin "min") oMin :=
  ⟨callr_mono (call_min2 hc) fun xs H Q ⟨ds, st, Q0, rx, rs, h, k⟩ => by
    unfold oMin at h
    split at h
    · cases rx with
      | cons r t =>
        cases t with
        | cons r2 t =>
          cases t; cases r; cases r2
          exact ⟨_, _, rfl, k _ st _ H h .refl (.int _) rs⟩
    · exact h.elim⟩
def oTuple : MC
  | [.tup xs], st, Q => Q (.tup xs) st
  | [.ref a], st, Q => ∃ xs, rdL (st a) = some xs ∧ Q (.tup xs) st
  | _, _, _ => False
theorem dc_tuple : DC X (.type "tuple") oTuple :=
  ⟨callr_mono call_tuple_of fun xs H Q ⟨ds, st, Q0, rx, rs, h, k⟩ => by
    unfold oTuple at h
    split at h
    · cases rx with
      | cons r t =>
        cases t
        obtain ⟨a, vs, rfl, g, r2⟩ := id r.tup_of
        exact ⟨a, vs, rfl, .inr ⟨g, k _ st _ H h .refl r rs⟩⟩
    · cases rx with
      | cons r t =>
        cases t; cases r
        obtain ⟨ys, e, h⟩ := h
        obtain ⟨vs, g, r⟩ := rs.rdL e
        refine ⟨_, vs, rfl, .inl ⟨g, fun p hp => ?_⟩⟩
        have ex : Ext H (upd H p (.tup vs)) := .upd_new hp
        exact k _ st _ _ h ex (.tup (.of upd_same) (r.mono ex)) (rs.new hp)
    · exact h.elim⟩
/-- the signs of a text, each by itself -/
def signsD (z : Str) : List D := z.cps.toList.map fun c => D.str ⟨#[c]⟩
def oList : MC
  | [.tup xs], st, Q => ∀ p, Nf st p → Q (.ref p) (put st p (.lst xs))
  | [.ref a], st, Q => ∃ xs, rdL (st a) = some xs ∧ ∀ p, Nf st p → Q (.ref p) (put st p (.lst xs))
  | [.str z], st, Q => z.length ≤ sizeLine ∧ ∀ p, Nf st p → Q (.ref p) (put st p (.lst (signsD z)))
  | _, _, _ => False
theorem call_list_strV (hc : X.calm = true) : CallR X (.type "list") (fun xs H Q => ∃ z : Str, xs = [.str z] ∧ z.length ≤ sizeLine ∧ ∀ l, H l = none → Q (.ref l) (upd H l (.lst (z.cps.toList.map fun c => V.str ⟨#[c]⟩)))) := by
  intro pins s σ H xs us Q I rx h
  obtain ⟨z, rfl, hz, q⟩ := h
  obtain ⟨u, rfl, ru⟩ := vals1 rx
  obtain ⟨t, rfl⟩ := ru
  refine call_list_str (I.ok.hd hc) z t (hn := hz) fun h' tk acc' c' hk hS' hacc => ?_
  have hf : H s.heap.objs.size = none := I.fresh
  have hv : Vals (z.cps.toList.map fun c => V.str ⟨#[c]⟩) acc'.toList := by
    refine vals_of_at ?_ ?_
    · have := hacc.1
      simp only [List.length_map, Array.length_toList]
      simpa using this.symm
    · intro j x u hx hu
      rw [List.getElem?_map] at hx
      obtain ⟨c, u', hc, rfl⟩ := hacc.2 j u (by simpa using hu)
      have hc' : z.cps.toList[j]? = some c := by simpa using hc
      rw [hc'] at hx
      cases hx
      exact ⟨_, rfl⟩
  refine ⟨.ref s.heap.objs.size, _, I.laid (a := s.heap.objs.size) (o := .lst (z.cps.toList.map fun c => V.str ⟨#[c]⟩)) (t' := tk) hk (Nat.le_refl _) ⟨?_, acc'.toList, c', hv, by simpa using hS'⟩, rfl, q _ hf⟩
  simpa [Str.length] using hz
theorem dc_list (hc : X.calm = true) : DC X (.type "list") oList :=
  ⟨callr_mono ((call_list_of (X := X)).or (call_list_strV hc)) fun xs H Q ⟨ds, st, Q0, rx, rs, h, k⟩ => by
    unfold oList at h
    split at h
    · cases rx with
      | cons r t =>
        cases t
        obtain ⟨a, vs, rfl, g, r⟩ := r.tup_of
        refine .inl ⟨a, vs, rfl, .inr g, fun p hp => ?_⟩
        have ex : Ext H (upd H p (.lst vs)) := .upd_new hp
        exact k _ _ _ _ (h p (rs.fresh hp)) ex (.ref p) (rs.put ex ⟨_, upd_same, r.mono ex⟩)
    · cases rx with
      | cons r t =>
        cases t; cases r
        obtain ⟨ys, e, h⟩ := h
        obtain ⟨vs, g, r⟩ := rs.rdL e
        refine .inl ⟨_, vs, rfl, .inl g, fun p hp => ?_⟩
        have ex : Ext H (upd H p (.lst vs)) := .upd_new hp
        exact k _ _ _ _ (h p (rs.fresh hp)) ex (.ref p) (rs.put ex ⟨_, upd_same, r.mono ex⟩)
    · cases rx with
      | cons r t =>
        cases t; cases r
        refine .inr ⟨_, rfl, h.1, fun p hp => ?_⟩
        have ex : ∀ u, Ext H (upd H p u) := fun u => .upd_new hp
        refine k _ _ _ _ (h.2 p (rs.fresh hp)) (ex _) (.ref p) (rs.put (ex _) ⟨_, upd_same, ?_⟩)
        have go : ∀ (H' : Hp) (l : List Nat), RelDs X.K H' (l.map fun c => D.str ⟨#[c]⟩) (l.map fun c => V.str ⟨#[c]⟩) := by
          intro H' l
          induction l with
          | nil => exact .nil
          | cons c l ih => exact .cons (.str _) ih
        exact go _ _
    · exact h.elim⟩
end
end L2.DL

namespace L2.DL
open PySem PySem.Spec PyProof.Rows

/-! ### statements -/
def sNext : MS := fun D env st => D.nx env st
def sSeq (t u : MS) : MS := fun D env st => t { D with nx := u D } env st
def sBreak : MS := fun D env st => D.bk env st
def sCont : MS := fun D env st => D.ct env st
def sDrop (m : ME) : MS := fun D env st => m env st fun _ st1 => D.nx env st1
def sRet (m : ME) : MS := fun D env st => m env st D.rt
def sRetN : MS := fun D _ st => D.rt .non st
def sIf (c : MT) (t u : MS) : MS := fun D env st => c env st fun b st1 => if b = true then t D env st1 else u D env st1
abbrev MG := D → Env → Sto → (Env → Sto → Prop) → Prop
abbrev MGs := List D → Env → Sto → (Env → Sto → Prop) → Prop
def gN (i : Nat) : MG := fun d env st Q => Q (env.set i (some d)) st
def gNil : MGs := fun ds env st Q => ds = [] ∧ Q env st
def gCons (g : MG) (gs : MGs) : MGs := fun ds env st Q => ∃ d r, ds = d :: r ∧ g d env st fun env' st' => gs r env' st' Q
def gTup (n : Nat) (gs : MGs) : MG := fun d env st Q => ∃ ds, d = .tup ds ∧ ds.length = n ∧ gs ds env st Q
/-- o[i] = v, by values -/
abbrev M3 := D → D → D → Sto → (Sto → Prop) → Prop
def gSub (mo mi : ME) (r : M3) : MG := fun d env st Q => mo env st fun o st1 => mi env st1 fun i st2 => r o i d st2 fun st3 => Q env st3
def sAsg (m : ME) (g : MG) : MS := fun D env st => m env st fun d st1 => g d env st1 D.nx
def sPar (i j : Nat) (m : MA) : MS := fun D env st => m env st fun ds st1 => ∃ v w, ds = [v, w] ∧ D.nx ((env.set i (some v)).set j (some w)) st1
def sPar3 (i j l : Nat) (m : MA) : MS := fun D env st => m env st fun ds st1 => ∃ u v w, ds = [u, v, w] ∧ D.nx (((env.set i (some u)).set j (some v)).set l (some w)) st1
def sAug (i : Nat) (m : ME) (r : M2) : MS := fun D env st => ∃ x, env[i]? = some (some x) ∧ m env st fun y st1 => r x y st1 fun z st2 => D.nx (env.set i (some z)) st2

def liftG (K : PySem.W.Frag) (g : MG) : TG := fun v σ H Q' => ∃ d env st Q, RelD K H d v ∧ RelE K H env σ ∧ RelSto K H st ∧ g d env st Q ∧
  ∀ env' st' σ' H', Q env' st' → Ext H H' → RelE K H' env' σ' → RelSto K H' st' → Q' σ' H'
def liftGs (K : PySem.W.Frag) (g : MGs) : TGs := fun vs σ H Q' => ∃ ds env st Q, RelDs K H ds vs ∧ RelE K H env σ ∧ RelSto K H st ∧ g ds env st Q ∧
  ∀ env' st' σ' H', Q env' st' → Ext H H' → RelE K H' env' σ' → RelSto K H' st' → Q' σ' H'
structure DG (X : Cx) (t : Expr) (g : MG) : Prop where
  pg : PG X t (liftG X.K g)
structure DGs (X : Cx) (t : List Expr) (g : MGs) : Prop where
  pgs : PGs X t (liftGs X.K g)
theorem pg_mono {X : Cx} {e : Expr} {t t' : TG} (h : PG X e t) (k : ∀ v σ H Q, t' v σ H Q → t v σ H Q) : PG X e t' := ⟨fun pins s σ H v u Q I r hw => h.run pins s σ H v u Q I r (k _ _ _ _ hw)⟩
theorem pgs_mono {X : Cx} {e : List Expr} {t t' : TGs} (h : PGs X e t) (k : ∀ v σ H Q, t' v σ H Q → t v σ H Q) : PGs X e t' := ⟨fun pins s σ H v u Q I r hw => h.run pins s σ H v u Q I r (k _ _ _ _ hw)⟩

section
variable {X : Cx} {st : Stmt} {rest : List Stmt} {t u : MS} {e : Expr} {m : ME} {pos : Pos}
theorem dss_nil : DSs X [] sNext := ⟨pss_mono pss_nil fun D σ H ⟨env, st, D0, re, rs, h, k, _⟩ => k env st σ H h .refl re rs⟩
theorem dss_cons (h1 : DS X st t) (h2 : DSs X rest u) : DSs X (st :: rest) (sSeq t u) :=
  ⟨pss_mono (pss_cons h1.ps h2.pss) fun D σ H ⟨env, st, D0, re, rs, h, k1, k2, k3, k4⟩ => by
    refine ⟨env, st, { D0 with nx := u D0 }, re, rs, h, fun env' st' σ' H' q e re' rs' => ?_, k2, k3, k4⟩
    exact ⟨env', st', D0, re', rs', q, fun a b c d q e2 => k1 a b c d q (e.trans e2), fun a b c d q e2 => k2 a b c d q (e.trans e2), fun a b c d q e2 => k3 a b c d q (e.trans e2), fun a b c d q e2 => k4 a b c d q (e.trans e2)⟩⟩
theorem dss_one (h1 : DS X st t) : DSs X [st] t := ⟨pss_one h1.ps⟩
theorem ds_pass : DS X (.Pass pos) sNext := ⟨ps_mono ps_pass fun D σ H ⟨env, st, D0, re, rs, h, k, _⟩ => k env st σ H h .refl re rs⟩
theorem ds_break : DS X (.Break pos) sBreak := ⟨ps_mono ps_break fun D σ H ⟨env, st, D0, re, rs, h, k1, k2, k3, k4⟩ => k3 env st σ H h .refl re rs⟩
theorem ds_continue : DS X (.Continue pos) sCont := ⟨ps_mono ps_continue fun D σ H ⟨env, st, D0, re, rs, h, k1, k2, k3, k4⟩ => k4 env st σ H h .refl re rs⟩
theorem ds_expr (he : DE X e m) (hs : swapsWith e none pos.line X.env = pure false := by rfl) : DS X (.Expr e pos) (sDrop m) :=
  ⟨ps_mono (ps_expr he.pe hs) fun D σ H ⟨env, st, D0, re, rs, h, k1, _⟩ => lift_in re rs h fun d st1 v H1 q e r re1 rs1 => k1 env st1 σ H1 q e re1 rs1⟩
theorem ds_ret (he : DE X e m) : DS X (.Return (some e) pos) (sRet m) :=
  ⟨ps_mono (ps_ret he.pe) fun D σ H ⟨env, st, D0, re, rs, h, k1, k2, _⟩ => ⟨env, st, D0.rt, re, rs, h, k2⟩⟩
theorem ds_retN : DS X (.Return none pos) sRetN :=
  ⟨ps_mono ps_retN fun D σ H ⟨env, st, D0, re, rs, h, k1, k2, _⟩ => k2 _ st _ H h .refl .non rs⟩
theorem ds_if {c : Expr} {a b : List Stmt} {tc : MT} (hc : DT X c tc) (ha : DSs X a t) (hb : DSs X b u) : DS X (.If c a b pos) (sIf tc t u) :=
  ⟨ps_mono (ps_if hc.pt ha.pss hb.pss) fun D σ H ⟨env, st, D0, re, rs, h, k1, k2, k3, k4⟩ => by
    refine liftT_in re rs h fun c st1 H1 q e re1 rs1 => ?_
    cases c with
    | true => exact ⟨env, st1, D0, re1, rs1, q, fun a b c d q e2 => k1 a b c d q (e.trans e2), fun a b c d q e2 => k2 a b c d q (e.trans e2), fun a b c d q e2 => k3 a b c d q (e.trans e2), fun a b c d q e2 => k4 a b c d q (e.trans e2)⟩
    | false => exact ⟨env, st1, D0, re1, rs1, q, fun a b c d q e2 => k1 a b c d q (e.trans e2), fun a b c d q e2 => k2 a b c d q (e.trans e2), fun a b c d q e2 => k3 a b c d q (e.trans e2), fun a b c d q e2 => k4 a b c d q (e.trans e2)⟩⟩
/-! targets -/
theorem dg_name {i : Nat} {x : Str} (hN : X.N.Nodup) (hi : X.N[i]? = some x) (hx : Loc X.env.scope x) (hf : X.fn x = true ∨ X.env.scope.names.lookup x = some .local := by first | exact .inl rfl | exact .inr rfl | assumption) : DG X (.Name x pos) (gN i) :=
  ⟨pg_mono (pg_name hN hi hx hf) fun v σ H Q ⟨d, env, st, Q0, r, re, rs, h, k⟩ => k _ st _ H h .refl (re.set r i) rs⟩
theorem dgs_nil : DGs X [] gNil := ⟨pgs_mono pgs_nil fun vs σ H Q ⟨ds, env, st, Q0, r, re, rs, ⟨e, h⟩, k⟩ => by
  subst e
  cases r
  exact ⟨rfl, k env st σ H h .refl re rs⟩⟩
theorem dgs_cons {es : List Expr} {g : MG} {gs : MGs} (h1 : DG X e g) (h2 : DGs X es gs)
    (hs : (assignEach (e :: es) X.env).map (·.2) = assign e X.env :: (assignEach es X.env).map (·.2) := by rfl) : DGs X (e :: es) (gCons g gs) :=
  ⟨pgs_mono (pgs_cons h1.pg h2.pgs hs) fun vs σ H Q ⟨ds, env, st, Q0, r, re, rs, ⟨d, dr, e, h⟩, k⟩ => by
    subst e
    cases r with
    | cons r t =>
      refine ⟨_, _, rfl, d, env, st, _, r, re, rs, h, fun env' st' σ' H' q e re' rs' => ?_⟩
      exact ⟨dr, env', st', Q0, t.mono e, re', rs', q, fun a b c d q e2 => k a b c d q (e.trans e2)⟩⟩
theorem dg_tup {es : List Expr} {k : Nat} {gs : MGs} {n : Nat} (hc : X.calm = true) (h : DGs X es gs)
    (hn : (assignEach es X.env).length = n := by rfl) (hst : (assignEach es X.env).findIdx? (·.1) = none := by rfl) : DG X (.Tuple es k pos) (gTup n gs) :=
  ⟨pg_mono (pg_tup hc h.pgs hn hst) fun v σ H Q ⟨d, env, st, Q0, r, re, rs, ⟨ds, e, hl, h⟩, k⟩ => by
    subst e
    obtain ⟨a, vs, rfl, g, r2⟩ := r.tup_of
    exact ⟨a, vs, rfl, g, by rw [← r2.length]; exact hl, ds, env, st, Q0, r2, re, rs, h, k⟩⟩
/-- setting an item -/
def lift3 (K : PySem.W.Frag) (r : M3) : TSet := fun o i v H Q' => ∃ dO dI d st Q, RelD K H dO o ∧ RelD K H dI i ∧ RelD K H d v ∧ RelSto K H st ∧ r dO dI d st Q ∧ ∀ st' H', Q st' → Ext H H' → RelSto K H' st' → Q' H'
structure DSet (X : Cx) (r : M3) : Prop where
  set : PSet X (lift3 X.K r)
def putD {κ : Type} [DecidableEq κ] (kvs : List (κ × D)) (k : κ) (v : D) : List (κ × D) :=
  if kvs.any (fun kv => decide (kv.1 = k)) = true then kvs.map (fun kv => if kv.1 = k then (kv.1, v) else kv) else kvs ++ [(k, v)]
def oSet : M3
  | .ref a, y, v, st, Q => (∃ xs i j, st a = some (.lst xs) ∧ y = .int i ∧ ixN xs.length i = some j ∧ Q (put st a (.lst (xs.set j v)))) ∨
      (∃ kvs k, st a = some (.dic kvs) ∧ keyD y = some k ∧ kvs.length < sizeLine ∧ Q (put st a (.dic (putD kvs k v))))
  | _, _, _, _, _ => False
theorem RelK.any {κ : Type} [DecidableEq κ] {K : PySem.W.Frag} {H : Hp} (k : κ) : ∀ {ds : List (κ × D)} {vs : List (κ × V)}, RelK K H ds vs → (vs.any fun kv => decide (kv.1 = k)) = ds.any fun kv => decide (kv.1 = k)
  | _, _, .nil => rfl
  | _, _, .cons r t => by rw [List.any_cons, List.any_cons, RelK.any k t]
theorem RelK.map {κ : Type} [DecidableEq κ] {K : PySem.W.Frag} {H : Hp} (k : κ) {d : D} {v : V} (rv : RelD K H d v) : ∀ {ds : List (κ × D)} {vs : List (κ × V)}, RelK K H ds vs →
    RelK K H (ds.map fun kv => if kv.1 = k then (kv.1, d) else kv) (vs.map fun kv => if kv.1 = k then (kv.1, v) else kv)
  | _, _, .nil => .nil
  | _, _, .cons (k := k') r t => by
    rw [List.map_cons, List.map_cons]
    by_cases e : k' = k
    · rw [if_pos e, if_pos e]; exact .cons rv (RelK.map k rv t)
    · rw [if_neg e, if_neg e]; exact .cons r (RelK.map k rv t)
theorem RelK.snoc {κ : Type} {K : PySem.W.Frag} {H : Hp} (k : κ) {d : D} {v : V} (rv : RelD K H d v) : ∀ {ds : List (κ × D)} {vs : List (κ × V)}, RelK K H ds vs → RelK K H (ds ++ [(k, d)]) (vs ++ [(k, v)])
  | _, _, .nil => .cons rv .nil
  | _, _, .cons r t => .cons r (RelK.snoc k rv t)
theorem RelK.put {κ : Type} [DecidableEq κ] {K : PySem.W.Frag} {H : Hp} (k : κ) {d : D} {v : V} (rv : RelD K H d v) {ds : List (κ × D)} {vs : List (κ × V)} (h : RelK K H ds vs) : RelK K H (putD ds k d) (putK vs k v) := by
  unfold putD putK
  rw [h.any k]
  split
  · exact h.map k rv
  · exact h.snoc k rv
theorem set_dict (hu : X.A.units + 1 < cLine) : PSet X (fun o i v H Q => ∃ a H', o = .ref a ∧ DPut H a i v H' ∧ Q H') := by
  intro pins s σ H o i v ov iv u Q I ro ri rv h
  obtain ⟨a, H', rfl, g, q⟩ := h
  obtain rfl : ov = Value.ref a := ro
  exact d_setItem hu I g ri rv fun s' I' => ⟨H', I', q⟩
theorem pset_mono {r r' : TSet} (h : PSet X r) (k : ∀ o i v H Q, r' o i v H Q → r o i v H Q) : PSet X r' := fun pins s σ H o i v ov iv u Q I ro ri rv q => h pins s σ H o i v ov iv u Q I ro ri rv (k _ _ _ _ _ q)
theorem pset_or {r r' : TSet} (h : PSet X r) (h' : PSet X r') : PSet X (fun o i v H Q => r o i v H Q ∨ r' o i v H Q) := fun pins s σ H o i v ov iv u Q I ro ri rv q => by
  rcases q with q | q
  · exact h pins s σ H o i v ov iv u Q I ro ri rv q
  · exact h' pins s σ H o i v ov iv u Q I ro ri rv q
theorem dset_all (hu : X.A.units + 1 < cLine) : DSet X oSet :=
  ⟨pset_mono (pset_or set_list (set_dict hu)) fun o i v H Q ⟨dO, dI, d, st, Q0, ro, ri, rv, rs, h, k⟩ => by
    cases dO <;> simp only [oSet] at h <;> try exact h.elim
    cases ro
    rcases h with ⟨xs, j, n, e1, rfl, e2, q⟩ | ⟨kvs, kk, e1, e2, hl, q⟩
    · cases ri
      obtain ⟨vs, g, r⟩ := rs _ _ e1
      have ex : ∀ u, Ext H (upd H _ u) := fun u => upd_mutL g
      exact .inl ⟨_, vs, j, n, rfl, rfl, g, by rw [← r.length]; exact e2, k _ _ q (ex _) (rs.put (ex _) ⟨_, upd_same, (r.set rv n).mono (ex _)⟩)⟩
    · obtain ⟨ws, g, r⟩ := rs _ _ e1
      have ek := key_rel ri e2
      subst ek
      have ex : ∀ u, Ext H (upd H _ u) := fun u => .upd_mut (by rw [g]; trivial)
      exact .inr ⟨_, _, rfl, DPut.k g (by rw [r.length]; exact hl), k _ _ q (ex _) (rs.put (ex _) ⟨_, upd_same, (r.put kk rv).mono (ex _)⟩)⟩⟩
theorem dg_sub {o i : Expr} {mo mi : ME} {r : M3} (ho : DE X o mo) (hi : DE X i mi) (hs : DSet X r)
    (ha : ∀ v, assign (.Subscript o i pos) X.env v = (do
      let ov ← holding [v] (eval o X.env)
      let iv ← holding [v, ov] (eval i X.env)
      standAt pos
      holding [v, ov, iv] (setItem ov iv v)
      release [v, ov, iv] []) := by intro _; rfl) : DG X (.Subscript o i pos) (gSub mo mi r) :=
  ⟨pg_mono (pg_sub ho.pe hi.pe hs.set ha) fun v σ H Q ⟨d, env, st, Q0, rd, re, rs, h, k⟩ => by
    refine lift_in re rs h fun x st1 x' H1 q1 e1 rx re1 rs1 => ?_
    refine lift_in re1 rs1 q1 fun y st2 y' H2 q2 e2 ry re2 rs2 => ?_
    exact ⟨x, y, d, st2, _, rx.mono e2, ry, rd.mono (e1.trans e2), rs2, q2, fun st3 H3 q3 e3 rs3 => k env st3 σ H3 q3 (e1.trans (e2.trans e3)) (re2.mono e3) rs3⟩⟩
theorem ds_asg {tg : Expr} {g : MG} (he : DE X e m) (hg : DG X tg g) (hs : swapsWithSole [tg] e pos.line X.env = pure false := by rfl) (hw : swappedStores [tg] e X.env = pure none := by rfl)
    (h1 : (assignEach [tg] X.env).map (·.2) = [assign tg X.env] := by rfl) : DS X (.Assign [tg] e pos) (sAsg m g) :=
  ⟨ps_mono (ps_asg he.pe hg.pg hs hw h1) fun D σ H ⟨env, st, D0, re, rs, h, k1, _⟩ => by
    refine lift_in re rs h fun x st1 x' H1 q1 e1 rx re1 rs1 => ?_
    exact ⟨x, env, st1, _, rx, re1, rs1, q1, fun env' st' σ' H' q e re' rs' => k1 env' st' σ' H' q (e1.trans e) re' rs'⟩⟩
theorem ds_set {i : Nat} {x : Str} {pos' : Pos} (hN : X.N.Nodup) (hi : X.N[i]? = some x) (hx : Loc X.env.scope x) (he : DE X e m) (hs : swapsWith e (some (.Name x pos')) pos.line X.env = pure false := by rfl) (hf : X.fn x = true ∨ X.env.scope.names.lookup x = some .local := by first | exact .inl rfl | exact .inr rfl | assumption) :
    DS X (.Assign [.Name x pos'] e pos) (sAsg m (gN i)) :=
  ⟨ps_mono (ps_set hN hi hx he.pe hs hf) fun D σ H ⟨env, st, D0, re, rs, h, k1, _⟩ => by
    refine lift_in re rs h fun x st1 x' H1 q1 e1 rx re1 rs1 => ?_
    exact k1 _ st1 _ H1 q1 e1 (re1.set rx i) rs1⟩
theorem ds_par {i j : Nat} {x y : Str} {a b : Expr} {ma : MA} {px py pt : Pos} {kt k2 pt2} (hc : X.calm = true) (hN : X.N.Nodup) (hi : X.N[i]? = some x) (hj : X.N[j]? = some y) (hij : i ≠ j)
    (hx : X.env.scope.names.lookup x = some .local) (hy : X.env.scope.names.lookup y = some .local) (ha : DA X [a, b] ma)
    (hw : swappedStores [.Tuple [.Name x px, .Name y py] kt pt] (.Tuple [a, b] k2 pt2) X.env = pure (some [x, y]))
    (hs : swapsWithSole [.Tuple [.Name x px, .Name y py] kt pt] (.Tuple [a, b] k2 pt2) pos.line X.env = pure false := by rfl) :
    DS X (.Assign [.Tuple [.Name x px, .Name y py] kt pt] (.Tuple [a, b] k2 pt2) pos) (sPar i j ma) :=
  ⟨ps_mono (ps_par hc hN hi hj hij hx hy ha.pa hw hs) fun D σ H ⟨env, st, D0, re, rs, h, k1, _⟩ => by
    refine liftA_in re rs h fun xs st1 xs' H1 ⟨v, w, e, q⟩ e1 rx re1 rs1 => ?_
    subst e
    cases rx with
    | cons r1 t =>
      cases t with
      | cons r2 t =>
        cases t
        exact ⟨_, _, rfl, k1 _ st1 _ H1 q e1 ((re1.set r1 i).set r2 j) rs1⟩⟩
theorem ds_par3 {i j l : Nat} {x y z : Str} {a b c : Expr} {ma : MA} {px py pz pt : Pos} {kt k2 pt2} (hc : X.calm = true) (hN : X.N.Nodup) (hi : X.N[i]? = some x) (hj : X.N[j]? = some y) (hl : X.N[l]? = some z) (hij : i ≠ j) (hil : i ≠ l) (hjl : j ≠ l)
    (hx : X.env.scope.names.lookup x = some .local) (hy : X.env.scope.names.lookup y = some .local) (hz : X.env.scope.names.lookup z = some .local) (ha : DA X [a, b, c] ma)
    (hw : swappedStores [.Tuple [.Name x px, .Name y py, .Name z pz] kt pt] (.Tuple [a, b, c] k2 pt2) X.env = pure (some [x, y, z]))
    (hs : swapsWithSole [.Tuple [.Name x px, .Name y py, .Name z pz] kt pt] (.Tuple [a, b, c] k2 pt2) pos.line X.env = pure false := by rfl) :
    DS X (.Assign [.Tuple [.Name x px, .Name y py, .Name z pz] kt pt] (.Tuple [a, b, c] k2 pt2) pos) (sPar3 i j l ma) :=
  ⟨ps_mono (ps_par3 hc hN hi hj hl hij hil hjl hx hy hz ha.pa hw hs) fun D σ H ⟨env, st, D0, re, rs, h, k1, _⟩ => by
    refine liftA_in re rs h fun xs st1 xs' H1 ⟨u, v, w, e, q⟩ e1 rx re1 rs1 => ?_
    subst e
    cases rx with
    | cons r1 t =>
      cases t with
      | cons r2 t =>
        cases t with
        | cons r3 t =>
          cases t
          exact ⟨_, _, _, rfl, k1 _ st1 _ H1 q e1 (((re1.set r1 i).set r2 j).set r3 l) rs1⟩⟩
/-- name op= e -/
theorem ds_aug {i : Nat} {x : Str} {op : Operator} {r : M2} {pos' : Pos} (hN : X.N.Nodup) (hi : X.N[i]? = some x) (hx : Loc X.env.scope x) (he : DE X e m) (ho : DO2 X (inplaceOp op) r) (hf : X.fn x = true ∨ X.env.scope.names.lookup x = some .local := by first | exact .inl rfl | exact .inr rfl | assumption) :
    DS X (.AugAssign (.Name x pos') op e pos) (sAug i m r) :=
  ⟨ps_mono (ps_aug (ti := lift2 X.K r) hN hi hx he.pe (fun pins s σ H x y v u Q I rx ry q => ho.op pins s σ H x y v u Q I rx ry q) hf) fun D σ H ⟨env, st, D0, re, rs, ⟨d, ed, h⟩, k1, _⟩ => by
    obtain ⟨v, ev, rv⟩ := re.get ed
    refine ⟨v, ev, lift_in re rs h fun y st1 y' H1 q1 e1 ry re1 rs1 => ?_⟩
    exact ⟨d, y, st1, _, rv.mono e1, ry, rs1, q1, fun z st2 z' H2 q2 e2 rz rs2 => k1 _ st2 _ H2 q2 (e1.trans e2) ((re1.mono e2).set rz i) rs2⟩⟩
def oIAdd : M2
  | .int i, .int j, st, Q => Q (.int (i + j)) st
  | _, _, _, _ => False
theorem do_iadd : DO2 X (inplaceOp .Add) oIAdd :=
  ⟨opr_mono iop_add fun x y H Q ⟨dx, dy, st, Q0, rx, ry, rs, h, k⟩ => by
    cases dx <;> cases dy <;> simp only [oIAdd] at h <;> try exact h.elim
    cases rx; cases ry
    exact ⟨_, _, rfl, rfl, k _ st _ H h .refl (.int _) rs⟩⟩
def oISub : M2
  | .int i, .int j, st, Q => Q (.int (i - j)) st
  | _, _, _, _ => False
theorem do_isub : DO2 X (inplaceOp .Sub) oISub :=
  ⟨opr_mono iop_sub fun x y H Q ⟨dx, dy, st, Q0, rx, ry, rs, h, k⟩ => by
    cases dx <;> cases dy <;> simp only [oISub] at h <;> try exact h.elim
    cases rx; cases ry
    exact ⟨_, _, rfl, rfl, k _ st _ H h .refl (.int _) rs⟩⟩

/-! ### loops -/
/-- while: W by a measure, slots, store -/
def sWhile (c : MT) (b : MS) : MS := fun D env st => ∃ W : Nat → Env → Sto → Prop, (∃ m, W m env st) ∧ ∀ m env st, W m env st →
  c env st fun t st1 => if t = true then b { nx := fun env' st' => ∃ m', m' < m ∧ W m' env' st', rt := D.rt, bk := D.nx, ct := fun env' st' => ∃ m', m' < m ∧ W m' env' st' } env st1 else D.nx env st1
theorem ds_while {c : Expr} {body : List Stmt} {mc : MT} {mb : MS} (hp : PassesOwn (model X.prog X.w) X.A X.env X.xe) (hc : DT X c mc) (hb : DSs X body mb) : DS X (.While c body [] pos) (sWhile mc mb) :=
  ⟨ps_mono (ps_while hp hc.pt hb.pss) fun D σ H ⟨env, st, D0, re, rs, ⟨W, ⟨n, w0⟩, turn⟩, k1, k2, k3, k4⟩ => by
    refine ⟨fun n σ' H' => ∃ env' st', Ext H H' ∧ RelE X.K H' env' σ' ∧ RelSto X.K H' st' ∧ W n env' st', ⟨n, env, st, .refl, re, rs, w0⟩, ?_⟩
    rintro n1 σ1 H1 ⟨env1, st1, e1, re1, rs1, w1⟩
    refine liftT_in re1 rs1 (turn n1 env1 st1 w1) fun t st2 H2 q e2 re2 rs2 => ?_
    have E2 : Ext H H2 := e1.trans e2
    cases t with
    | false => exact k1 env1 st2 σ1 H2 q E2 re2 rs2
    | true =>
      refine ⟨fun σ' H' => ∃ m', m' < n1 ∧ ∃ env' st', Ext H H' ∧ RelE X.K H' env' σ' ∧ RelSto X.K H' st' ∧ W m' env' st', fun σ' H' z => z, env1, st2, _, re2, rs2, q, ?_, ?_, ?_, ?_⟩
      · exact fun env' st' σ' H' ⟨m', hm, w⟩ e re rs => ⟨m', hm, env', st', E2.trans e, re, rs, w⟩
      · exact fun d st' v H' q e r rs => k2 d st' v H' q (E2.trans e) r rs
      · exact fun env' st' σ' H' q e re rs => k1 env' st' σ' H' q (E2.trans e) re rs
      · exact fun env' st' σ' H' ⟨m', hm, w⟩ e re rs => ⟨m', hm, env', st', E2.trans e, re, rs, w⟩⟩
end

/-- what is walked: its items, and what must stand while it is walked -/
abbrev MI := Env → Sto → (List D → (Sto → Prop) → Sto → Prop) → Prop
structure SrcJ (K : PySem.W.Frag) (H0 : Hp) (xs : List D) (ok : Sto → Prop) (J : It) : Prop where
  stop : ∀ i H st, xs.length ≤ i → Ext H0 H → RelSto K H st → ok st → J.stop i H
  go : ∀ i H st, i < xs.length → Ext H0 H → RelSto K H st → ok st → J.go i H
  yld : ∀ i H st x H', i < xs.length → Ext H0 H → RelSto K H st → ok st → J.yld i H x H' → ∃ d, xs[i]? = some d ∧ RelD K H' d x ∧ (∀ b u, H b = some u → H' b = some u)
def liftI (K : PySem.W.Frag) (mi : MI) : TI := fun σ H R => ∃ env st Q, RelE K H env σ ∧ RelSto K H st ∧ mi env st Q ∧
  ∀ xs ok st' J H', Q xs ok st' → Ext H H' → RelSto K H' st' → SrcJ K H' xs ok J → R J H'
structure DI (X : Cx) (tg iter : Expr) (mi : MI) : Prop where
  pi : PI X tg iter (liftI X.K mi)
theorem pi_mono {X : Cx} {tg iter : Expr} {t t' : TI} (h : PI X tg iter t) (k : ∀ σ H R, t' σ H R → t σ H R) : PI X tg iter t' := ⟨fun pins s σ H R I hw => h.run pins s σ H R I (k _ _ _ hw)⟩
theorem Ext.of_keep {H H' : Hp} (h : ∀ b u, H b = some u → H' b = some u) : Ext H H' := ⟨fun a xs r => by
  rcases r with r | ⟨o, r⟩
  · exact .inl (h _ _ r)
  · exact .inr ⟨o, h _ _ r⟩, fun a o u e => h _ _ e⟩
theorem RelSto.of_keep {K : PySem.W.Frag} {H H' : Hp} {st : Sto} (rs : RelSto K H st) (h : ∀ b u, H b = some u → H' b = some u) : RelSto K H' st := fun a o e => (rs a o e).keep (Ext.of_keep h).t fun u hu => h _ _ hu

/-- for x in xs: W by the turn, slots, store -/
def sFor (mi : MI) (g : MG) (b : MS) : MS := fun D env st => mi env st fun xs ok st1 => ∃ W : Nat → Env → Sto → Prop, W 0 env st1 ∧ (∀ i env st, i ≤ xs.length → W i env st → ok st) ∧
  (∀ i x env st, xs[i]? = some x → W i env st → g x env st fun env2 st2 => b { nx := W (i + 1), rt := D.rt, bk := D.nx, ct := W (i + 1) } env2 st2) ∧
  (∀ env st, W xs.length env st → D.nx env st)
section
variable {X : Cx} {tg iter : Expr} {body : List Stmt} {mi : MI} {g : MG} {mb : MS} {pos : Pos}
theorem ds_for (hp : PassesOwn (model X.prog X.w) X.A X.env X.xe) (hc : X.calm = true) (hi : DI X tg iter mi) (hg : DG X tg g) (hb : DSs X body mb)
    (hs : ∀ x, foldedSetIterable iter X.env x = pure x := by intro _; rfl) : DS X (.For tg iter body [] pos) (sFor mi g mb) :=
  ⟨ps_mono (ps_for hp hc hi.pi hg.pg hb.pss hs) fun D σ H ⟨env, st, D0, re, rs, h, k1, k2, k3, k4⟩ => by
    refine ⟨env, st, _, re, rs, h, fun xs ok st1 J H1 ⟨W, w0, hok, turn, fin⟩ e1 rs1 S => ?_⟩
    refine ⟨fun i n σ' H' => n = xs.length - i ∧ i ≤ xs.length ∧ ∃ env' st', Ext H1 H' ∧ RelE X.K H' env' σ' ∧ RelSto X.K H' st' ∧ W i env' st', ⟨xs.length, by simp, Nat.zero_le _, env, st1, .refl, re.mono e1, rs1, w0⟩, ?_⟩
    rintro i n σ' H' ⟨rfl, hi, env', st', e2, re2, rs2, w⟩
    have okk := hok i env' st' hi w
    by_cases hlt : i < xs.length
    · refine .inr ⟨S.go i H' st' hlt e2 rs2 okk, fun σ2 H2 => ∃ env2 st2, Ext H1 H2 ∧ RelE X.K H2 env2 σ2 ∧ RelSto X.K H2 st2 ∧ W (i + 1) env2 st2, fun σ2 H2 z => ⟨xs.length - (i + 1), by omega, rfl, hlt, z⟩, fun x H3 y => ?_⟩
      obtain ⟨d, hd, rd, kp⟩ := S.yld i H' st' x H3 hlt e2 rs2 okk y
      have e3 : Ext H' H3 := .of_keep kp
      refine ⟨d, env', st', _, rd, re2.mono e3, rs2.of_keep kp, turn i d env' st' hd w, fun env4 st4 σ4 H4 q e4 re4 rs4 => ?_⟩
      have E4 : Ext H1 H4 := e2.trans (e3.trans e4)
      refine ⟨env4, st4, _, re4, rs4, q, ?_, ?_, ?_, ?_⟩
      · exact fun a b c d w e re rs => ⟨a, b, E4.trans e, re, rs, w⟩
      · exact fun a b c d q e r rs => k2 a b c d q (e1.trans (E4.trans e)) r rs
      · exact fun a b c d q e re rs => k1 a b c d q (e1.trans (E4.trans e)) re rs
      · exact fun a b c d w e re rs => ⟨a, b, E4.trans e, re, rs, w⟩
    · have hn : i = xs.length := by omega
      subst hn
      exact .inl ⟨S.stop _ H' st' (Nat.le_refl _) e2 rs2 okk, k1 env' st' σ' H' (fin env' st' w) (e1.trans e2) re2 rs2⟩⟩
end
end L2.DL

namespace L2.DL
open PySem PySem.Spec PyProof.Rows

/-! ### what is walked -/
section
variable {X : Cx} {tg : Expr}
/-- a list, a tuple, a text -/
def wSeq (m : ME) : MI := fun env st Q => m env st fun x st1 => match x with
  | .tup xs => Q xs (fun _ => True) st1
  | .str z => Q (signsD z) (fun _ => True) st1
  | .ref a => ∃ xs, rdL (st1 a) = some xs ∧ Q xs (fun st => rdL (st a) = some xs) st1
  | _ => False
theorem pi_any {l : Expr} {tl : TE} (hl : PE X l tl) : PI X tg l (fun σ H R => tl σ H fun x H1 => (∃ a xs, x = .ref a ∧ SqL X.K H1 a xs ∧ R (Itl X.K a) H1) ∨ (∃ a xs, x = .ref a ∧ SqT X.K H1 a xs ∧ R (Itt X.K a) H1) ∨ (∃ z, x = .str z ∧ R (Its z) H1)) := by
  refine ⟨fun pins s σ H R I h => ?_⟩
  refine thn (hl.run pins s σ H _ I h) fun v s1 ⟨x, H1, I1, r1, q1⟩ => ?_
  rcases q1 with ⟨a, xs, e, hq, q⟩ | ⟨a, xs, e, hq, q⟩ | ⟨z, e, q⟩
  · subst e
    cases r1
    obtain ⟨its, rv, p, hz⟩ := I1.list hq
    refine wpAny_pyIter_list p.isList ?_
    refine ⟨s1.heap.objs.size, [s1.heap.objs.size], _, _, H1, rfl, I1.kept (t' := s1.toks) fun b o e => Heap.get?_push_of_some _ e, turn_list a _, ⟨_, Heap.get?_push_size _ rfl, rfl, rfl⟩, fun b hb => ?_, q⟩
    have e : b = s1.heap.objs.size := by simpa using hb
    subst e
    exact I1.fpOk (Nat.le_refl _) (I1.hok.fresh (Nat.le_refl _))
  · subst e
    cases r1
    obtain ⟨its, rv, p, hz⟩ := I1.tuple hq
    refine wpAny_pyIter_tuple (show s1.heap.IsTuple a its.toArray from p) ?_
    refine ⟨s1.heap.objs.size, [s1.heap.objs.size], _, _, H1, rfl, I1.kept (t' := s1.toks) fun b o e => Heap.get?_push_of_some _ e, turn_tuple a _, ⟨_, Heap.get?_push_size _ rfl, rfl, rfl⟩, fun b hb => ?_, q⟩
    have e : b = s1.heap.objs.size := by simpa using hb
    subst e
    exact I1.fpOk (Nat.le_refl _) (I1.hok.fresh (Nat.le_refl _))
  · subst e
    obtain ⟨t, rfl⟩ := r1
    cases ha : z.cps.all (· < 128)
    · exact wpAny_pyIter_wide ha (pi_one (tk := s1.toks) I1 _ (turn_str _ z t "str_iterator" (.inr rfl)) ⟨_, Heap.get?_push_size _ rfl, rfl, rfl⟩ q)
    · exact wpAny_pyIter_ascii ha (pi_one (tk := s1.toks) I1 _ (turn_str _ z t "str_ascii_iterator" (.inl rfl)) ⟨_, Heap.get?_push_size _ rfl, rfl, rfl⟩ q)
theorem src_tup {K : PySem.W.Frag} {H0 : Hp} {a : Addr} {ds : List D} {vs : List V} {ok : Sto → Prop} (g : SqT K H0 a vs) (r : RelDs K H0 ds vs) : SrcJ K H0 ds ok (Itt K a) where
  stop := fun i H st h e rs o => ⟨vs, e.sqT g, by rw [← r.length]; exact h⟩
  go := fun i H st h e rs o => ⟨vs, vs[i]'(by rw [← r.length]; exact h), e.sqT g, by simp [← r.length, h]⟩
  yld := fun i H st x H' h e rs o y => by
    obtain ⟨rfl, y⟩ := y
    have hx := y vs (e.sqT g)
    obtain ⟨d, hd, rd⟩ := (r.mono e).getV hx
    exact ⟨d, hd, rd, fun b u z => z⟩
theorem src_list {K : PySem.W.Frag} {H0 : Hp} {a : Addr} {ds : List D} : SrcJ K H0 ds (fun st => rdL (st a) = some ds) (Itl K a) where
  stop := fun i H st h e rs o => by
    obtain ⟨vs, g, r⟩ := rs.rdL o
    exact ⟨vs, g, by rw [← r.length]; exact h⟩
  go := fun i H st h e rs o => by
    obtain ⟨vs, g, r⟩ := rs.rdL o
    exact ⟨vs, vs[i]'(by rw [← r.length]; exact h), g, by simp [← r.length, h]⟩
  yld := fun i H st x H' h e rs o y => by
    obtain ⟨rfl, y⟩ := y
    obtain ⟨vs, g, r⟩ := rs.rdL o
    obtain ⟨d, hd, rd⟩ := r.getV (y vs g)
    exact ⟨d, hd, rd, fun b u z => z⟩
theorem src_str {K : PySem.W.Frag} {H0 : Hp} {z : Str} {ok : Sto → Prop} : SrcJ K H0 (signsD z) ok (Its z) where
  stop := fun i H st h e rs o => by
    have h' : z.cps.size ≤ i := by simpa [signsD] using h
    exact h'
  go := fun i H st h e rs o => by
    have h' : i < z.cps.size := by simpa [signsD] using h
    exact h'
  yld := fun i H st x H' h e rs o y => by
    obtain ⟨rfl, c, hc, rfl⟩ := y
    refine ⟨.str ⟨#[c]⟩, ?_, .str _, fun b u z => z⟩
    have hc' : z.cps.toList[i]? = some c := by simpa using hc
    simp [signsD, hc']
theorem di_seq {e : Expr} {m : ME} (he : DE X e m) : DI X tg e (wSeq m) :=
  ⟨pi_mono (pi_any he.pe) fun σ H R ⟨env, st, Q0, re, rs, h, k⟩ => by
    refine lift_in re rs h fun x st1 x' H1 q ex rx re1 rs1 => ?_
    cases x with
    | tup ds =>
      obtain ⟨a, vs, rfl, g, r⟩ := rx.tup_of
      exact .inr (.inl ⟨a, vs, rfl, g, k ds _ st1 _ H1 q ex rs1 (src_tup g r)⟩)
    | str z =>
      cases rx
      exact .inr (.inr ⟨z, rfl, k _ _ st1 _ H1 q ex rs1 src_str⟩)
    | ref a =>
      cases rx
      obtain ⟨xs, e1, q⟩ := q
      obtain ⟨vs, g, r⟩ := rs1.rdL e1
      exact .inl ⟨a, vs, rfl, g, k xs _ st1 _ H1 q ex rs1 src_list⟩
    | _ => exact q.elim⟩
/-- range(..) -/
def rangeD (lo : Int) (n : Nat) : List D := (List.range n).map fun (i : Nat) => D.int (lo + (i : Int))
theorem src_rng {K : PySem.W.Frag} {H0 : Hp} {lo : Int} {n : Nat} {ok : Sto → Prop} : SrcJ K H0 (rangeD lo n) ok (Itr lo n) where
  stop := fun i H st h e rs o => by
    have h' : n ≤ i := by simpa [rangeD] using h
    exact h'
  go := fun i H st h e rs o => by
    have h' : i < n := by simpa [rangeD] using h
    exact h'
  yld := fun i H st x H' h e rs o y => by
    obtain ⟨rfl, rfl⟩ := y
    have hi : i < n := by simpa [rangeD] using h
    exact ⟨.int (lo + i), by simp [rangeD, hi], .int _, fun b u z => z⟩
def wRng1 (m : ME) : MI := fun env st Q => m env st fun x st1 => ∃ j, x = .int j ∧ (-(2 ^ 62) ≤ j ∧ j < 2 ^ 62) ∧ Q (rangeD 0 j.toNat) (fun _ => True) st1
def wRng2 (ma mb : ME) : MI := fun env st Q => ma env st fun x st1 => mb env st1 fun y st2 => ∃ i j, x = .int i ∧ y = .int j ∧ (-(2 ^ 62) ≤ i ∧ i < 2 ^ 62 ∧ -(2 ^ 62) ≤ j ∧ j < 2 ^ 62) ∧ Q (rangeD i (j - i).toNat) (fun _ => True) st2
theorem lift_args1 {K : PySem.W.Frag} {a : Expr} {ma : ME} {σ : St} {H : Hp} {env : Env} {st : Sto} {P : DK} {R : List V → Hp → Prop} (re : RelE K H env σ) (rs : RelSto K H st) (h : ma env st P)
    (k : ∀ x st1 x' H1, P x st1 → Ext H H1 → RelD K H1 x x' → RelSto K H1 st1 → R [x'] H1) : tCons (lift K ma) tNil σ H R :=
  lift_in re rs h fun x st1 x' H1 q e rx re1 rs1 => k x st1 x' H1 q e rx rs1
theorem lift_args2 {K : PySem.W.Frag} {ma mb : ME} {σ : St} {H : Hp} {env : Env} {st : Sto} {P : D → D → Sto → Prop} {R : List V → Hp → Prop} (re : RelE K H env σ) (rs : RelSto K H st) (h : ma env st fun x st1 => mb env st1 fun y st2 => P x y st2)
    (k : ∀ x y st1 x' y' H1, P x y st1 → Ext H H1 → RelD K H1 x x' → RelD K H1 y y' → RelSto K H1 st1 → R [x', y'] H1) : tCons (lift K ma) (tCons (lift K mb) tNil) σ H R :=
  lift_in re rs h fun x st1 x' H1 q e rx re1 rs1 => lift_in re1 rs1 q fun y st2 y' H2 q2 e2 ry re2 rs2 => k x y st2 x' y' H2 q2 (e.trans e2) (rx.mono e2) ry rs2
/-- range with a step -/
def stepD (lo c : Int) (n : Nat) : List D := (List.range n).map fun (i : Nat) => D.int (lo + (i : Int) * c)
theorem src_step {K : PySem.W.Frag} {H0 : Hp} {lo c : Int} {n : Nat} {ok : Sto → Prop} : SrcJ K H0 (stepD lo c n) ok (Itc lo c n) where
  stop := fun i H st h e rs o => by
    have h' : n ≤ i := by simpa [stepD] using h
    exact h'
  go := fun i H st h e rs o => by
    have h' : i < n := by simpa [stepD] using h
    exact h'
  yld := fun i H st x H' h e rs o y => by
    obtain ⟨rfl, rfl⟩ := y
    have hi : i < n := by simpa [stepD] using h
    exact ⟨.int (lo + i * c), by simp [stepD, hi], .int _, fun b u z => z⟩
def wRng3 (ma mb mc : ME) : MI := fun env st Q => ma env st fun x st1 => mb env st1 fun y st2 => mc env st2 fun z st3 => ∃ i j c n, x = .int i ∧ y = .int j ∧ z = .int c ∧ RgC i j c n ∧ Q (stepD i c n) (fun _ => True) st3
theorem di_rng3 {a b c : Expr} {ma mb mc : ME} {p pos : Pos} (hg : Gl X "range") (hm : X.mg "range" = none) (ha : DE X a ma) (hb : DE X b mb) (hc : DE X c mc)
    (hs : starEach [a, b, c] X.env = (false, eval a X.env) :: starEach [b, c] X.env := by rfl) (hs2 : starEach [b, c] X.env = (false, eval b X.env) :: starEach [c] X.env := by rfl) (hs3 : starEach [c] X.env = (false, eval c X.env) :: starEach [] X.env := by rfl)
    (hpl : (backTo pos (starEach [b, c] X.env)).any (·.1) = false := by rfl) :
    DI X tg (.Call (.Name "range" p) [a, b, c] [] pos) (wRng3 ma mb mc) :=
  ⟨pi_mono (pi_range3 hg hm (pa_cons ha.pe (pa_cons hb.pe (pa_cons hc.pe pa_nil hs3) hs2) hs) hs hpl) fun σ H R ⟨env, st, Q0, re, rs, h, k⟩ => by
    refine lift_in re rs h fun x st1 x' H1 q1 e1 rx re1 rs1 => ?_
    refine lift_in re1 rs1 q1 fun y st2 y' H2 q2 e2 ry re2 rs2 => ?_
    refine lift_in re2 rs2 q2 fun z st3 z' H3 ⟨i, j, c, n, ex, ey, ez, g, q3⟩ e3 rz re3 rs3 => ?_
    subst ex ey ez
    cases rx; cases ry; cases rz
    exact ⟨i, j, c, n, rfl, g, k _ _ st3 _ H3 q3 (e1.trans (e2.trans e3)) rs3 src_step⟩⟩
theorem di_rng1 {a : Expr} {m : ME} {p pos : Pos} (hg : Gl X "range") (hm : X.mg "range" = none) (ha : DE X a m) (hs : starEach [a] X.env = [(false, eval a X.env)] := by rfl) : DI X tg (.Call (.Name "range" p) [a] [] pos) (wRng1 m) :=
  ⟨pi_mono (pi_range1 hg hm (pa_cons ha.pe pa_nil hs) hs) fun σ H R ⟨env, st, Q0, re, rs, h, k⟩ =>
    lift_args1 (a := a) re rs h fun x st1 x' H1 ⟨j, e, ⟨b1, b2⟩, q⟩ ex rx rs1 => by
      subst e
      cases rx
      exact ⟨j, rfl, b1, b2, k _ _ st1 _ H1 q ex rs1 src_rng⟩⟩
theorem di_rng2 {a b : Expr} {ma mb : ME} {p pos : Pos} (hg : Gl X "range") (hm : X.mg "range" = none) (ha : DE X a ma) (hb : DE X b mb) (hs : starEach [a, b] X.env = [(false, eval a X.env), (false, eval b X.env)] := by rfl) (hs2 : starEach [b] X.env = [(false, eval b X.env)] := by rfl) :
    DI X tg (.Call (.Name "range" p) [a, b] [] pos) (wRng2 ma mb) :=
  ⟨pi_mono (pi_range2 hg hm (pa_cons ha.pe (pa_cons hb.pe pa_nil hs2) (by rw [hs, hs2])) hs hs2) fun σ H R ⟨env, st, Q0, re, rs, h, k⟩ =>
    lift_args2 re rs h fun x y st1 x' y' H1 ⟨i, j, e, e2, b, q⟩ ex rx ry rs1 => by
      subst e e2
      cases rx; cases ry
      exact ⟨i, j, rfl, b, k _ _ st1 _ H1 q ex rs1 src_rng⟩⟩
end

/-! ### comprehensions -/
def mYes : MT := fun _ st Q => Q true st
structure DTs (X : Cx) (ifs : List Expr) (t : MT) : Prop where
  pts : PTs X ifs (liftT X.K t)
theorem pts_mono {X : Cx} {ifs : List Expr} {t t' : TT} (h : PTs X ifs t) (k : ∀ σ H Q, t' σ H Q → t σ H Q) : PTs X ifs t' := ⟨fun pins s σ H Q I hw => h.run pins s σ H Q I (k _ _ _ hw)⟩
theorem dts_nil {X : Cx} : DTs X [] mYes := ⟨pts_mono pts_nil fun σ H Q ⟨env, st, Q0, re, rs, h, k⟩ => k true st H h .refl rs⟩
theorem dts_one {X : Cx} {c : Expr} {t : MT} (h : DT X c t) : DTs X [c] t := ⟨pts_one h.pt⟩
/-- a comprehension's targets: its own slots alone are stored -/
def liftGc (K : PySem.W.Frag) (g : MG) (ws : List Nat) : TG := fun v σ H Q' => ∃ d env st Q, RelD K H d v ∧ RelE K H env σ ∧ RelSto K H st ∧ g d env st Q ∧
  ∀ env' st' σ' H', Q env' st' → Ext H H' → RelE K H' env' σ' → RelSto K H' st' → wipe σ' ws = wipe σ ws → Q' σ' H'
def liftGsc (K : PySem.W.Frag) (g : MGs) (ws : List Nat) : TGs := fun vs σ H Q' => ∃ ds env st Q, RelDs K H ds vs ∧ RelE K H env σ ∧ RelSto K H st ∧ g ds env st Q ∧
  ∀ env' st' σ' H', Q env' st' → Ext H H' → RelE K H' env' σ' → RelSto K H' st' → wipe σ' ws = wipe σ ws → Q' σ' H'
structure DGc (X : Cx) (t : Expr) (g : MG) (ws : List Nat) : Prop where
  pg : PG X t (liftGc X.K g ws)
structure DGsc (X : Cx) (t : List Expr) (g : MGs) (ws : List Nat) : Prop where
  pgs : PGs X t (liftGsc X.K g ws)
theorem wipe_get (σ : L2.St) : ∀ (ws : List Nat) (j : Nat), (wipe σ ws)[j]? = if j ∈ ws then σ[j]?.map (fun _ => none) else σ[j]?
  | [], j => by simp [wipe]
  | w :: ws, j => by
    unfold wipe
    by_cases h : w = j
    · subst h
      rw [List.getElem?_set_self', wipe_get σ ws w]
      simp only [List.mem_cons, true_or, if_true]
      split <;> cases σ[w]? <;> rfl
    · rw [List.getElem?_set_ne h, wipe_get σ ws j]
      simp [List.mem_cons, Ne.symm h]
theorem wipe_set {σ : L2.St} {i : Nat} {v : Option V} {ws : List Nat} (h : i ∈ ws) : wipe (σ.set i v) ws = wipe σ ws := by
  apply List.ext_getElem?
  intro j
  rw [wipe_get, wipe_get]
  by_cases hj : j ∈ ws
  · simp only [hj, if_true]
    by_cases e : i = j
    · subst e
      rw [List.getElem?_set_self']
      cases σ[i]? <;> simp
    · rw [List.getElem?_set_ne e]
  · simp only [hj, if_false]
    have e : i ≠ j := fun z => hj (z ▸ h)
    rw [List.getElem?_set_ne e]
theorem wipe_wipe {σ : L2.St} {ws : List Nat} : wipe (wipe σ ws) ws = wipe σ ws := by
  apply List.ext_getElem?
  intro j
  rw [wipe_get, wipe_get]
  split
  · cases σ[j]? <;> simp
  · rfl
section
variable {X : Cx} {pos : Pos} {ws : List Nat}
theorem dgc_name {i : Nat} {x : Str} (hN : X.N.Nodup) (hi : X.N[i]? = some x) (hx : Loc X.env.scope x) (hw : i ∈ ws) (hf : X.fn x = true ∨ X.env.scope.names.lookup x = some .local := by first | exact .inl rfl | exact .inr rfl | assumption) : DGc X (.Name x pos) (gN i) ws :=
  ⟨pg_mono (pg_name hN hi hx hf) fun v σ H Q ⟨d, env, st, Q0, r, re, rs, h, k⟩ => k _ st _ H h .refl (re.set r i) rs (wipe_set hw)⟩
theorem dgsc_nil : DGsc X [] gNil ws := ⟨pgs_mono pgs_nil fun vs σ H Q ⟨ds, env, st, Q0, r, re, rs, ⟨e, h⟩, k⟩ => by
  subst e
  cases r
  exact ⟨rfl, k env st σ H h .refl re rs rfl⟩⟩
theorem dgsc_cons {e : Expr} {es : List Expr} {g : MG} {gs : MGs} (h1 : DGc X e g ws) (h2 : DGsc X es gs ws)
    (hs : (assignEach (e :: es) X.env).map (·.2) = assign e X.env :: (assignEach es X.env).map (·.2) := by rfl) : DGsc X (e :: es) (gCons g gs) ws :=
  ⟨pgs_mono (pgs_cons h1.pg h2.pgs hs) fun vs σ H Q ⟨ds, env, st, Q0, r, re, rs, ⟨d, dr, e, h⟩, k⟩ => by
    subst e
    cases r with
    | cons r t =>
      refine ⟨_, _, rfl, d, env, st, _, r, re, rs, h, fun env' st' σ' H' q e re' rs' ew => ?_⟩
      exact ⟨dr, env', st', Q0, t.mono e, re', rs', q, fun a b c d q e2 re2 rs2 ew2 => k a b c d q (e.trans e2) re2 rs2 (ew2.trans ew)⟩⟩
theorem dgc_tup {es : List Expr} {k : Nat} {gs : MGs} {n : Nat} (hc : X.calm = true) (h : DGsc X es gs ws)
    (hn : (assignEach es X.env).length = n := by rfl) (hst : (assignEach es X.env).findIdx? (·.1) = none := by rfl) : DGc X (.Tuple es k pos) (gTup n gs) ws :=
  ⟨pg_mono (pg_tup hc h.pgs hn hst) fun v σ H Q ⟨d, env, st, Q0, r, re, rs, ⟨ds, e, hl, h⟩, k⟩ => by
    subst e
    obtain ⟨a, vs, rfl, g, r2⟩ := r.tup_of
    exact ⟨a, vs, rfl, g, by rw [← r2.length]; exact hl, ds, env, st, Q0, r2, re, rs, h, k⟩⟩
end
/-- [e for g in xs if t]: W by the turn and the store, the new list at p within -/
def mLc (mi : MI) (g : MG) (mt : MT) (me : ME) (ws : List Nat) : ME := fun env st Q => mi env st fun xs ok st1 => ∀ p, Nf st1 p → ∃ W : Nat → List D → Sto → Prop, W 0 [] (put st1 p (.lst [])) ∧
  (∀ i acc st, i ≤ xs.length → W i acc st → ok st ∧ st p = some (.lst acc)) ∧
  (∀ i acc x st, xs[i]? = some x → W i acc st → g x (wipeE env ws) st fun env2 st2 => mt env2 st2 fun b st3 =>
    if b = true then me env2 st3 fun y st4 => st4 p = some (.lst acc) ∧ acc.length < sizeLine ∧ W (i + 1) (acc ++ [y]) (put st4 p (.lst (acc ++ [y]))) else W (i + 1) acc st3) ∧
  (∀ acc st, W xs.length acc st → Q (.ref p) st)
theorem lift_lc {K : PySem.W.Frag} {mi : MI} {g : MG} {mt : MT} {me : ME} {ws : List Nat} {σ : L2.St} {H : Hp} {Q : VK} (h : lift K (mLc mi g mt me ws) σ H Q) : tLc (liftI K mi) (liftGc K g ws) (liftT K mt) (lift K me) ws σ H Q := by
  obtain ⟨env, st, Q0, re, rs, h, k⟩ := h
  refine ⟨env, st, _, re, rs, h, fun xs ok st1 J H1 q e1 rs1 S p hp => ?_⟩
  obtain ⟨W, w0, hok, turn, fin⟩ := q p (rs1.fresh hp)
  have exp : Ext H1 (upd H1 p (.lst [])) := .upd_new hp
  refine ⟨fun i m H' => m = xs.length - i ∧ i ≤ xs.length ∧ ∃ acc st', Ext H1 H' ∧ RelSto K H' st' ∧ W i acc st', ⟨xs.length, by simp, Nat.zero_le _, [], _, exp, rs1.put (o := .lst []) exp ⟨[], upd_same, .nil⟩, w0⟩, ?_⟩
  rintro i m H' ⟨rfl, hi, acc, st', e2, rs2, w⟩
  obtain ⟨okk, hpp⟩ := hok i acc st' hi w
  by_cases hlt : i < xs.length
  · refine .inr ⟨S.go i H' st' hlt e2 rs2 okk, fun H2 => ∃ acc2 st2, Ext H1 H2 ∧ RelSto K H2 st2 ∧ W (i + 1) acc2 st2, fun H2 z => ⟨xs.length - (i + 1), by omega, rfl, hlt, z⟩, fun x H3 y => ?_⟩
    obtain ⟨d, hd, rd, kp⟩ := S.yld i H' st' x H3 hlt e2 rs2 okk y
    have e3 : Ext H' H3 := .of_keep kp
    refine ⟨d, wipeE env ws, st', _, rd, ((re.mono (e1.trans (e2.trans e3))).wipe ws), rs2.of_keep kp, turn i acc d st' hd w, fun env4 st4 σ4 H4 q4 e4 re4 rs4 ew => ⟨by rw [ew, wipe_wipe], ?_⟩⟩
    refine liftT_in re4 rs4 q4 fun b st5 H5 q5 e5 re5 rs5 => ?_
    have E5 : Ext H1 H5 := e2.trans (e3.trans (e4.trans e5))
    cases b with
    | false => exact ⟨acc, st5, E5, rs5, q5⟩
    | true =>
      refine lift_in re5 rs5 q5 fun y st6 y' H6 ⟨hD, hz, w6⟩ e6 ry re6 rs6 => ?_
      obtain ⟨vs, gD, rD⟩ := rs6 _ _ hD
      have ex : ∀ u, Ext H6 (upd H6 p u) := fun u => upd_mutL gD
      exact ⟨vs, gD, by rw [← rD.length]; exact hz, _, _, E5.trans (e6.trans (ex _)), rs6.put (o := .lst (acc ++ [y])) (ex _) ⟨_, upd_same, (rD.append (.cons ry .nil)).mono (ex _)⟩, w6⟩
  · have hn : i = xs.length := by omega
    subst hn
    exact .inl ⟨S.stop _ H' st' (Nat.le_refl _) e2 rs2 okk, k _ st' _ H' (fin acc st' w) (e1.trans e2) (.ref p) rs2⟩
section
variable {X : Cx}
theorem de_lc {elt tg iter : Expr} {ifs : List Expr} {scope : Scope} {own : List (Str × Nat)} {ws : List Nat} {pos : Pos} {mi : MI} {g : MG} {mt : MT} {me : ME} (hc : X.calm = true) (hN : X.N.Nodup) (hi : DI X tg iter mi) (ok : BlkOk X.N X.env.scope scope own)
    (hg : ∀ (s : Shared) (H : Hp) (C : Addr) (cl : List (Str × Addr)) (fp : List Addr), DGc (X.blk s H scope (compEnvC scope cl C X.env) fp) tg g ws) (ht : ∀ (s : Shared) (H : Hp) (C : Addr) (cl : List (Str × Addr)) (fp : List Addr), DTs (X.blk s H scope (compEnvC scope cl C X.env) fp) ifs mt)
    (he : ∀ (s : Shared) (H : Hp) (C : Addr) (cl : List (Str × Addr)) (fp : List Addr), DE (X.blk s H scope (compEnvC scope cl C X.env) fp) elt me) (hws : own.map (·.2) = ws := by rfl) (hs : ∀ x, foldedSetIterable iter X.env x = pure x := by intro _; rfl) :
    DE X (.ListComp elt [⟨tg, iter, ifs, 0⟩] scope pos) (mLc mi g mt me ws) := by
  subst hws
  exact ⟨pe_mono (pe_lc hc hN hi.pi ok (fun s H C cl fp => (hg s H C cl fp).pg) (fun s H C cl fp => (ht s H C cl fp).pts) (fun s H C cl fp => (he s H C cl fp).pe) hs) fun σ H Q => lift_lc⟩
theorem ds_setLc {i : Nat} {y : Str} {py : Pos} {elt tg iter : Expr} {ifs : List Expr} {scope : Scope} {own : List (Str × Nat)} {ws : List Nat} {pos spos : Pos} {mi : MI} {g : MG} {mt : MT} {me : ME} (hc : X.calm = true) (hN : X.N.Nodup) (hy : X.N[i]? = some y) (hyl : X.env.scope.names.lookup y = some .local)
    (hsw : swapsWith (.ListComp elt [⟨tg, iter, ifs, 0⟩] scope pos) (some (.Name y py)) spos.line X.env = pure true) (hi : DI X tg iter mi) (ok : BlkOk X.N X.env.scope scope own)
    (hg : ∀ (s : Shared) (H : Hp) (C : Addr) (cl : List (Str × Addr)) (fp : List Addr), DGc (X.blk s H scope (compEnvC scope cl C X.env) fp) tg g ws) (ht : ∀ (s : Shared) (H : Hp) (C : Addr) (cl : List (Str × Addr)) (fp : List Addr), DTs (X.blk s H scope (compEnvC scope cl C X.env) fp) ifs mt)
    (he : ∀ (s : Shared) (H : Hp) (C : Addr) (cl : List (Str × Addr)) (fp : List Addr), DE (X.blk s H scope (compEnvC scope cl C X.env) fp) elt me) (hws : own.map (·.2) = ws := by rfl) (hs : ∀ x, foldedSetIterable iter X.env x = pure x := by intro _; rfl) :
    DS X (.Assign [.Name y py] (.ListComp elt [⟨tg, iter, ifs, 0⟩] scope pos) spos) (sAsg (mLc mi g mt me ws) (gN i)) := by
  subst hws
  exact ⟨ps_mono (ps_setLc hc hN hy hyl hsw hi.pi ok (fun s H C cl fp => (hg s H C cl fp).pg) (fun s H C cl fp => (ht s H C cl fp).pts) (fun s H C cl fp => (he s H C cl fp).pe) hs) fun D σ H ⟨env, st, D0, re, rs, h, k1, _⟩ => by
    have h2 : lift X.K (mLc mi g mt me (own.map (·.2))) σ H fun x H1 => gName i x σ H1 D.nx :=
      ⟨env, st, _, re, rs, h, fun d st' v H' q e r s => k1 _ st' _ H' q e ((re.mono e).set r i) s⟩
    exact lift_lc h2⟩

/-! ### dict comprehensions -/
def mDc (mi : MI) (g : MG) (mt : MT) (mk mv : ME) (ws : List Nat) : ME := fun env st Q => mi env st fun xs ok st1 => ∀ p, Nf st1 p → ∃ W : Nat → List (Key × D) → Sto → Prop, W 0 [] (put st1 p (.dic [])) ∧
  (∀ i acc st, i ≤ xs.length → W i acc st → ok st ∧ st p = some (.dic acc)) ∧
  (∀ i acc x st, xs[i]? = some x → W i acc st → g x (wipeE env ws) st fun env2 st2 => mt env2 st2 fun b st3 =>
    if b = true then mk env2 st3 fun y st4 => mv env2 st4 fun z st5 => ∃ k, keyD y = some k ∧ st5 p = some (.dic acc) ∧ acc.length < sizeLine ∧ W (i + 1) (putD acc k z) (put st5 p (.dic (putD acc k z))) else W (i + 1) acc st3) ∧
  (∀ acc st, W xs.length acc st → Q (.ref p) st)
theorem lift_dc {K : PySem.W.Frag} {mi : MI} {g : MG} {mt : MT} {mk mv : ME} {ws : List Nat} {σ : L2.St} {H : Hp} {Q : VK} (h : lift K (mDc mi g mt mk mv ws) σ H Q) : tDc (liftI K mi) (liftGc K g ws) (liftT K mt) (lift K mk) (lift K mv) ws σ H Q := by
  obtain ⟨env, st, Q0, re, rs, h, k⟩ := h
  refine ⟨env, st, _, re, rs, h, fun xs ok st1 J H1 q e1 rs1 S p hp => ?_⟩
  obtain ⟨W, w0, hok, turn, fin⟩ := q p (rs1.fresh hp)
  have exp : Ext H1 (upd H1 p (.dK [])) := .upd_new hp
  refine ⟨fun i m H' => m = xs.length - i ∧ i ≤ xs.length ∧ ∃ acc st', Ext H1 H' ∧ RelSto K H' st' ∧ W i acc st', ⟨xs.length, by simp, Nat.zero_le _, [], _, exp, rs1.put (o := .dic []) exp ⟨[], upd_same, .nil⟩, w0⟩, ?_⟩
  rintro i m H' ⟨rfl, hi, acc, st', e2, rs2, w⟩
  obtain ⟨okk, hpp⟩ := hok i acc st' hi w
  by_cases hlt : i < xs.length
  · refine .inr ⟨S.go i H' st' hlt e2 rs2 okk, fun H2 => ∃ acc2 st2, Ext H1 H2 ∧ RelSto K H2 st2 ∧ W (i + 1) acc2 st2, fun H2 z => ⟨xs.length - (i + 1), by omega, rfl, hlt, z⟩, fun x H3 y => ?_⟩
    obtain ⟨d, hd, rd, kp⟩ := S.yld i H' st' x H3 hlt e2 rs2 okk y
    have e3 : Ext H' H3 := .of_keep kp
    refine ⟨d, wipeE env ws, st', _, rd, ((re.mono (e1.trans (e2.trans e3))).wipe ws), rs2.of_keep kp, turn i acc d st' hd w, fun env4 st4 σ4 H4 q4 e4 re4 rs4 ew => ⟨by rw [ew, wipe_wipe], ?_⟩⟩
    refine liftT_in re4 rs4 q4 fun b st5 H5 q5 e5 re5 rs5 => ?_
    have E5 : Ext H1 H5 := e2.trans (e3.trans (e4.trans e5))
    cases b with
    | false => exact ⟨acc, st5, E5, rs5, q5⟩
    | true =>
      refine lift_in re5 rs5 q5 fun y st6 y' H6 q6 e6 ry re6 rs6 => ?_
      refine lift_in re6 rs6 q6 fun z st7 z' H7 ⟨k, ek, hD, hz, w7⟩ e7 rz re7 rs7 => ?_
      obtain ⟨vs, gD, rD⟩ := rs7 _ _ hD
      have ex : ∀ u, Ext H7 (upd H7 p u) := fun u => .upd_mut (by rw [gD]; trivial)
      exact ⟨vs, k, key_rel ry ek, gD, by rw [rD.length]; exact hz, _, _, E5.trans (e6.trans (e7.trans (ex _))), rs7.put (o := .dic (putD acc k z)) (ex _) ⟨_, upd_same, (rD.put k rz).mono (ex _)⟩, w7⟩
  · have hn : i = xs.length := by omega
    subst hn
    exact .inl ⟨S.stop _ H' st' (Nat.le_refl _) e2 rs2 okk, k _ st' _ H' (fin acc st' w) (e1.trans e2) (.ref p) rs2⟩
theorem de_dc {kx vx tg iter : Expr} {ifs : List Expr} {scope : Scope} {own : List (Str × Nat)} {ws : List Nat} {pos : Pos} {mi : MI} {g : MG} {mt : MT} {mk mv : ME} (hc : X.calm = true) (hN : X.N.Nodup) (hi : DI X tg iter mi) (ok : BlkOk X.N X.env.scope scope own)
    (hg : ∀ (s : Shared) (H : Hp) (C : Addr) (cl : List (Str × Addr)) (fp : List Addr), DGc (X.blk s H scope (compEnvC scope cl C X.env) fp) tg g ws) (ht : ∀ (s : Shared) (H : Hp) (C : Addr) (cl : List (Str × Addr)) (fp : List Addr), DTs (X.blk s H scope (compEnvC scope cl C X.env) fp) ifs mt)
    (hk : ∀ (s : Shared) (H : Hp) (C : Addr) (cl : List (Str × Addr)) (fp : List Addr), DE (X.blk s H scope (compEnvC scope cl C X.env) fp) kx mk)
    (he : ∀ (s : Shared) (H : Hp) (C : Addr) (cl : List (Str × Addr)) (fp : List Addr), DE (X.blk s H scope (compEnvC scope cl C X.env) fp) vx mv) (hws : own.map (·.2) = ws := by rfl) (hs : ∀ x, foldedSetIterable iter X.env x = pure x := by intro _; rfl) :
    DE X (.DictComp kx vx [⟨tg, iter, ifs, 0⟩] scope pos) (mDc mi g mt mk mv ws) := by
  subst hws
  exact ⟨pe_mono (pe_dc hc hN hi.pi ok (fun s H C cl fp => (hg s H C cl fp).pg) (fun s H C cl fp => (ht s H C cl fp).pts) (fun s H C cl fp => (hk s H C cl fp).pe) (fun s H C cl fp => (he s H C cl fp).pe) hs) fun σ H Q => lift_dc⟩
/-- name = {..} on one line, the name a local -/
theorem ps_setDc {i : Nat} {y : Str} {py : Pos} {kx vx tg iter : Expr} {ifs : List Expr} {scope : Scope} {own : List (Str × Nat)} {pos spos : Pos} {wi : TI} {g : TG} {tt : TT} {tk tv : TE} (hc : X.calm = true) (hN : X.N.Nodup) (hy : X.N[i]? = some y) (hyl : X.env.scope.names.lookup y = some .local)
    (hsw : swapsWith (.DictComp kx vx [⟨tg, iter, ifs, 0⟩] scope pos) (some (.Name y py)) spos.line X.env = pure true) (hi : PI X tg iter wi) (ok : BlkOk X.N X.env.scope scope own)
    (hg : ∀ (s : Shared) (H : Hp) (C : Addr) (cl : List (Str × Addr)) (fp : List Addr), PG (X.blk s H scope (compEnvC scope cl C X.env) fp) tg g) (ht : ∀ (s : Shared) (H : Hp) (C : Addr) (cl : List (Str × Addr)) (fp : List Addr), PTs (X.blk s H scope (compEnvC scope cl C X.env) fp) ifs tt)
    (hk : ∀ (s : Shared) (H : Hp) (C : Addr) (cl : List (Str × Addr)) (fp : List Addr), PE (X.blk s H scope (compEnvC scope cl C X.env) fp) kx tk)
    (he : ∀ (s : Shared) (H : Hp) (C : Addr) (cl : List (Str × Addr)) (fp : List Addr), PE (X.blk s H scope (compEnvC scope cl C X.env) fp) vx tv) (hs : ∀ x, foldedSetIterable iter X.env x = pure x := by intro _; rfl) :
    PS X (.Assign [.Name y py] (.DictComp kx vx [⟨tg, iter, ifs, 0⟩] scope pos) spos) (tAsg (tDc wi g tt tk tv (own.map (·.2))) (gName i)) := by
  refine ⟨fun pins s σ H D I h => ?_⟩
  rw [exec_Assign_Name_used _ _ _ _ hsw]
  refine wpAny_bind (wpAny_standAt (wpAny_bind ?_))
  show wpAny _ X.A (do let _ ← comprehension (.DictComp kx vx [⟨tg, iter, ifs, 0⟩] scope pos) scope X.env (firstIterPos [⟨tg, iter, ifs, 0⟩] pos) newDict false (eval iter X.env) (some (assign (.Name y py) X.env))) _ _ s
  have h : tDc wi g tt tk tv (own.map (·.2)) σ H (fun x H1 => gName i x σ H1 D.nx) := h
  refine wpAny_bind (thn (dc_core (Qf := fun _ s' => SP X pins D .next s') hc hN I hi ok hg ht hk he hs h fun L C s' m H' I' q hn f => ?_) fun _ s' hq => wpAny_pure (wpAny_pure hq))
  show wpAny _ _ (assign (.Name y py) X.env (.ref L)) _ _ _
  refine wpAny_assign_Name (store_ok2 (v := V.ref L) I' hN hy (.inl hyl) rfl (fun s2 I2 ⟨a, sb, ha⟩ => ?_) (.inr hyl))
  obtain ⟨f0, f1, f2, f3, f4, f5⟩ := f
  have haC : C ≠ a := by
    rcases ha with z | z
    · rw [z]; exact f1
    · exact fun e => f4 y a z e.symm
  refine ⟨m, hn.sameBut sb haC, fun h3 sb3 => ?_⟩
  exact ⟨_, H', I2.turned (t' := s2.toks) (fun b o hb e => (sb3.2 b hb).trans e) f0 f1 f3 f4 f5, q⟩
theorem swD_true {kx vx : Expr} {gs : List Comprehension} {scope : Scope} {pos py : Pos} {y : Str} {l : Nat} {env : PySem.Env} (hk : env.scope.kind = .function) (hy : env.scope.names.lookup y = some .local) (hl : (py.line == pos.line) = true)
    (ha : (scope.names.any fun (n, k) => n == y && (k == .local || k == .cell)) = false) : swapsWith (.DictComp kx vx gs scope pos) (some (.Name y py)) l env = pure true := by
  have ky : env.kindOf y = some .local := hy
  have hb : env.blockKind = .function := by unfold Env.blockKind; rw [hk]; rfl
  unfold swapsWith
  simp only [hb, ky, ha, Expr.pos, hl]
  rfl
theorem ds_setDc {i : Nat} {y : Str} {py : Pos} {kx vx tg iter : Expr} {ifs : List Expr} {scope : Scope} {own : List (Str × Nat)} {ws : List Nat} {pos spos : Pos} {mi : MI} {g : MG} {mt : MT} {mk mv : ME} (hc : X.calm = true) (hN : X.N.Nodup) (hy : X.N[i]? = some y) (hyl : X.env.scope.names.lookup y = some .local)
    (hsw : swapsWith (.DictComp kx vx [⟨tg, iter, ifs, 0⟩] scope pos) (some (.Name y py)) spos.line X.env = pure true) (hi : DI X tg iter mi) (ok : BlkOk X.N X.env.scope scope own)
    (hg : ∀ (s : Shared) (H : Hp) (C : Addr) (cl : List (Str × Addr)) (fp : List Addr), DGc (X.blk s H scope (compEnvC scope cl C X.env) fp) tg g ws) (ht : ∀ (s : Shared) (H : Hp) (C : Addr) (cl : List (Str × Addr)) (fp : List Addr), DTs (X.blk s H scope (compEnvC scope cl C X.env) fp) ifs mt)
    (hk : ∀ (s : Shared) (H : Hp) (C : Addr) (cl : List (Str × Addr)) (fp : List Addr), DE (X.blk s H scope (compEnvC scope cl C X.env) fp) kx mk)
    (he : ∀ (s : Shared) (H : Hp) (C : Addr) (cl : List (Str × Addr)) (fp : List Addr), DE (X.blk s H scope (compEnvC scope cl C X.env) fp) vx mv) (hws : own.map (·.2) = ws := by rfl) (hs : ∀ x, foldedSetIterable iter X.env x = pure x := by intro _; rfl) :
    DS X (.Assign [.Name y py] (.DictComp kx vx [⟨tg, iter, ifs, 0⟩] scope pos) spos) (sAsg (mDc mi g mt mk mv ws) (gN i)) := by
  subst hws
  exact ⟨ps_mono (ps_setDc hc hN hy hyl hsw hi.pi ok (fun s H C cl fp => (hg s H C cl fp).pg) (fun s H C cl fp => (ht s H C cl fp).pts) (fun s H C cl fp => (hk s H C cl fp).pe) (fun s H C cl fp => (he s H C cl fp).pe) hs) fun D σ H ⟨env, st, D0, re, rs, h, k1, _⟩ => by
    have h2 : lift X.K (mDc mi g mt mk mv (own.map (·.2))) σ H fun x H1 => gName i x σ H1 D.nx :=
      ⟨env, st, _, re, rs, h, fun d st' v H' q e r s => k1 _ st' _ H' q e ((re.mono e).set r i) s⟩
    exact lift_dc h2⟩

/-! ### a dict locked while it is walked -/
/-- the keys -/
def keyB : Key → D
  | .inl i => .int i
  | .inr x => .str x
def mLock (i : Nat) (m : ME) : ME := fun env st Q => ∃ p kvs, env[i]? = some (some (.ref p)) ∧ st p = some (.dic kvs) ∧ m env (put st p (.rod kvs)) fun d st' => st' p = some (.rod kvs) ∧ Q d (put st' p (.dic kvs))
theorem de_lock {e : Expr} {i : Nat} {m : ME} (he : DE X e m) : DE X e (mLock i m) :=
  ⟨pe_mono (pe_lock he.pe) fun σ H Q ⟨env, st, Q0, re, rs, ⟨p, kvs, _, e2, h⟩, k⟩ => by
    obtain ⟨ws, g, r⟩ := rs _ _ e2
    refine ⟨p, .dK ws, g, trivial, fun od => ?_⟩
    have ex : Ext H (upd H p (.frz od (.dK ws))) := .upd_mut (by rw [g]; trivial)
    refine lift_in (re.mono ex) (rs.put (o := .rod kvs) ex ⟨ws, od, upd_same, r.mono ex⟩) h fun d st' v H' ⟨q1, q2⟩ e' rd re' rs' => ?_
    have hp : H' p = some (.frz od (.dK ws)) := e'.f _ _ _ upd_same
    have notp : ∀ a xs, Rd H' a (.tup xs) → a ≠ p := by
      rintro a xs r rfl
      rcases r with r | ⟨_, r⟩ <;> rw [hp] at r <;> cases r
    have exT : ExtT H' (upd H' p (.dK ws)) := fun a xs r => by
      have ne := notp a xs r
      rcases r with r | ⟨u, r⟩
      · exact .inl (by rw [upd_ne ne]; exact r)
      · exact .inr ⟨u, by rw [upd_ne ne]; exact r⟩
    have rk : RelK X.K H' kvs ws := by
      obtain ⟨ws', u, g', r'⟩ := rs' _ _ q1
      rw [hp] at g'
      cases g'
      exact r'
    refine ⟨hp, k d _ v _ q2 ⟨fun a xs r => exT _ _ (e'.t _ _ (ex.t _ _ r)), fun a o u h0 => ?_⟩ (rd.monoT exT) fun b ob hb => ?_⟩
    · have ne : a ≠ p := by
        rintro rfl
        rw [g] at h0; cases h0
      rw [upd_ne ne]
      exact e'.f _ _ _ (ex.f _ _ _ h0)
    · by_cases qb : b = p
      · subst qb
        rw [put_same] at hb
        cases hb
        exact ⟨ws, upd_same, rk.monoT exT⟩
      · rw [put_ne qb] at hb
        exact (rs' b ob hb).keep exT fun u hu => by rw [upd_ne qb]; exact hu⟩
/-- the keys of a locked dict -/
def wKeys (m : ME) : MI := fun env st Q => m env st fun x st1 => ∃ p kvs, x = .ref p ∧ st1 p = some (.rod kvs) ∧ Q (kvs.map fun kv => keyB kv.1) (fun st => st p = some (.rod kvs)) st1
theorem RelK.getV {κ : Type} {K : PySem.W.Frag} {H : Hp} : ∀ {ds : List (κ × D)} {vs : List (κ × V)} {i : Nat} {k : κ} {v : V}, RelK K H ds vs → vs[i]? = some (k, v) → ∃ d, ds[i]? = some (k, d) ∧ RelD K H d v
  | _, _, _, _, _, .nil, e => by simp at e
  | _, _, 0, _, _, .cons r _, e => by simp at e; obtain ⟨rfl, rfl⟩ := e; exact ⟨_, rfl, r⟩
  | _, _, i + 1, k, v, .cons _ t, e => by
    obtain ⟨u, h1, h2⟩ := RelK.getV (i := i) (k := k) (v := v) t (by simpa using e)
    exact ⟨u, by simpa using h1, h2⟩
theorem keyB_rel {K : PySem.W.Frag} {H : Hp} (k : Key) : RelD K H (keyB k) (kV k) := by
  cases k <;> first | exact .int _ | exact .str _
theorem src_keys {K : PySem.W.Frag} {H0 : Hp} {p : Addr} {kvs : List (Key × D)} {ws : List (Key × V)} {u : Obj} (g : H0 p = some (.frz u (.dK ws))) (r : RelK K H0 kvs ws) :
    SrcJ K H0 (kvs.map fun kv => keyB kv.1) (fun st => st p = some (.rod kvs)) (Itk p u ws) where
  stop := fun i H st h e rs o => ⟨e.f _ _ _ g, by rw [r.length]; simpa using h⟩
  go := fun i H st h e rs o => ⟨e.f _ _ _ g, by rw [r.length]; simpa using h⟩
  yld := fun i H st x H' h e rs o y => by
    obtain ⟨rfl, k, v, hk, rfl⟩ := y
    obtain ⟨d, hd, _⟩ := r.getV hk
    exact ⟨keyB k, by simp [hd], keyB_rel k, fun b u z => z⟩
theorem di_keys {tg e : Expr} {m : ME} (he : DE X e m) : DI X tg e (wKeys m) :=
  ⟨pi_mono (pi_keys he.pe) fun σ H R ⟨env, st, Q0, re, rs, h, k⟩ => by
    refine lift_in re rs h fun x st1 x' H1 ⟨p, kvs, e, e2, q⟩ ex rx re1 rs1 => ?_
    subst e
    cases rx
    obtain ⟨ws, u, g, r⟩ := rs1 _ _ e2
    exact ⟨p, u, rfl, .inl ⟨ws, g, k _ _ st1 _ H1 q ex rs1 (src_keys g r)⟩⟩⟩
end

/-! ### a def of the text -/
/-- what is wanted behind a body -/
def endsOf (Q : DK) : DEnds := { nx := fun _ st => ∃ st2, Sub st2 st ∧ Q .non st2, rt := fun d st => ∃ st2, Sub st2 st ∧ Q d st2 }
def startE (N : Nat) (ds : List D) : Env := ds.map some ++ List.replicate (N - ds.length) none
/-- a def keeps its promise: t its body's reading -/
structure Keeps (n N : Nat) (sp : DSp) (t : MS) : Prop where
  len : ∀ ds st Q, sp ds st Q → ds.length = n
  run : ∀ ds st Q, sp ds st Q → t (endsOf Q) (startE N ds) st
theorem keeps_use {K : PySem.W.Frag} {n : Nat} {N : List Str} {sp : DSp} {t : MS} (h : Keeps n N.length sp t) {vs : List V} {H : Hp} {Q : VK} {E : XK} (hs : liftSp K sp vs H Q E) :
    liftS K t { nx := fun _ H' => Q .non H', rt := Q } (start N vs) H := by
  obtain ⟨ds, st, Q0, r, rs, hsp, k⟩ := hs
  refine ⟨startE N.length ds, st, endsOf Q0, .start N r, rs, h.run ds st Q0 hsp, ?_, ?_, ?_, ?_⟩
  · exact fun env' st' σ' H' ⟨st2, s, q⟩ e re' rs' => k _ st2 _ H' q e .non (rs'.sub s)
  · exact fun d st' v H' ⟨st2, s, q⟩ e r rs' => k _ st2 _ H' q e r (rs'.sub s)
  · exact fun _ _ _ _ q => q.elim
  · exact fun _ _ _ _ q => q.elim
theorem keeps_len {K : PySem.W.Frag} {n N : Nat} {sp : DSp} {t : MS} (h : Keeps n N sp t) {vs : List V} {H : Hp} {Q : VK} {E : XK} (hs : liftSp K sp vs H Q E) : vs.length = n := by
  obtain ⟨ds, st, Q0, r, rs, hsp, k⟩ := hs
  rw [← r.length]
  exact h.len _ _ _ hsp
end L2.DL

namespace L2.DL
open PySem PySem.Spec PyProof.Rows

/-! ### texts in their order -/
def ltS (x y : Str) : Bool := decide (x.cps.toList < y.cps.toList)
def leS (x y : Str) : Bool := !ltS y x
theorem str_ext {x y : Str} (h : x.cps.toList = y.cps.toList) : x = y := Str.ext' (Array.toList_inj.mp h)
theorem ltS_irrefl (x : Str) : ltS x x = false := by
  unfold ltS
  exact decide_eq_false (List.lt_irrefl _)
theorem ltS_trans {x y z : Str} (h : ltS x y = true) (k : ltS y z = true) : ltS x z = true := by
  unfold ltS at *
  exact decide_eq_true (List.lt_trans (of_decide_eq_true h) (of_decide_eq_true k))
theorem ltS_asymm {x y : Str} (h : ltS x y = true) : ltS y x = false := by
  cases e : ltS y x with
  | false => rfl
  | true => have := ltS_trans h e; rw [ltS_irrefl] at this; cases this
theorem ltS_tri {x y : Str} (h : ltS x y = false) (k : ltS y x = false) : x = y := by
  unfold ltS at *
  apply str_ext
  exact List.le_antisymm (List.not_lt.mp (of_decide_eq_false k)) (List.not_lt.mp (of_decide_eq_false h))
theorem leS_total (x y : Str) : (leS x y || leS y x) = true := by
  unfold leS
  cases e : ltS y x with
  | false => rfl
  | true => rw [ltS_asymm e]; rfl
theorem leS_trans {x y z : Str} (h : leS x y = true) (k : leS y z = true) : leS x z = true := by
  unfold leS at *
  cases e : ltS z x with
  | false => rfl
  | true =>
    exfalso
    have h1 : ltS y x = false := by simpa using h
    have h2 : ltS z y = false := by simpa using k
    cases e3 : ltS x y with
    | true =>
      have := ltS_trans e e3
      rw [h2] at this; cases this
    | false =>
      have := ltS_tri e3 h1
      subst this
      rw [h2] at e; cases e
theorem leS_antisymm {x y : Str} (h : leS x y = true) (k : leS y x = true) : x = y := by
  unfold leS at *
  exact ltS_tri (by simpa using k) (by simpa using h)
/-- a list sorted by text keys -/
def sortBy {α : Type} (f : α → Str) (l : List α) : List α := l.mergeSort fun x y => leS (f x) (f y)
theorem sortBy_perm {α : Type} (f : α → Str) (l : List α) : (sortBy f l).Perm l := List.mergeSort_perm ..
theorem sortBy_sorted {α : Type} (f : α → Str) (l : List α) : (sortBy f l).Pairwise fun x y => leS (f x) (f y) = true :=
  List.pairwise_mergeSort (le := fun x y => leS (f x) (f y)) (fun a b c h k => leS_trans h k) (fun a b => leS_total _ _) l
/-- two sorted rearrangements of one another with unlike keys are one -/
theorem sorted_uniq {α : Type} {f : α → Str} : ∀ {l m : List α}, l.Perm m → l.Pairwise (fun x y => leS (f x) (f y) = true) → m.Pairwise (fun x y => leS (f x) (f y) = true) → (∀ x ∈ l, ∀ y ∈ l, f x = f y → x = y) → l = m
  | [], m, p, _, _, _ => (List.nil_perm.mp p).symm ▸ rfl
  | x :: l, m, p, s, t, u => by
    cases m with
    | nil => exact absurd p.length_eq (by simp)
    | cons y m =>
      have hx : x ∈ y :: m := p.mem_iff.mp (List.mem_cons_self ..)
      have hy : y ∈ x :: l := p.mem_iff.mpr (List.mem_cons_self ..)
      have h1 : leS (f x) (f y) = true := by
        rcases List.mem_cons.mp hy with e | e
        · subst e
          unfold leS
          rw [ltS_irrefl]
          rfl
        · exact (List.pairwise_cons.mp s).1 y e
      have h2 : leS (f y) (f x) = true := by
        rcases List.mem_cons.mp hx with e | e
        · subst e
          unfold leS
          rw [ltS_irrefl]
          rfl
        · exact (List.pairwise_cons.mp t).1 x e
      have e := u x (List.mem_cons_self ..) y hy (leS_antisymm h1 h2)
      subst e
      rw [sorted_uniq (List.Perm.cons_inv p) (List.pairwise_cons.mp s).2 (List.pairwise_cons.mp t).2 fun a ha b hb => u a (List.mem_cons_of_mem _ ha) b (List.mem_cons_of_mem _ hb)]
theorem sortBy_eq {α : Type} {f : α → Str} {l m : List α} (p : m.Perm l) (s : m.Pairwise fun x y => leS (f x) (f y) = true) (u : ∀ x ∈ l, ∀ y ∈ l, f x = f y → x = y) : m = sortBy f l :=
  sorted_uniq (p.trans (sortBy_perm f l).symm) s (sortBy_sorted f l) fun a ha b hb => u a (p.mem_iff.mp ha) b (p.mem_iff.mp hb)
theorem ltCps_ltS (x y : Str) : ltCps x.cps.toList y.cps.toList = ltS x y := by
  unfold ltS
  have go : ∀ a b : List Nat, ltCps a b = decide (a < b) := by
    intro a
    induction a with
    | nil =>
      intro b
      cases b with
      | nil => simp [ltCps]
      | cons c b => simp [ltCps]
    | cons c a ih =>
      intro b
      cases b with
      | nil => simp [ltCps]
      | cons d b =>
        simp only [ltCps, ih, List.cons_lt_cons_iff]
        by_cases h : c < d
        · simp [h]
        · by_cases e : c = d
          · subst e; simp
          · have h2 : d < c := by omega
            simp [h, e]
  exact go _ _
theorem sortedS_pair : ∀ {l : List Str}, sortedS l = true → l.Pairwise fun x y => leS x y = true
  | [], _ => .nil
  | x :: l, h => by
    have go : ∀ (l : List Str) (p : Str), risingS p l = true → (∀ y ∈ l, leS p y = true) ∧ l.Pairwise fun x y => leS x y = true := by
      intro l
      induction l with
      | nil => exact fun p _ => ⟨fun y hy => (by cases hy), List.Pairwise.nil⟩
      | cons z l ih =>
        intro p h
        simp only [risingS, Bool.and_eq_true] at h
        obtain ⟨h1, h2⟩ := h
        rw [ltCps_ltS] at h1
        have hp : leS p z = true := h1
        obtain ⟨i1, i2⟩ := ih z h2
        refine ⟨fun y hy => ?_, List.pairwise_cons.mpr ⟨i1, i2⟩⟩
        rcases List.mem_cons.mp hy with e | e
        · subst e; exact hp
        · exact leS_trans hp (i1 y e)
    obtain ⟨a, b⟩ := go l x h
    exact List.pairwise_cons.mpr ⟨a, b⟩
theorem sortedS_eq {l m : List Str} (p : m.Perm l) (h : sortedS m = true) : m = sortBy id l := sortBy_eq p (sortedS_pair h) fun x _ y _ e => e

/-! ### sorted, of tuples that begin with unlike texts -/
end L2.DL
namespace SrtK
open PySem PySem.Calls PyProof.Rows SrtO
section
variable {prog : Program} {w : World} {A : Around} {E : Value → Shared → Prop} {s : Shared}
/-- a tuple that begins with a text -/
def Hd (h : Heap) (v : Value) (k : Str) : Prop := ∃ a o t rest n, v = .ref a ∧ h.get? a = some o ∧ o.cls = .type "tuple" ∧ o.data = .seq (Value.str k t :: rest).toArray n
theorem Hd.keeps {h h' : Heap} {v : Value} {k : Str} (p : Hd h v k) (g : ∀ b o, h.get? b = some o → o.cls = .type "tuple" → h'.get? b = some o) : Hd h' v k := by
  obtain ⟨a, o, t, rest, n, e, ho, hc, hd⟩ := p
  exact ⟨a, o, t, rest, n, e, g _ _ ho hc, hc, hd⟩
theorem lex_same {Q : Bool → Shared → Prop} {b fin : Bool} : ∀ (l : List Value) (i : Nat), Q fin s → PySem.W.KatLex prog w A b fin Q (l.zip l) i s
  | [], _, h => PySem.W.kat_nil h
  | v :: l, i, h => by
    rw [List.zip_cons_cons]
    refine PySem.W.kat_cons (SeqAt.EqAt.same v prog w _ _ ?_)
    exact PySem.W.kat_yes (lex_same l (i + 1) h)
theorem hd_cmp {vs : List Value} {k : Value → Str} (hp : ∀ v ∈ vs, Hd s.heap v (k v)) (hi : ∀ v ∈ vs, ∀ u ∈ vs, k v = k u → v = u) : Cmp prog w A s (tuples' true) (fun p => p.1 ∈ vs) (lt2 fun v u => L2.DL.ltS (k v) (k u)) := by
  intro p q hm hm'
  have h1 := hp _ hm
  have h2 := hp _ hm'
  show wpAny (model prog w) A (keyLt' (tuples' true) p.1 q.1) (fun r s' => s' = s ∧ r = L2.DL.ltS (k p.1) (k q.1)) (fun _ _ => False) s
  by_cases he : k p.1 = k q.1
  · have e := hi _ hm _ hm' he
    rw [← e, L2.DL.ltS_irrefl]
    obtain ⟨a, o, t, rest, n, e1, ho, hc, hd⟩ := h1
    rw [e1]
    refine PySem.W.kat_lt ho hd ho hd ?_
    refine lex_same _ 0 ?_
    exact ⟨rfl, by simp⟩
  · generalize k p.1 = x at h1 he ⊢
    generalize k q.1 = y at h2 he ⊢
    obtain ⟨a, o, t, rest, n, e1, ho, hc, hd⟩ := h1
    obtain ⟨a', o', t', rest', n', e1', ho', hc', hd'⟩ := h2
    rw [e1, e1']
    refine PySem.W.kat_lt ho hd ho' hd' ?_
    show PySem.W.KatLex prog w A true _ _ ((Value.str x t :: rest).zip (Value.str y t' :: rest')) 0 s
    rw [List.zip_cons_cons]
    refine PySem.W.kat_cons (SeqAt.EqAt.str_str x t y t' prog w _ _ ?_)
    have e2 : (x == y) = false := by simpa using he
    rw [e2]
    exact PySem.W.kat_no (oneLt_str ⟨rfl, rfl⟩)
theorem firsts_of {h : Heap} {k : Value → Str} : ∀ {vs : List Value}, (∀ v ∈ vs, Hd h v (k v)) → ∃ fs : List Value, PySem.W.KatTups h vs fs ∧ fs.length = vs.length ∧ ∀ f ∈ fs, ∃ x t, f = Value.str x t
  | [], _ => ⟨[], PySem.W.KatTups.nil, rfl, fun _ hm => by simp at hm⟩
  | v :: vs, hp => by
    obtain ⟨fs, h1, h2, h3⟩ := firsts_of (vs := vs) fun v' hm => hp v' (List.mem_cons_of_mem _ hm)
    obtain ⟨a, o, t, rest, n, e, ho, hc, hd⟩ := hp v (List.mem_cons_self ..)
    generalize k v = kv at hd
    subst e
    refine ⟨.str kv t :: fs, PySem.W.KatTups.cons ho hc hd (by simp) h1, by rw [List.length_cons, List.length_cons, h2], fun f hm => ?_⟩
    rcases List.mem_cons.mp hm with rfl | hm
    · exact ⟨kv, t, rfl⟩
    · exact h3 f hm
theorem hd_sortable {a : Addr} {vs : List Value} {k : Value → Str} (h0 : 0 < vs.length) (hp : ∀ v ∈ vs, Hd s.heap v (k v)) (hi : ∀ v ∈ vs, ∀ u ∈ vs, k v = k u → v = u) (ha : ∀ o, s.heap.get? a = some o → o.cls ≠ .type "tuple") : SortableO prog w A s a vs fun v u => L2.DL.ltS (k v) (k u) := by
  intro h' keep
  have hp' : ∀ v ∈ vs, Hd h' v (k v) := fun v hm => (hp v hm).keeps fun b o e c => keep b o (fun z => by subst z; exact ha o e c) e
  obtain ⟨fs, h1, h2, h3⟩ := firsts_of hp'
  refine ⟨tuples' true, fun Q E hq => ?_, hd_cmp hp' hi⟩
  refine PySem.W.kat_kind (T := .type "str") h1 (by omega) (fun f hm => ?_) (by rfl) ?_
  · obtain ⟨x, t, rfl⟩ := h3 f hm
    exact PySem.W.Looks.now
  · have e : (Value.type "str" != Value.type "tuple") = true := by first | decide +kernel | rfl | decide
    rw [e]
    exact hq
theorem swo_str (k : Value → Str) : Swo fun v u => L2.DL.ltS (k v) (k u) := by
  refine ⟨fun x y h => L2.DL.ltS_asymm h, fun x y z h1 h2 => ?_⟩
  have a : L2.DL.leS (k x) (k y) = true := by unfold L2.DL.leS; rw [h1]; rfl
  have b : L2.DL.leS (k y) (k z) = true := by unfold L2.DL.leS; rw [h2]; rfl
  have c := L2.DL.leS_trans a b
  unfold L2.DL.leS at c
  simpa using c
theorem sorted_hd {l : Addr} {vs : List Value} {k : Value → Str} {Q : Value → Shared → Prop} (hl : s.heap.IsList l vs.toArray) (hz : vs.length ≤ sizeLine) (hp : ∀ v ∈ vs, Hd s.heap v (k v)) (hi : ∀ v ∈ vs, ∀ u ∈ vs, k v = k u → v = u)
    (h : ∀ (h' : Heap) (d : Addr) (out : List Value), Srtd (fun v u => L2.DL.ltS (k v) (k u)) out → Stb (fun v u => L2.DL.ltS (k v) (k u)) out vs → (∀ b o, s.heap.get? b = some o → h'.get? b = some o) → s.heap.objs.size ≤ d → (∃ n, h'.get? d = some (seqObj "list" out.toArray n)) → Q (.ref d) { s with heap := h' }) :
    wpAny (model prog w) A (call (.builtin "sorted") [.ref l]) Q E s := by
  refine sorted_ord (swo_str k) hl hz (fun h2 h₁ a ha kk => ?_) fun out hs hb => ?_
  · refine hd_sortable (s := { s with heap := h₁ }) (by omega) (fun v hm => (hp v hm).keeps fun b o e _ => (kk b o e).2) hi fun o e => ?_
    have e' : some o = some (seqObj "list" vs.toArray 0) := e.symm.trans ha
    cases e'
    intro c
    exact absurd (Value.type.inj c) (by decide)
  · exact h _ _ out hs hb (fun b o e => sortedAll_old e) (Nat.le_succ _) (sortedAll_at s.heap vs out.toArray)
end
end SrtK

namespace L2.DL
open PySem PySem.Spec PyProof.Rows

theorem perm_map_inv {α β : Type} {f : α → β} {l m : List β} (h : l.Perm m) : ∀ (L : List α), m = L.map f → ∃ L' : List α, L'.Perm L ∧ l = L'.map f := by
  induction h with
  | nil =>
    intro L e
    cases L with
    | nil => exact ⟨[], .refl _, rfl⟩
    | cons a L => cases e
  | cons x h ih =>
    intro L e
    cases L with
    | nil => cases e
    | cons a L =>
      simp only [List.map_cons, List.cons.injEq] at e
      obtain ⟨e1, e2⟩ := e
      obtain ⟨L', p, e3⟩ := ih L e2
      exact ⟨a :: L', p.cons a, by simp [e1, e3]⟩
  | swap x y l =>
    intro L e
    cases L with
    | nil => cases e
    | cons a L =>
      cases L with
      | nil => simp at e
      | cons b L =>
        simp only [List.map_cons, List.cons.injEq] at e
        obtain ⟨e1, e2, e3⟩ := e
        exact ⟨b :: a :: L, List.Perm.swap a b L, by simp [e1, e2, e3]⟩
  | trans h1 h2 ih1 ih2 =>
    intro L e
    obtain ⟨L1, p1, e1⟩ := ih2 L e
    obtain ⟨L2, p2, e2⟩ := ih1 L1 e1
    exact ⟨L2, p2.trans p1, e2⟩
theorem nodup_inj {α β : Type} {f : α → β} : ∀ {l : List α}, (l.map f).Nodup → ∀ {a b : α}, a ∈ l → b ∈ l → f a = f b → a = b
  | [], _, _, _, h, _, _ => by cases h
  | x :: l, n, a, b, ha, hb, e => by
    rw [List.map_cons, List.nodup_cons] at n
    rcases List.mem_cons.mp ha with e1 | ha
    · subst e1
      rcases List.mem_cons.mp hb with e2 | hb
      · exact e2.symm
      · exact absurd (List.mem_map.mpr ⟨b, hb, e.symm⟩) n.1
    · rcases List.mem_cons.mp hb with e2 | hb
      · exact absurd (List.mem_map.mpr ⟨a, ha, by rw [e, e2]⟩) n.1
      · exact nodup_inj n.2 ha hb e
/-- a pair's datum: a text and what follows -/
def pairD (p : Str × List D) : D := .tup (.str p.1 :: p.2)
/-- the values of a list, each with its pair -/
theorem zip_rel {K : PySem.W.Frag} {H : Hp} : ∀ {ps : List (Str × List D)} {vs : List V} {us : List Value}, RelDs K H (ps.map pairD) vs → Vals vs us →
    ∃ L : List (Value × (Str × List D)), L.map (·.1) = us ∧ L.map (·.2) = ps ∧ ∀ q ∈ L, ∃ t, q.1 = Value.ref t ∧ RelD K H (pairD q.2) (.ref t)
  | [], _, _, .nil, .nil => ⟨[], rfl, rfl, fun _ h => by cases h⟩
  | p :: ps, _, _, .cons r t, .cons rv tv => by
    obtain ⟨L, e1, e2, h⟩ := zip_rel t tv
    obtain ⟨a, ws, rfl, _, _⟩ := r.tup_of
    cases rv
    refine ⟨(Value.ref a, p) :: L, by simp [e1], by simp [e2], fun q hq => ?_⟩
    rcases List.mem_cons.mp hq with rfl | hq
    · exact ⟨a, rfl, r⟩
    · exact h q hq
theorem rel_unzip {K : PySem.W.Frag} {H : Hp} : ∀ {L : List (Value × (Str × List D))}, (∀ q ∈ L, ∃ t, q.1 = Value.ref t ∧ RelD K H (pairD q.2) (.ref t)) →
    ∃ vs, RelDs K H ((L.map (·.2)).map pairD) vs ∧ Vals vs (L.map (·.1))
  | [], _ => ⟨[], .nil, .nil⟩
  | q :: L, h => by
    obtain ⟨vs, r, t⟩ := rel_unzip (L := L) fun q' hq => h q' (List.mem_cons_of_mem _ hq)
    obtain ⟨a, e, r1⟩ := h q (List.mem_cons_self ..)
    exact ⟨.ref a :: vs, .cons r1 r, .cons e t⟩
/-- sorted(x): a dict's text keys; a list of texts; a list of tuples that begin with unlike texts -/
def oSorted : MC
  | [.ref a], st, Q => (∃ kvs ks, rdD (st a) = some kvs ∧ kvs.map (·.1) = ks.map Sum.inr ∧ ks.length < 64 ∧ ∀ p, Nf st p → Q (.ref p) (put st p (.lst ((sortBy id ks).map D.str)))) ∨
      (∃ ks, rdL (st a) = some (ks.map D.str) ∧ ks.length < 64 ∧ ∀ p, Nf st p → Q (.ref p) (put st p (.lst ((sortBy id ks).map D.str)))) ∨
      (∃ ps, rdL (st a) = some (ps.map pairD) ∧ (ps.map (·.1)).Nodup ∧ ∀ p, Nf st p → Q (.ref p) (put st p (.lst ((sortBy (·.1) ps).map pairD))))
  | _, _, _ => False
section
variable {X : Cx}
theorem sorted_hdV {pins : List (Addr × Obj)} {s : Shared} {σ : L2.St} {H : Hp} {a : Addr} {st : Sto} {ps : List (Str × List D)} {Q : VK} (I : Inv X pins σ H s) (rs : RelSto X.K H st) (e : rdL (st a) = some (ps.map pairD)) (nd : (ps.map (·.1)).Nodup)
    (h : ∀ p vs, H p = none → RelDs X.K H ((sortBy (·.1) ps).map pairD) vs → Q (.ref p) (upd H p (.lst vs))) :
    wpAny (model X.prog X.w) X.A (call (.builtin "sorted") [.ref a]) (EP X pins σ Q) X.xe s := by
  obtain ⟨vs, g, r⟩ := rs.rdL e
  obtain ⟨its, rv, hl, hz⟩ := I.list g
  obtain ⟨L, e1, e2, hL⟩ := zip_rel r rv
  have inj : ∀ q ∈ L, ∀ q' ∈ L, q.1 = q'.1 → q.2.1 = q'.2.1 := fun q hq q' hq' e => by
    obtain ⟨t, e3, r3⟩ := hL q hq
    obtain ⟨t', e4, r4⟩ := hL q' hq'
    rw [e, e4] at e3
    cases e3
    obtain ⟨b, ws, eb, g1, s1⟩ := r3.tup_of
    cases eb
    obtain ⟨b', ws', eb', g2, s2⟩ := r4.tup_of
    cases eb'
    have ew := I.tuple_inj g1 g2
    subst ew
    generalize q.2 = x at s1 ⊢
    generalize q'.2 = y at s2 ⊢
    obtain ⟨x1, x2⟩ := x
    obtain ⟨y1, y2⟩ := y
    cases s1 with
    | cons s1 _ =>
      cases s2 with
      | cons s2 _ =>
        have a1 := s1.str_of
        have a2 := s2.str_of
        rw [a1] at a2
        exact V.str.inj a2
  obtain ⟨k, hk⟩ : ∃ k : Value → Str, ∀ q ∈ L, k q.1 = q.2.1 := by
    classical
    refine ⟨fun u => if h : ∃ q, q ∈ L ∧ q.1 = u then (Classical.choose h).2.1 else Str.empty, fun q hq => ?_⟩
    have ex : ∃ q', q' ∈ L ∧ q'.1 = q.1 := ⟨q, hq, rfl⟩
    simp only [dif_pos ex]
    obtain ⟨c1, c2⟩ := Classical.choose_spec ex
    exact inj _ c1 _ hq c2
  have ndL : (L.map fun q => q.2.1).Nodup := by
    have : (L.map fun q => q.2.1) = ps.map (·.1) := by rw [← e2, List.map_map]; rfl
    rw [this]
    exact nd
  refine SrtK.sorted_hd (k := k) hl.isList (by rw [← rv.length]; exact hz) (fun v hv => ?_) (fun v hv u hu ek => ?_) fun h' d out h1 h2 kp hd hn => ?_
  · rw [← e1] at hv
    obtain ⟨q, hq, rfl⟩ := List.mem_map.mp hv
    rw [hk q hq]
    obtain ⟨t, e3, r3⟩ := hL q hq
    obtain ⟨b, ws, eb, g1, s1⟩ := r3.tup_of
    cases eb
    cases s1 with
    | cons s1 s2 =>
      cases s1
      obtain ⟨its2, rv2, ⟨o, ho, hc, n, hd⟩, _⟩ := I.tuple g1
      cases rv2 with
      | cons q1 q2 =>
        obtain ⟨tk, rfl⟩ := q1
        exact ⟨t, o, tk, _, n, e3, ho, hc, hd⟩
  · rw [← e1] at hv hu
    obtain ⟨q, hq, rfl⟩ := List.mem_map.mp hv
    obtain ⟨q', hq', rfl⟩ := List.mem_map.mp hu
    rw [hk q hq, hk q' hq'] at ek
    exact congrArg (·.1) (nodup_inj ndL hq hq' ek)
  · obtain ⟨L', pL, eL⟩ := perm_map_inv h2.perm L e1.symm
    obtain ⟨n, hn⟩ := hn
    obtain ⟨ws, rD, rV⟩ := rel_unzip (L := L') fun q hq => hL q (pL.mem_iff.mp hq)
    rw [← eL] at rV
    have es : L'.map (·.2) = sortBy (·.1) ps := by
      refine sortBy_eq ?_ ?_ fun x hx y hy e => nodup_inj nd hx hy e
      · rw [← e2]
        exact pL.map _
      · rw [List.pairwise_map]
        have h1' : out.Pairwise fun x y => leS (k x) (k y) = true := h1.imp fun {x y} (hxy : ltS (k y) (k x) = false) => by unfold leS; rw [hxy]; rfl
        rw [eL, List.pairwise_map] at h1'
        refine h1'.imp_of_mem fun {x y} hx hy hxy => ?_
        rw [hk x (pL.mem_iff.mp hx), hk y (pL.mem_iff.mp hy)] at hxy
        exact hxy
    rw [es] at rD
    refine ⟨.ref d, upd H d (.lst ws), I.laid (t' := s.toks) kp hd ⟨?_, out, n, rV, hn⟩, rfl, h d ws (I.hok.fresh hd) rD⟩
    have l1 := rV.length
    have l2 := h2.perm.length_eq
    have l3 := rv.length
    omega
theorem callr_or {f : Value} {r r' : List V → Hp → VK → Prop} (h : CallR X f r) (h' : CallR X f r') : CallR X f (fun xs H Q => r xs H Q ∨ r' xs H Q) := h.or h'
theorem dc_sorted (hc : X.calm = true) : DC X (.builtin "sorted") oSorted := by
  refine ⟨fun pins s σ H xs us Q I rx ⟨ds, st, Q0, rd, rs, h, k⟩ => ?_⟩
  unfold oSorted at h
  split at h
  · cases rd with
    | cons r t =>
      cases t; cases r
      rcases h with ⟨kvs, ks, e, ek, hl, h⟩ | ⟨ks, e, hl, h⟩ | ⟨ps, e, nd, h⟩
      · obtain ⟨ws, g, rk⟩ := rs.rdD e
        refine call_sortedD hc pins s σ H _ us Q I rx ⟨_, ws, ks, rfl, g, by rw [rk.keys]; exact ek, hl, fun ys p hp hs hn => ?_⟩
        have ey := sortedS_eq hp hs
        subst ey
        have ex : Ext H (upd H p (.lst ((sortBy id ks).map V.str))) := .upd_new hn
        exact k _ _ _ _ (h p (rs.fresh hn)) ex (.ref p) (rs.put (o := .lst ((sortBy id ks).map D.str)) ex ⟨_, upd_same, .of_strs _⟩)
      · obtain ⟨ws, g, r⟩ := rs.rdL e
        have ew := r.strs
        subst ew
        refine cr_sortedS pins s σ H _ us Q I rx ⟨_, ks, rfl, g, hl, fun ys p hp hs hn => ?_⟩
        have ey := sortedS_eq hp hs
        subst ey
        have ex : Ext H (upd H p (.lst ((sortBy id ks).map V.str))) := .upd_new hn
        exact k _ _ _ _ (h p (rs.fresh hn)) ex (.ref p) (rs.put (o := .lst ((sortBy id ks).map D.str)) ex ⟨_, upd_same, .of_strs _⟩)
      · cases rx with
        | cons rv rt =>
          cases rt
          cases rv
          refine sorted_hdV I rs e nd fun p vs hn r => ?_
          have ex : Ext H (upd H p (.lst vs)) := .upd_new hn
          exact k _ _ _ _ (h p (rs.fresh hn)) ex (.ref p) (rs.put (o := .lst ((sortBy (·.1) ps).map pairD)) ex ⟨_, upd_same, r.mono ex⟩)
  · exact h.elim

/-! ### isinstance of built-in classes -/
def tyD (st : Sto) : D → Option String
  | .non => some "NoneType"
  | .bl _ => some "bool"
  | .int _ => some "int"
  | .str _ => some "str"
  | .tup _ => some "tuple"
  | .ref a => (match st a with
    | some (.lst _) => some "list"
    | some (.dic _) => some "dict"
    | some (.rod _) => some "dict"
    | _ => none)
  | .ty _ => none
def isiB (t n : String) : Bool := t == n || (t == "bool" && n == "int")
def tyNames : List String := ["NoneType", "bool", "int", "str", "tuple", "list", "dict"]
theorem kit_all : ∀ t ∈ tyNames, ∀ n ∈ ["int", "str", "bool", "tuple", "list", "dict"], kitB t n = some (isiB t n) := by decide +kernel
theorem tyD_mem {st : Sto} {d : D} {t : String} (h : tyD st d = some t) : t ∈ tyNames := by
  unfold tyD at h
  split at h <;> try (simp only [Option.some.injEq] at h; subst h; decide)
  · split at h <;> simp only [Option.some.injEq, reduceCtorEq] at h <;> subst h <;> decide
  · cases h
theorem tyD_rel {K : PySem.W.Frag} {H : Hp} {st : Sto} {d : D} {v : V} {t : String} (rs : RelSto K H st) (r : RelD K H d v) (h : tyD st d = some t) : TyX K H v (.type t) := by
  cases d with
  | non => cases r; simp only [tyD, Option.some.injEq] at h; subst h; exact .base .non
  | bl b => cases r; simp only [tyD, Option.some.injEq] at h; subst h; exact .base (.bl b)
  | int b => cases r; simp only [tyD, Option.some.injEq] at h; subst h; exact .base (.int b)
  | str b => cases r; simp only [tyD, Option.some.injEq] at h; subst h; exact .base (.str b)
  | ty n => simp [tyD] at h
  | tup ds =>
    simp only [tyD, Option.some.injEq] at h; subst h
    obtain ⟨a, vs, rfl, g, _⟩ := r.tup_of
    rcases g with (g | ⟨o, g⟩) | ⟨o, its, n, hk, hc, _⟩
    · exact .base (.tup g)
    · exact .fTuple g
    · exact .kTuple hk hc
  | ref a =>
    cases r
    simp only [tyD] at h
    split at h
    · rename_i xs e
      simp only [Option.some.injEq] at h; subst h
      obtain ⟨vs, g, _⟩ := rs _ _ e
      exact .base (.lst g)
    · rename_i xs e
      simp only [Option.some.injEq] at h; subst h
      obtain ⟨vs, g, _⟩ := rs _ _ e
      exact .base (.dK g)
    · rename_i xs e
      simp only [Option.some.injEq] at h; subst h
      obtain ⟨vs, u, g, _⟩ := rs _ _ e
      exact .fDict g
    · cases h
def oIsi : MC
  | [x, .ty n], st, Q => n ∈ ["int", "str", "bool", "tuple", "list", "dict"] ∧ ∃ t, tyD st x = some t ∧ Q (.bl (isiB t n)) st
  | _, _, _ => False
theorem dc_isi : DC X (.builtin "isinstance") oIsi :=
  ⟨callr_mono call_isi fun xs H Q ⟨ds, st, Q0, rx, rs, h, k⟩ => by
    unfold oIsi at h
    split at h
    · cases rx with
      | cons r t =>
        cases t with
        | cons r2 t =>
          cases t; cases r2
          obtain ⟨hn, t, ht, h⟩ := h
          exact ⟨_, _, .type t, .type _, isiB t _, rfl, .ty _, tyD_rel rs r ht, kit_ty (kit_all t (tyD_mem ht) _ hn), k _ st _ H h .refl (.bl _) rs⟩
    · exact h.elim⟩
/-- isinstance(x, (T, ..)) -/
theorem kitAny_ty {K : PySem.W.Frag} {t : String} (ht : t ∈ tyNames) : ∀ {ns : List String}, (∀ n ∈ ns, n ∈ ["int", "str", "bool", "tuple", "list", "dict"]) → PySem.W.kitAny K (.type t) (ns.map Value.type) = some (ns.any (isiB t))
  | [], _ => kitAny_nil
  | n :: ns, h => by
    have h1 := kit_all t ht n (h n (List.mem_cons_self ..))
    have ih := kitAny_ty (K := K) ht (ns := ns) fun m hm => h m (List.mem_cons_of_mem _ hm)
    rw [List.map_cons, List.any_cons]
    refine kitAny_cons (kit_ty h1) (fun e => ?_) (fun e => by rw [e]; rfl)
    rw [e, Bool.false_or]
    exact ih
structure DTys (X : Cx) (es : List Expr) (ns : List String) : Prop where
  pa : PA X es (fun σ H Q => Q (ns.map V.ty) H)
theorem dtys_nil : DTys X [] [] := ⟨pa_nil⟩
theorem dtys_cons {e : Expr} {es : List Expr} {n : String} {ns : List String} (he : PE X e (tC (.ty n))) (hr : DTys X es ns) (hs : starEach (e :: es) X.env = (false, eval e X.env) :: starEach es X.env := by rfl) : DTys X (e :: es) (n :: ns) :=
  ⟨pa_mono (pa_cons he hr.pa hs) fun σ H Q h => h⟩
theorem pe_tyN {x : Str} {n : String} {pos : Pos} (hg : Gl X x) (hm : X.mg x = none) (hv : bootBuiltins x = some (.type n)) (hn : x ≠ "__name__" := by decide) (hd : (x == ("__debug__" : Str)) = false := by decide) : PE X (.Name x pos) (tC (.ty n)) := pe_bltn hg hm hv rfl hn hd
def mIsi (ns : List String) (m : ME) : ME := fun env st Q => m env st fun x st1 => ∃ t, tyD st1 x = some t ∧ Q (.bl (ns.any (isiB t))) st1
theorem paired_tys : ∀ ns : List String, Paired ClsV (ns.map V.ty) (ns.map Value.type)
  | [] => .nil
  | n :: ns => .cons (.ty n) (paired_tys ns)
theorem de_isiT {e : Expr} {es : List Expr} {m : ME} {ns : List String} {p pos tpos : Pos} {k1 : Nat} (hns : ∀ n ∈ ns, n ∈ ["int", "str", "bool", "tuple", "list", "dict"]) (hlen : ns.length ≤ 100) (hg : Gl X "isinstance") (hm : X.mg "isinstance" = none) (he : DE X e m) (hes : DTys X es ns)
    (hs : starEach [e, .Tuple es k1 tpos] X.env = (false, eval e X.env) :: starEach [.Tuple es k1 tpos] X.env := by rfl) (hs2 : starEach [.Tuple es k1 tpos] X.env = (false, eval (.Tuple es k1 tpos) X.env) :: starEach [] X.env := by rfl) (hpl : (backTo pos (starEach [.Tuple es k1 tpos] X.env)).any (·.1) = false := by rfl) :
    DE X (.Call (.Name "isinstance" p) [e, .Tuple es k1 tpos] [] pos) (mIsi ns m) :=
  ⟨pe_mono (pe_callB (call_isiT (X := X)) hg hm boot_isinstance (pa_cons he.pe (pa_cons (pe_tup hes.pa) pa_nil hs2) hs) (by decide) (by decide) hs hpl) fun σ H Q ⟨env, st, Q0, re, rs, h, k⟩ => by
    refine lift_in re rs h fun x st1 x' H1 ⟨t, ht, q⟩ ex rx re1 rs1 => ?_
    refine ⟨by rw [List.length_map]; exact Nat.le_trans hlen (by decide), fun q1 hq => ?_⟩
    have ex2 : Ext H1 (upd H1 q1 (.tup (ns.map V.ty))) := .upd_new hq
    exact ⟨x', q1, ns.map V.ty, .type t, ns.map Value.type, ns.any (isiB t), rfl, upd_same, paired_tys ns, tyD_rel (rs1.new hq) (rx.mono ex2) ht, kitAny_ty (tyD_mem ht) hns, k _ st1 _ _ q (ex.trans ex2) (.bl _) (rs1.new hq)⟩⟩

/-! ### small rules for the printed derivations -/
theorem dv (i : Nat) {x : Str} {pos : Pos} (hN : X.N[i]? = some x := by rfl) (hv : Vis X.env.scope x := by first | exact Or.inl rfl | exact Or.inr (Or.inl rfl) | exact Or.inr (Or.inr rfl)) (hd : (x == ("__debug__" : Str)) = false := by decide)
    (hcd : (x == ("__classdict__" : Str)) = false := by decide) : DE X (.Name x pos) (mVar i) := de_var hN hv hd hcd
theorem de_neg {pos : Pos} {i : Int} {j pos'} : DE X (.UnaryOp .USub (.Constant (.int i) j pos') pos) (mC (.int (-i))) :=
  ⟨pe_mono (pe_un un_neg pe_int) fun σ H Q ⟨env, st, Q0, re, rs, h, k⟩ => ⟨i, rfl, k _ st _ H h .refl (.int _) rs⟩⟩
theorem de_gint {x : Str} {pos : Pos} {i : Int} (hm : ∃ t, X.mg x = some (.int i t)) (hg : Gl X x := by rfl) (hd : (x == ("__debug__" : Str)) = false := by decide) : DE X (.Name x pos) (mC (.int i)) := by
  obtain ⟨t, hm⟩ := hm
  exact de_glob (v := .int i) hg hm ⟨t, rfl⟩ (fun H => .int i) hd
theorem de_gstr {x : Str} {pos : Pos} {z : Str} (hm : ∃ t, X.mg x = some (.str z t)) (hg : Gl X x := by rfl) (hd : (x == ("__debug__" : Str)) = false := by decide) : DE X (.Name x pos) (mC (.str z)) := by
  obtain ⟨t, hm⟩ := hm
  exact de_glob (v := .str z) hg hm ⟨t, rfl⟩ (fun H => .str z) hd
end
/-- a def that may be called: where it stands, what it promises -/
def Cal (P : Program) (w : World) (K : PySem.W.Frag) (mg : Str → Option Value) (base : Heap) (k : Nat) (x : Str) (ps : List Str) (sp : DSp) : Prop :=
  ∃ f fd, mg x = some (.ref f) ∧ PySem.W.keepIn K (.ref f) = true ∧ Binds K fd ps [] ∧ FnOk P w K mg base CX0 k f fd ps (liftSp K sp)
section
variable {X : Cx} {e : Expr} {es : List Expr} {mr : MA} {x : Str} {k j : Nat} {ps : List Str} {sp : DSp} {p pos : Pos}
theorem dcall (C : Cal X.prog X.w X.K X.mg X.base k x ps sp) (hr : Room j X.A) (hj : k ≤ j) (ha : DA X (e :: es) mr) (hg : Gl X x := by rfl) (hdb : (x == ("__debug__" : Str)) = false := by decide) (he : starEach (e :: es) X.env = (false, eval e X.env) :: starEach es X.env := by rfl) (hpl : (backTo pos (starEach es X.env)).any (·.1) = false := by rfl) :
    DE X (.Call (.Name x p) (e :: es) [] pos) (mCall sp mr) := by
  obtain ⟨f, fd, hm, hk, hb, F⟩ := C
  exact de_call F (hr.mono hj) hg hm hk hb ha hdb he hpl
theorem dcall0 (C : Cal X.prog X.w X.K X.mg X.base k x ps sp) (hr : Room j X.A) (hj : k ≤ j) (hg : Gl X x := by rfl) (hdb : (x == ("__debug__" : Str)) = false := by decide) :
    DE X (.Call (.Name x p) [] [] pos) (mCall sp mNil) := by
  obtain ⟨f, fd, hm, hk, hb, F⟩ := C
  exact de_call0 F (hr.mono hj) hg hm hk hb hdb
end
end L2.DL

namespace L2.DL
open PySem PySem.Spec PyProof.Rows

/-! ### calls by keywords alone -/
structure DKw (X : Cx) (kws : List Keyword) (m : MA) : Prop where
  pk : PK X kws (liftA X.K m)
theorem pk_mono {X : Cx} {kws : List Keyword} {t t' : TA} (h : PK X kws t) (k : ∀ σ H Q, t' σ H Q → t σ H Q) : PK X kws t' := ⟨fun pos pins s σ H Q I hw => h.run pos pins s σ H Q I (k _ _ _ hw)⟩
section
variable {X : Cx} {e : Expr} {kws : List Keyword} {ma : ME} {mr : MA} {nm : Option Str} {kpos : Pos}
theorem dk_nil : DKw X [] mNil := ⟨pk_mono pk_nil fun σ H Q ⟨env, st, Q0, re, rs, h, k⟩ => k [] st [] H h .refl .nil rs⟩
theorem dk_cons (ha : DE X e ma) (hr : DKw X kws mr) : DKw X (⟨nm, e, kpos⟩ :: kws) (mCons ma mr) :=
  ⟨pk_mono (pk_cons ha.pe hr.pk) fun σ H Q ⟨env, st, Q0, re, rs, h, k⟩ => by
    refine lift_in re rs h fun x st1 x' H1 q1 e1 rx re1 rs1 => ?_
    refine liftA_in re1 rs1 q1 fun xs st2 xs' H2 q2 e2 rxs re2 rs2 => ?_
    exact k _ st2 _ H2 q2 (e1.trans e2) (.cons (rx.mono e2) rxs) rs2⟩
end
def CalK (P : Program) (w : World) (K : PySem.W.Frag) (mg : Str → Option Value) (base : Heap) (k : Nat) (x : Str) (ps ks : List Str) (idx : List Nat) (sp : DSp) : Prop :=
  ∃ f fd, mg x = some (.ref f) ∧ PySem.W.keepIn K (.ref f) = true ∧ (∀ (s : Shared) (ws : List Value), ws.length = ks.length → BindsTo s fd ⟨[], ks.zip ws⟩ (ps.zip (idx.map fun i => ws.getD i .none))) ∧
    (∀ i ∈ idx, i < ks.length) ∧ idx.length = ps.length ∧ FnOk P w K mg base CX0 k f fd ps (liftSp K sp)
def mCallK (n : Nat) (idx : List Nat) (sp : DSp) (m : MA) : ME := fun env st Q => m env st fun zs st1 => zs.length = n ∧ sp (idx.map fun i => zs.getD i .non) st1 Q
theorem RelDs.pick {K : PySem.W.Frag} {H : Hp} {ds : List D} {vs : List V} (r : RelDs K H ds vs) : ∀ (idx : List Nat), RelDs K H (idx.map fun i => ds.getD i .non) (idx.map fun i => vs.getD i .non)
  | [] => .nil
  | i :: idx => by
    refine .cons ?_ (RelDs.pick r idx)
    show RelD K H (ds.getD i .non) (vs.getD i .non)
    rw [List.getD_eq_getElem?_getD, List.getD_eq_getElem?_getD]
    cases e : ds[i]? with
    | none =>
      have : vs[i]? = none := List.getElem?_eq_none (by rw [← r.length]; exact List.getElem?_eq_none_iff.mp e)
      rw [this]; exact .non
    | some d =>
      obtain ⟨v, h1, h2⟩ := r.get e
      rw [h1]; exact h2
theorem vals_pick {vs : List V} {us : List Value} (r : Vals vs us) : ∀ (idx : List Nat), Vals (idx.map fun i => vs.getD i .non) (idx.map fun i => us.getD i .none)
  | [] => .nil
  | i :: idx => by
    refine .cons ?_ (vals_pick r idx)
    show RelV (vs.getD i .non) (us.getD i .none)
    rw [List.getD_eq_getElem?_getD, List.getD_eq_getElem?_getD]
    cases e : vs[i]? with
    | none =>
      rw [Vals.none_of r e]; rfl
    | some v =>
      obtain ⟨u, h1, h2⟩ := r.get e
      rw [h1]; exact h2
section
variable {X : Cx} {x : Str} {k j n : Nat} {ps ks : List Str} {idx : List Nat} {sp : DSp} {p pos : Pos} {kws : List Keyword} {m : MA}
theorem dcallK (C : CalK X.prog X.w X.K X.mg X.base k x ps ks idx sp) (hr : Room j X.A) (hj : k ≤ j) (hkw : DKw X kws m) (hn : ks.length = n := by rfl) (hg : Gl X x := by rfl) (hdb : (x == ("__debug__" : Str)) = false := by decide)
    (hall : (backToKw pos (keywordEach kws X.env)).all (·.1.isSome) = true := by rfl) (hks : (backToKw pos (keywordEach kws X.env)).filterMap (·.1) = ks := by rfl)
    (hpl : ((backTo pos (starEach [] X.env)).any (·.1) || (backToKw pos (keywordEach kws X.env)).any (·.1.isNone)) = false := by rfl) :
    DE X (.Call (.Name x p) [] kws pos) (mCallK n idx sp m) := by
  obtain ⟨f, fd, hm, hk, hb, hi, hil, F⟩ := C
  refine ⟨⟨fun pins s σ H Q I h => ?_⟩⟩
  refine wpAny_Call_Name_kw (ld_glob I hg hm ?_ hdb)
  obtain ⟨env, st, Q0, re, rs, h, k1⟩ := h
  refine PySem.W.callWith_KW0 (h₀ := X.base) I.ok.mod.kin hk hall ?_ hpl
  have hw : liftA X.K m σ H fun zs H2 => ∃ ds st', RelDs X.K H2 ds zs ∧ RelSto X.K H2 st' ∧ Ext H H2 ∧ ds.length = n ∧ sp (idx.map fun i => ds.getD i .non) st' Q0 :=
    ⟨env, st, _, re, rs, h, fun ds st' zs H2 q e r s => ⟨ds, st', r, s, e, q.1, q.2⟩⟩
  refine thn (hkw.pk.run pos pins s σ H _ I hw) fun ws s2 ⟨zs, H2, I2, rz, ds, st', rd, rs', ex, hl, hsp⟩ => ⟨I2.kIn, ?_⟩
  rw [hks]
  show wpAny _ _ (call (.ref f) ([] ++ []) (ks.zip ws)) _ _ _
  have hzl : zs.length = n := by rw [← rd.length]; exact hl
  have hwl : ws.length = ks.length := by rw [← rz.length, hzl, hn]
  refine wpAny_call (codeAny_mono (F.run X.A X.stack s2 H2 ⟨[], ks.zip ws⟩ _ _ Q E0 (hr.mono hj) I2.env0 (hb s2 ws hwl) (vals_pick rz idx) ⟨_, st', Q0, rd.pick idx, rs', hsp, fun d st2 v H3 q e r s => k1 d st2 v H3 q (ex.trans e) r s⟩) fun r s' hq => ?_)
  cases r with
  | error e => exact hq.elim
  | ok fl =>
    cases fl with
    | ret u => exact I2.after hq
    | next => exact False.elim hq
    | brk => exact False.elim hq
    | cont => exact False.elim hq
end
theorem bindsK {K : PySem.W.Frag} {x qual : Str} {params : Arguments} {body : List Stmt} {scope : Scope} {kws : List (Str × V)} {f : Addr} {fd : FuncData} {ps ks : List Str} {idx : List Nat} (F : FunD K x qual params body scope [] kws f fd)
    (h : ∀ (kV doc pm : Value) (an : Option Addr) (cdv ct : Value) (ws : List Value), ws.length = ks.length → bindArgs (PySem.W.fnOf x qual params body scope .none kV doc pm an cdv ct) ⟨[], ks.zip ws⟩ = pure (ps.zip (idx.map fun i => ws.getD i .none))) (s : Shared) (ws : List Value) (hl : ws.length = ks.length) : BindsTo s fd ⟨[], ks.zip ws⟩ (ps.zip (idx.map fun i => ws.getD i .none)) := by
  obtain ⟨oc, od, dV, kV, doc, pm, an, cdv, ct, osl, rfl, lk, hcd, hD, hK⟩ := F.ex
  rcases hD with ⟨_, rfl⟩ | ⟨e, _⟩
  · exact .of_eq (h kV doc pm an cdv ct ws hl)
  · exact absurd rfl e
end L2.DL
namespace L2.DL
open PySem PySem.Spec PyProof.Rows
/-- the law's def, called with the script -/
theorem law_in {K : PySem.W.Frag} {H : Hp} {a : Addr} {ns : List Int} {sp : DSp} (hl : ns.length ≤ 63) (hS : SqL K H a (ns.map V.int))
    (spec : ∀ a (ns : List Int), ns.length ≤ 63 → sp [.ref a] (put (fun _ => none) a (.rol (ns.map D.int))) (fun d _ => d = .bl true)) : liftSp K sp [.ref a] H (fun v _ => v = .bl true) fun _ _ _ => False := by
  refine ⟨[.ref a], _, _, .cons (.ref a) .nil, fun b o hb => ?_, spec a ns hl, fun d st' v H' e _ r _ => ?_⟩
  · by_cases q : b = a
    · subst q
      rw [put_same] at hb
      cases hb
      exact ⟨_, hS, .of_ints ns⟩
    · rw [put_ne q] at hb; cases hb
  · subst e
    exact r.bl_of
end L2.DL

namespace L2.DL
open PySem PySem.Spec PyProof.Rows

/-! ### readings step by step (no program in sight from here on) -/
section
variable {env : Env} {st : Sto} {Q : DK} {D0 : DEnds}
theorem sSeq_a {t u : MS} : sSeq t u D0 env st = t { nx := u D0, rt := D0.rt, bk := D0.bk, ct := D0.ct } env st := rfl
theorem sNext_a : sNext D0 env st = D0.nx env st := rfl
theorem sBreak_a : sBreak D0 env st = D0.bk env st := rfl
theorem sCont_a : sCont D0 env st = D0.ct env st := rfl
theorem sDrop_a {m : ME} : sDrop m D0 env st = m env st fun _ st1 => D0.nx env st1 := rfl
theorem sRet_a {m : ME} : sRet m D0 env st = m env st D0.rt := rfl
theorem sRetN_a : sRetN D0 env st = D0.rt .non st := rfl
theorem sIf_a {c : MT} {t u : MS} : sIf c t u D0 env st = c env st fun b st1 => if b = true then t D0 env st1 else u D0 env st1 := rfl
theorem sAsg_a {m : ME} {g : MG} : sAsg m g D0 env st = m env st fun d st1 => g d env st1 D0.nx := rfl
theorem sAug_a {i : Nat} {m : ME} {r : M2} {x : D} (h : env[i]? = some (some x)) : sAug i m r D0 env st = m env st fun y st1 => r x y st1 fun z st2 => D0.nx (env.set i (some z)) st2 := by
  unfold sAug
  rw [h]
  simp
theorem ex_pair {α : Type} {x y : α} {P : α → α → Prop} : (∃ v w, [x, y] = [v, w] ∧ P v w) = P x y := by
  apply propext
  constructor
  · rintro ⟨v, w, e, h⟩; cases e; exact h
  · exact fun h => ⟨x, y, rfl, h⟩
theorem ex_three {α : Type} {x y z : α} {P : α → α → α → Prop} : (∃ u v w, [x, y, z] = [u, v, w] ∧ P u v w) = P x y z := by
  apply propext
  constructor
  · rintro ⟨u, v, w, e, h⟩; cases e; exact h
  · exact fun h => ⟨x, y, z, rfl, h⟩
theorem sPar_a {i j : Nat} {a b : ME} : sPar i j (mCons a (mCons b mNil)) D0 env st = a env st fun x st1 => b env st1 fun y st2 => D0.nx ((env.set i (some x)).set j (some y)) st2 := by
  unfold sPar mCons mNil
  simp only [ex_pair]
theorem sPar3_a {i j l : Nat} {a b c : ME} : sPar3 i j l (mCons a (mCons b (mCons c mNil))) D0 env st = a env st fun x st1 => b env st1 fun y st2 => c env st2 fun z st3 => D0.nx (((env.set i (some x)).set j (some y)).set l (some z)) st3 := by
  unfold sPar3 mCons mNil
  simp only [ex_three]
/-- a slot's value -/
def vAt : Option (Option D) → Sto → DK → Prop
  | some (some d), st, Q => Q d st
  | _, _, _ => False
theorem mVar_a {i : Nat} : mVar i env st Q = vAt env[i]? st Q := by
  unfold mVar
  cases e : env[i]? with
  | none => simp [vAt]
  | some o => cases o <;> simp [vAt]
theorem vAt_a {d : D} : vAt (some (some d)) st Q = Q d st := rfl
theorem mC_a {d : D} : mC d env st Q = Q d st := rfl
theorem mBin_a {r : M2} {a b : ME} : mBin r a b env st Q = a env st fun x st1 => b env st1 fun y st2 => r x y st2 Q := rfl
def bAt : D → Sto → (Bool → Sto → Prop) → Prop
  | .bl k, st, Q => Q k st
  | _, _, _ => False
theorem mTest_a {m : ME} {Q : Bool → Sto → Prop} : mTest m env st Q = m env st fun x st1 => bAt x st1 Q := by
  have e : (fun x st1 => ∃ k, x = D.bl k ∧ Q k st1) = fun x st1 => bAt x st1 Q := by
    funext x st1
    cases x <;> simp [bAt]
  unfold mTest
  rw [e]
theorem bAt_a {k : Bool} {Q : Bool → Sto → Prop} : bAt (.bl k) st Q = Q k st := rfl
theorem mAnd_a {t u : MT} {Q : Bool → Sto → Prop} : mAnd t u env st Q = t env st fun c st1 => if c = true then u env st1 Q else Q false st1 := rfl
theorem mOr_a {t u : MT} {Q : Bool → Sto → Prop} : mOr t u env st Q = t env st fun c st1 => if c = true then Q true st1 else u env st1 Q := rfl
theorem mNot_a {t : MT} {Q : Bool → Sto → Prop} : mNot t env st Q = t env st fun c st1 => Q (!c) st1 := rfl
theorem mYes_a {Q : Bool → Sto → Prop} : mYes env st Q = Q true st := rfl
theorem mAndV_a {a b : ME} : mAndV a b env st Q = a env st fun x st1 => bAt x st1 fun c st2 => if c = true then b env st2 Q else Q (.bl false) st2 := by
  have e : (fun x st1 => ∃ c, x = D.bl c ∧ if c = true then b env st1 Q else Q (.bl false) st1) = fun x st1 => bAt x st1 fun c st2 => if c = true then b env st2 Q else Q (.bl false) st2 := by
    funext x st1
    cases x <;> simp [bAt]
  unfold mAndV
  rw [e]
theorem mOrV_a {a b : ME} : mOrV a b env st Q = a env st fun x st1 => bAt x st1 fun c st2 => if c = true then Q (.bl true) st2 else b env st2 Q := by
  have e : (fun x st1 => ∃ c, x = D.bl c ∧ if c = true then Q (.bl true) st1 else b env st1 Q) = fun x st1 => bAt x st1 fun c st2 => if c = true then Q (.bl true) st2 else b env st2 Q := by
    funext x st1
    cases x <;> simp [bAt]
  unfold mOrV
  rw [e]
theorem mNotV_a {a : ME} : mNotV a env st Q = a env st fun x st1 => bAt x st1 fun c st2 => Q (.bl (!c)) st2 := by
  have e : (fun x st1 => ∃ c, x = D.bl c ∧ Q (.bl (!c)) st1) = fun x st1 => bAt x st1 fun c st2 => Q (.bl (!c)) st2 := by
    funext x st1
    cases x <;> simp [bAt]
  unfold mNotV
  rw [e]
theorem mIf_a {t : MT} {a b : ME} : mIf t a b env st Q = t env st fun c st1 => if c = true then a env st1 Q else b env st1 Q := rfl
theorem mNil_a {Q : List D → Sto → Prop} : mNil env st Q = Q [] st := rfl
theorem mCons_a {a : ME} {r : MA} {Q : List D → Sto → Prop} : mCons a r env st Q = a env st fun x st1 => r env st1 fun xs st2 => Q (x :: xs) st2 := rfl
theorem mTup_a {m : MA} : mTup m env st Q = m env st fun xs st1 => xs.length ≤ sizeLine ∧ Q (.tup xs) st1 := rfl
theorem mLst_a {m : MA} : mLst m env st Q = m env st fun xs st1 => xs.length ≤ sizeLine ∧ ∀ p, Nf st1 p → Q (.ref p) (put st1 p (.lst xs)) := rfl
theorem mCall_a {r : MC} {m : MA} : mCall r m env st Q = m env st fun xs st1 => r xs st1 Q := rfl
theorem mCallK_a {n : Nat} {idx : List Nat} {sp : DSp} {m : MA} : mCallK n idx sp m env st Q = m env st fun zs st1 => zs.length = n ∧ sp (idx.map fun i => zs.getD i .non) st1 Q := rfl
theorem mMeth_a {ty : D → Sto → Prop} {r : MM} {mo : ME} {ma : MA} : mMeth ty r mo ma env st Q = mo env st fun x st1 => ty x st1 ∧ ma env st1 fun xs st2 => r x xs st2 Q := rfl
theorem mSl_a {m : ME} {ml mh : MO} : mSl m ml mh env st Q = m env st fun x st1 => ml env st1 fun lo st2 => mh env st2 fun hi st3 => oSl x lo hi st3 Q := rfl
theorem mNoPart_a {Q : Option Int → Sto → Prop} : mNoPart env st Q = Q none st := rfl
def iAt : D → Sto → (Int → Sto → Prop) → Prop
  | .int k, st, Q => Q k st
  | _, _, _ => False
theorem iAt_a {k : Int} {Q : Int → Sto → Prop} : iAt (.int k) st Q = Q k st := rfl
theorem mPart_a {m : ME} {Q : Option Int → Sto → Prop} : mPart m env st Q = m env st fun x st1 => iAt x st1 fun i st2 => Q (some i) st2 := by
  have e : (fun x st1 => ∃ i, x = D.int i ∧ Q (some i) st1) = fun x st1 => iAt x st1 fun i st2 => Q (some i) st2 := by
    funext x st1
    cases x <;> simp [iAt]
  unfold mPart
  rw [e]
theorem mIsi_a {ns : List String} {m : ME} : mIsi ns m env st Q = m env st fun x st1 => ∃ t, tyD st1 x = some t ∧ Q (.bl (ns.any (isiB t))) st1 := rfl
theorem gN_a {i : Nat} {d : D} {Q : Env → Sto → Prop} : gN i d env st Q = Q (env.set i (some d)) st := rfl
theorem gTup_a {n : Nat} {gs : MGs} {ds : List D} {Q : Env → Sto → Prop} : gTup n gs (.tup ds) env st Q = (ds.length = n ∧ gs ds env st Q) := by
  apply propext
  constructor
  · rintro ⟨es, e, h⟩; cases e; exact h
  · exact fun h => ⟨ds, rfl, h⟩
theorem gCons_a {g : MG} {gs : MGs} {d : D} {ds : List D} {Q : Env → Sto → Prop} : gCons g gs (d :: ds) env st Q = g d env st fun env' st' => gs ds env' st' Q := by
  apply propext
  constructor
  · rintro ⟨e, r, h, q⟩; cases h; exact q
  · exact fun h => ⟨d, ds, rfl, h⟩
theorem gNil_a {Q : Env → Sto → Prop} : gNil [] env st Q = Q env st := by
  apply propext
  exact ⟨fun h => h.2, fun h => ⟨rfl, h⟩⟩
theorem gSub_a {mo mi : ME} {r : M3} {d : D} {Q : Env → Sto → Prop} : gSub mo mi r d env st Q = mo env st fun o st1 => mi env st1 fun i st2 => r o i d st2 fun st3 => Q env st3 := rfl
theorem endsOf_rt {d : D} : (endsOf Q).rt d st = ∃ st2, Sub st2 st ∧ Q d st2 := rfl
theorem endsOf_nx : (endsOf Q).nx env st = ∃ st2, Sub st2 st ∧ Q .non st2 := rfl
end
/-! values compared -/
theorem beq_dec_int (i j : Int) : (i == j) = decide (i = j) := by
  by_cases e : i = j
  · simp [e]
  · simp [e]
theorem beq_dec_str (i j : Str) : (i == j) = decide (i = j) := by
  by_cases e : i = j
  · simp [e]
  · simp [e]
theorem oEq_int {i j : Int} {st : Sto} {Q : DK} : oEq (.int i) (.int j) st Q = Q (.bl (decide (i = j))) st := by
  apply propext
  constructor
  · rintro (⟨b, e, h⟩ | ⟨p, q, e1, e2, _, _, h⟩)
    · cases e; exact h
    · simp only [pyOf, toPy, Option.some.injEq] at e1 e2
      subst e1 e2
      simpa only [PyData.eqv, beq_dec_int] using h
  · exact fun h => .inl ⟨_, rfl, h⟩
theorem oNe_int {i j : Int} {st : Sto} {Q : DK} : oNe (.int i) (.int j) st Q = Q (.bl (!decide (i = j))) st := by
  apply propext
  constructor
  · rintro (⟨b, e, h⟩ | ⟨p, q, e1, e2, _, _, h⟩)
    · cases e; exact h
    · simp only [pyOf, toPy, Option.some.injEq] at e1 e2
      subst e1 e2
      simpa only [PyData.eqv, beq_dec_int] using h
  · exact fun h => .inl ⟨_, rfl, h⟩
theorem oEq_str {i j : Str} {st : Sto} {Q : DK} : oEq (.str i) (.str j) st Q = Q (.bl (decide (i = j))) st := by
  apply propext
  constructor
  · rintro (⟨b, e, h⟩ | ⟨p, q, e1, e2, _, _, h⟩)
    · cases e; exact h
    · simp only [pyOf, toPy, Option.some.injEq] at e1 e2
      subst e1 e2
      simpa only [PyData.eqv, beq_dec_str] using h
  · exact fun h => .inl ⟨_, rfl, h⟩
theorem oNe_str {i j : Str} {st : Sto} {Q : DK} : oNe (.str i) (.str j) st Q = Q (.bl (!decide (i = j))) st := by
  apply propext
  constructor
  · rintro (⟨b, e, h⟩ | ⟨p, q, e1, e2, _, _, h⟩)
    · cases e; exact h
    · simp only [pyOf, toPy, Option.some.injEq] at e1 e2
      subst e1 e2
      simpa only [PyData.eqv, beq_dec_str] using h
  · exact fun h => .inl ⟨_, rfl, h⟩
theorem Nf.ne {st : Sto} {p a : Addr} {xs : List D} (h : Nf st p) (e : st a = some (.lst xs)) : p ≠ a := by
  rintro rfl
  rcases h with h | ⟨_, h⟩ <;> rw [e] at h <;> cases h
theorem Nf.neD {st : Sto} {p a : Addr} {xs : List (Key × D)} (h : Nf st p) (e : st a = some (.dic xs)) : p ≠ a := by
  rintro rfl
  rcases h with h | ⟨_, h⟩ <;> rw [e] at h <;> cases h
theorem rdL_lst {xs : List D} : rdL (some (.lst xs)) = some xs := rfl
theorem rdL_rol {xs : List D} : rdL (some (.rol xs)) = some xs := rfl
end L2.DL

namespace L2.DL
open PySem PySem.Spec PyProof.Rows

/-! ### operations, case by case -/
theorem szL : sizeLine = 16777216 := rfl

section
variable {st : Sto} {Q : DK}
theorem oAdd_int {i j : Int} : oAdd (.int i) (.int j) st Q = Q (.int (i + j)) st := rfl
theorem oAdd_str {i j : Str} : oAdd (.str i) (.str j) st Q = (i.length + j.length ≤ sizeLine ∧ Q (.str (i ++ j)) st) := rfl
theorem oAdd_tup {a b : List D} : oAdd (.tup a) (.tup b) st Q = (a.length + b.length ≤ sizeLine ∧ Q (.tup (a ++ b)) st) := rfl
theorem oAdd_lst {a b : Addr} {xs ys : List D} (h1 : st a = some (.lst xs)) (h2 : st b = some (.lst ys)) (hl : xs.length + ys.length ≤ sizeLine) (k : ∀ p, Nf st p → Q (.ref p) (put st p (.lst (xs ++ ys)))) : oAdd (.ref a) (.ref b) st Q := ⟨xs, ys, h1, h2, hl, k⟩
theorem oSub_int {i j : Int} : oSub (.int i) (.int j) st Q = Q (.int (i - j)) st := rfl
theorem oMul_int {i j : Int} : oMul (.int i) (.int j) st Q = (CMulW i j ∧ Q (.int (i * j)) st) := rfl
theorem oDiv_int {i j : Int} : oDiv (.int i) (.int j) st Q = (CDivW i j ∧ Q (.int (i / j)) st) := rfl
theorem oMod_int {i j : Int} : oMod (.int i) (.int j) st Q = (0 < j ∧ Q (.int (i % j)) st) := rfl
theorem oPow_int {i j : Int} : oPow (.int i) (.int j) st Q = (CPow i j ∧ Q (.int (i ^ j.toNat)) st) := rfl
theorem oLt_int {i j : Int} : oLt (.int i) (.int j) st Q = Q (.bl (decide (i < j))) st := rfl
theorem oLe_int {i j : Int} : oLe (.int i) (.int j) st Q = Q (.bl (decide (i ≤ j))) st := rfl
theorem oGt_int {i j : Int} : oGt (.int i) (.int j) st Q = Q (.bl (decide (j < i))) st := rfl
theorem oGe_int {i j : Int} : oGe (.int i) (.int j) st Q = Q (.bl (decide (j ≤ i))) st := rfl
theorem oIs_nn : oIs .non .non st Q = Q (.bl true) st := rfl
theorem oIs_bn {b : Bool} : oIs (.bl b) .non st Q = Q (.bl false) st := rfl
theorem oIs_in {b : Int} : oIs (.int b) .non st Q = Q (.bl false) st := rfl
theorem oIs_sn {b : Str} : oIs (.str b) .non st Q = Q (.bl false) st := rfl
theorem oIs_tn {b : List D} : oIs (.tup b) .non st Q = Q (.bl false) st := rfl
theorem oIs_rn {b : Addr} : oIs (.ref b) .non st Q = Q (.bl false) st := rfl
theorem oIs_nb {b : Bool} : oIs .non (.bl b) st Q = Q (.bl false) st := rfl
theorem oIs_ib {b : Bool} {i : Int} : oIs (.int i) (.bl b) st Q = Q (.bl false) st := rfl
theorem oIs_sb {b : Bool} {i : Str} : oIs (.str i) (.bl b) st Q = Q (.bl false) st := rfl
theorem oIs_tb {b : Bool} {i : List D} : oIs (.tup i) (.bl b) st Q = Q (.bl false) st := rfl
theorem oIs_rb {b : Bool} {i : Addr} : oIs (.ref i) (.bl b) st Q = Q (.bl false) st := rfl
theorem oIs_bb {a b : Bool} : oIs (.bl a) (.bl b) st Q = Q (.bl (decide (a = b))) st := rfl
theorem oIx_tup {xs : List D} {i : Int} : oIx (.tup xs) (.int i) st Q = ∃ v, atI xs i = some v ∧ Q v st := rfl
theorem oIx_t {xs : List D} {i : Int} {v : D} (e : atI xs i = some v) (q : Q v st) : oIx (.tup xs) (.int i) st Q := ⟨v, e, q⟩
theorem oIx_s {z : Str} {i : Int} {c : Nat} (hz : z.length ≤ sizeLine) (e : atI z.cps.toList i = some c) (q : Q (.str ⟨#[c]⟩) st) : oIx (.str z) (.int i) st Q := ⟨hz, c, e, q⟩
theorem oIx_l {a : Addr} {xs : List D} {i : Int} {v : D} (h : rdL (st a) = some xs) (e : atI xs i = some v) (q : Q v st) : oIx (.ref a) (.int i) st Q := .inl ⟨xs, i, v, h, rfl, e, q⟩
theorem oIx_d {a : Addr} {kvs : List (Key × D)} {y v : D} {k : Key} (h : rdD (st a) = some kvs) (ek : keyD y = some k) (e : valD kvs k = some v) (q : Q v st) : oIx (.ref a) y st Q := .inr ⟨kvs, k, v, h, ek, e, q⟩
theorem oSl_tup {xs : List D} {lo hi : Option Int} : oSl (.tup xs) lo hi st Q = Q (.tup (cutL xs lo hi)) st := rfl
theorem oSl_str {z : Str} {lo hi : Option Int} : oSl (.str z) lo hi st Q = (z.length ≤ sizeLine ∧ Q (.str (cutS z lo hi)) st) := rfl
theorem oSl_l {a : Addr} {xs : List D} {lo hi : Option Int} (h : rdL (st a) = some xs) (k : ∀ p, Nf st p → Q (.ref p) (put st p (.lst (cutL xs lo hi)))) : oSl (.ref a) lo hi st Q := ⟨xs, h, k⟩
theorem oAppend_l {a : Addr} {xs : List D} {y : D} (h : st a = some (.lst xs)) (hl : xs.length < sizeLine) (q : Q .non (put st a (.lst (xs ++ [y])))) : oAppend (.ref a) [y] st Q := ⟨xs, h, hl, q⟩
theorem oPop_l {a : Addr} {xs : List D} {y : D} (h : st a = some (.lst xs)) (hl : xs.getLast? = some y) (q : Q y (put st a (.lst xs.dropLast))) : oPop (.ref a) [] st Q := ⟨xs, y, h, hl, q⟩
theorem oExtend_l {a b : Addr} {xs ys : List D} (h : st a = some (.lst xs)) (h2 : st b = some (.lst ys)) (hl : xs.length + ys.length ≤ sizeLine) (q : Q .non (put st a (.lst (xs ++ ys)))) : oExtend (.ref a) [.ref b] st Q := ⟨xs, ys, h, h2, hl, q⟩
theorem oExtend_t {a : Addr} {xs ys : List D} (h : st a = some (.lst xs)) (hl : xs.length + ys.length ≤ sizeLine) (q : Q .non (put st a (.lst (xs ++ ys)))) : oExtend (.ref a) [.tup ys] st Q := ⟨xs, h, hl, q⟩
theorem oLen_tup {xs : List D} : oLen [.tup xs] st Q = Q (.int xs.length) st := rfl
theorem oLen_str {z : Str} : oLen [.str z] st Q = (z.length ≤ sizeLine ∧ Q (.int z.length) st) := rfl
theorem oLen_l {a : Addr} {xs : List D} (h : rdL (st a) = some xs) (q : Q (.int xs.length) st) : oLen [.ref a] st Q := .inl ⟨xs, h, q⟩
theorem oLen_d {a : Addr} {kvs : List (Key × D)} (h : st a = some (.dic kvs)) (q : Q (.int kvs.length) st) : oLen [.ref a] st Q := .inr ⟨kvs, h, q⟩
theorem oAbs_int {i : Int} : oAbs [.int i] st Q = Q (.int (if i < 0 then -i else i)) st := rfl
theorem oInt_int {i : Int} : oInt [.int i] st Q = Q (.int i) st := rfl
theorem oInt_bl {b : Bool} : oInt [.bl b] st Q = Q (.int (if b then 1 else 0)) st := rfl
theorem oMax_int {i j : Int} : oMax [.int i, .int j] st Q = Q (.int (if j > i then j else i)) st := rfl
theorem oMin_int {i j : Int} : oMin [.int i, .int j] st Q = Q (.int (if j < i then j else i)) st := rfl
theorem oTuple_tup {xs : List D} : oTuple [.tup xs] st Q = Q (.tup xs) st := rfl
theorem oTuple_l {a : Addr} {xs : List D} (h : rdL (st a) = some xs) (q : Q (.tup xs) st) : oTuple [.ref a] st Q := ⟨xs, h, q⟩
theorem oList_tup {xs : List D} : oList [.tup xs] st Q = ∀ p, Nf st p → Q (.ref p) (put st p (.lst xs)) := rfl
theorem oList_str {z : Str} : oList [.str z] st Q = (z.length ≤ sizeLine ∧ ∀ p, Nf st p → Q (.ref p) (put st p (.lst (signsD z)))) := rfl
theorem oList_l {a : Addr} {xs : List D} (h : rdL (st a) = some xs) (k : ∀ p, Nf st p → Q (.ref p) (put st p (.lst xs))) : oList [.ref a] st Q := ⟨xs, h, k⟩
theorem oSet_l {a : Addr} {xs : List D} {i : Int} {j : Nat} {v : D} {Q : Sto → Prop} (h : st a = some (.lst xs)) (e : ixN xs.length i = some j) (q : Q (put st a (.lst (xs.set j v)))) : oSet (.ref a) (.int i) v st Q := .inl ⟨xs, i, j, h, rfl, e, q⟩
theorem oSet_d {a : Addr} {kvs : List (Key × D)} {k : Key} {y v : D} {Q : Sto → Prop} (h : st a = some (.dic kvs)) (e : keyD y = some k) (hl : kvs.length < sizeLine) (q : Q (put st a (.dic (putD kvs k v)))) : oSet (.ref a) y v st Q := .inr ⟨kvs, k, h, e, hl, q⟩
theorem oIn_l {a : Addr} {xs : List D} {x : D} (h : rdL (st a) = some xs) (f1 : flatD x = true) (f2 : xs.all flatD = true) (q : Q (.bl (inF x xs)) st) : oIn x (.ref a) st Q := by
  cases x <;> exact .inl ⟨xs, h, f1, f2, q⟩
theorem oIn_d {a : Addr} {kvs : List (Key × D)} {k : Key} {x : D} (h : rdD (st a) = some kvs) (e : keyD x = some k) (q : Q (.bl (valD kvs k).isSome) st) : oIn x (.ref a) st Q := by
  cases x <;> exact .inr ⟨kvs, k, h, e, q⟩
theorem oIn_t {xs : List D} {x : D} (f1 : flatD x = true) (f2 : xs.all flatD = true) (q : Q (.bl (inF x xs)) st) : oIn x (.tup xs) st Q := by
  cases x <;> exact ⟨f1, f2, q⟩
theorem oNotIn_l {a : Addr} {xs : List D} {x : D} (h : rdL (st a) = some xs) (f1 : flatD x = true) (f2 : xs.all flatD = true) (q : Q (.bl (!inF x xs)) st) : oNotIn x (.ref a) st Q := oIn_l h f1 f2 ⟨_, rfl, q⟩
theorem oNotIn_d {a : Addr} {kvs : List (Key × D)} {k : Key} {x : D} (h : rdD (st a) = some kvs) (e : keyD x = some k) (q : Q (.bl (!(valD kvs k).isSome)) st) : oNotIn x (.ref a) st Q := oIn_d h e ⟨_, rfl, q⟩
/-- isinstance, where the kind is known -/
def tyO : Option String → String → Sto → DK → Prop
  | some t, n, st, Q => Q (.bl (isiB t n)) st
  | none, _, _, _ => False
theorem oIsi_t {x : D} {n : String} (hn : n ∈ ["int", "str", "bool", "tuple", "list", "dict"]) : oIsi [x, .ty n] st Q = tyO (tyD st x) n st Q := by
  apply propext
  constructor
  · rintro ⟨_, t, e, q⟩; rw [e]; exact q
  · intro h
    cases e : tyD st x with
    | none => rw [e] at h; exact h.elim
    | some t => rw [e] at h; exact ⟨hn, t, e, h⟩
theorem oIsi_int {x : D} : oIsi [x, .ty "int"] st Q = tyO (tyD st x) "int" st Q := oIsi_t (by decide)
theorem oIsi_str {x : D} : oIsi [x, .ty "str"] st Q = tyO (tyD st x) "str" st Q := oIsi_t (by decide)
theorem oIsi_bool {x : D} : oIsi [x, .ty "bool"] st Q = tyO (tyD st x) "bool" st Q := oIsi_t (by decide)
theorem oIsi_tuple {x : D} : oIsi [x, .ty "tuple"] st Q = tyO (tyD st x) "tuple" st Q := oIsi_t (by decide)
theorem oIsi_list {x : D} : oIsi [x, .ty "list"] st Q = tyO (tyD st x) "list" st Q := oIsi_t (by decide)
theorem oIsi_dict {x : D} : oIsi [x, .ty "dict"] st Q = tyO (tyD st x) "dict" st Q := oIsi_t (by decide)
theorem tyO_some {t n : String} : tyO (some t) n st Q = Q (.bl (isiB t n)) st := rfl
theorem tyD_non : tyD st .non = some "NoneType" := rfl
theorem tyD_bl {b : Bool} : tyD st (.bl b) = some "bool" := rfl
theorem tyD_int {b : Int} : tyD st (.int b) = some "int" := rfl
theorem tyD_str {b : Str} : tyD st (.str b) = some "str" := rfl
theorem tyD_tup {b : List D} : tyD st (.tup b) = some "tuple" := rfl
theorem isi_facts : isiB "NoneType" "str" = false ∧ isiB "NoneType" "int" = false ∧ isiB "NoneType" "bool" = false ∧ isiB "NoneType" "tuple" = false ∧ isiB "NoneType" "list" = false ∧ isiB "NoneType" "dict" = false ∧
    isiB "bool" "str" = false ∧ isiB "bool" "int" = true ∧ isiB "bool" "bool" = true ∧ isiB "bool" "tuple" = false ∧ isiB "bool" "list" = false ∧ isiB "bool" "dict" = false ∧
    isiB "int" "str" = false ∧ isiB "int" "int" = true ∧ isiB "int" "bool" = false ∧ isiB "int" "tuple" = false ∧ isiB "int" "list" = false ∧ isiB "int" "dict" = false ∧
    isiB "str" "str" = true ∧ isiB "str" "int" = false ∧ isiB "str" "bool" = false ∧ isiB "str" "tuple" = false ∧ isiB "str" "list" = false ∧ isiB "str" "dict" = false ∧
    isiB "tuple" "str" = false ∧ isiB "tuple" "int" = false ∧ isiB "tuple" "bool" = false ∧ isiB "tuple" "tuple" = true ∧ isiB "tuple" "list" = false ∧ isiB "tuple" "dict" = false := by decide
def tysO : Option String → List String → Sto → DK → Prop
  | some t, ns, st, Q => Q (.bl (ns.any (isiB t))) st
  | none, _, _, _ => False
theorem tysO_some {t : String} {ns : List String} : tysO (some t) ns st Q = Q (.bl (ns.any (isiB t))) st := rfl
theorem mIsi_b {ns : List String} {m : ME} {env : Env} : mIsi ns m env st Q = m env st fun x st1 => tysO (tyD st1 x) ns st1 Q := by
  have e : (fun (x : D) (st1 : Sto) => ∃ t, tyD st1 x = some t ∧ Q (.bl (ns.any (isiB t))) st1) = fun x st1 => tysO (tyD st1 x) ns st1 Q := by
    funext x st1
    cases h : tyD st1 x with
    | none => simp [tysO]
    | some t => simp [tysO]
  unfold mIsi
  rw [e]
theorem oIsi_a {x : D} {n t : String} (h : tyD st x = some t) (hn : n ∈ ["int", "str", "bool", "tuple", "list", "dict"]) (q : Q (.bl (isiB t n)) st) : oIsi [x, .ty n] st Q := ⟨hn, t, h, q⟩
theorem oJoin_l {a : Addr} {s : Str} {ys : List Str} (h : rdL (st a) = some (ys.map D.str)) (hl : (ys.map (·.length)).sum + ys.length * s.length ≤ 16777216) (q : Q (.str (Txt.join s ys)) st) : oJoin (.str s) [.ref a] st Q := ⟨_, ys, h, texts_map ys, hl, q⟩
theorem endsOf_i {d : D} (q : Q d st) : (endsOf Q).rt d st := ⟨st, .refl, q⟩
theorem endsOf_n {env : Env} (q : Q .non st) : (endsOf Q).nx env st := ⟨st, .refl, q⟩
theorem wSeq_tup {xs : List D} {m : ME} {env : Env} {R : List D → (Sto → Prop) → Sto → Prop} (h : m env st fun x st1 => ∃ xs, x = .tup xs ∧ R xs (fun _ => True) st1) (mono : ∀ P P' : DK, (∀ d s, P d s → P' d s) → m env st P → m env st P') : wSeq m env st R :=
  mono _ _ (fun d s ⟨xs, e, r⟩ => by subst e; exact r) h
end

/-! operations that read an address: by what stands there -/
def vO : Option D → Sto → DK → Prop
  | some v, st, Q => Q v st
  | none, _, _ => False
theorem vO_some {v : D} {st : Sto} {Q : DK} : vO (some v) st Q = Q v st := rfl
theorem vO_eq {o : Option D} {st : Sto} {Q : DK} : (∃ v, o = some v ∧ Q v st) = vO o st Q := by
  apply propext
  cases o with
  | none => exact ⟨fun ⟨_, h, _⟩ => (by cases h), fun h => h.elim⟩
  | some v => exact ⟨fun ⟨_, h, q⟩ => (by cases h; exact q), fun h => ⟨v, rfl, h⟩⟩
theorem oIx_tupE {xs : List D} {i : Int} {st : Sto} {Q : DK} : oIx (.tup xs) (.int i) st Q = vO (atI xs i) st Q := vO_eq
def ixO : Option Ob → D → Sto → DK → Prop
  | some (.lst xs), .int i, st, Q => vO (atI xs i) st Q
  | some (.rol xs), .int i, st, Q => vO (atI xs i) st Q
  | some (.dic kvs), y, st, Q => vO ((keyD y).bind (valD kvs)) st Q
  | some (.rod kvs), y, st, Q => vO ((keyD y).bind (valD kvs)) st Q
  | _, _, _, _ => False
theorem oIx_ref {a : Addr} {y : D} {st : Sto} {Q : DK} : oIx (.ref a) y st Q = ixO (st a) y st Q := by
  have key : ∀ kvs : List (Key × D), vO ((keyD y).bind (valD kvs)) st Q = ∃ k v, keyD y = some k ∧ valD kvs k = some v ∧ Q v st := fun kvs => by
    rw [← vO_eq]
    apply propext
    constructor
    · rintro ⟨v, e, q⟩
      obtain ⟨k, e1, e2⟩ := Option.bind_eq_some_iff.mp e
      exact ⟨k, v, e1, e2, q⟩
    · rintro ⟨k, v, e1, e2, q⟩
      exact ⟨v, Option.bind_eq_some_iff.mpr ⟨k, e1, e2⟩, q⟩
  have lst : ∀ xs : List D, (∃ i v, y = .int i ∧ atI xs i = some v ∧ Q v st) = match y with | .int i => vO (atI xs i) st Q | _ => False := fun xs => by
    apply propext
    constructor
    · rintro ⟨i, v, rfl, e, q⟩
      show vO _ _ _
      rw [e]; exact q
    · intro h
      cases y <;> simp only at h
      rw [← vO_eq] at h
      obtain ⟨v, e, q⟩ := h
      exact ⟨_, v, rfl, e, q⟩
  apply propext
  constructor
  · rintro (⟨xs, i, v, h, rfl, e, q⟩ | ⟨kvs, k, v, h, ek, e, q⟩)
    · cases hs : st a with
      | none => rw [hs] at h; cases h
      | some o => cases o <;> rw [hs] at h <;> cases h <;> (show vO _ _ _; rw [e]; exact q)
    · cases hs : st a with
      | none => rw [hs] at h; cases h
      | some o => cases o <;> rw [hs] at h <;> cases h <;> (show vO _ _ _; rw [key]; exact ⟨k, v, ek, e, q⟩)
  · intro h
    cases hs : st a with
    | none => rw [hs] at h; exact h.elim
    | some o =>
      rw [hs] at h
      cases o with
      | lst xs =>
        refine .inl ?_
        cases y <;> simp only [ixO] at h
        rw [← vO_eq] at h
        obtain ⟨v, e, q⟩ := h
        exact ⟨xs, _, v, by rw [hs]; rfl, rfl, e, q⟩
      | rol xs =>
        refine .inl ?_
        cases y <;> simp only [ixO] at h
        rw [← vO_eq] at h
        obtain ⟨v, e, q⟩ := h
        exact ⟨xs, _, v, by rw [hs]; rfl, rfl, e, q⟩
      | dic kvs =>
        have h' : vO ((keyD y).bind (valD kvs)) st Q := by cases y <;> exact h
        rw [key] at h'
        obtain ⟨k, v, e1, e2, q⟩ := h'
        exact .inr ⟨kvs, k, v, by rw [hs]; rfl, e1, e2, q⟩
      | rod kvs =>
        have h' : vO ((keyD y).bind (valD kvs)) st Q := by cases y <;> exact h
        rw [key] at h'
        obtain ⟨k, v, e1, e2, q⟩ := h'
        exact .inr ⟨kvs, k, v, by rw [hs]; rfl, e1, e2, q⟩
      | raw u => exact h.elim
theorem ixO_lst {xs : List D} {i : Int} {st : Sto} {Q : DK} : ixO (some (.lst xs)) (.int i) st Q = vO (atI xs i) st Q := rfl
theorem ixO_dicI {kvs : List (Key × D)} {i : Int} {st : Sto} {Q : DK} : ixO (some (.dic kvs)) (.int i) st Q = vO (valD kvs (.inl i)) st Q := rfl
theorem ixO_dicS {kvs : List (Key × D)} {i : Str} {st : Sto} {Q : DK} : ixO (some (.dic kvs)) (.str i) st Q = vO (valD kvs (.inr i)) st Q := rfl
theorem ixO_rodI {kvs : List (Key × D)} {i : Int} {st : Sto} {Q : DK} : ixO (some (.rod kvs)) (.int i) st Q = vO (valD kvs (.inl i)) st Q := rfl
theorem ixO_rodS {kvs : List (Key × D)} {i : Str} {st : Sto} {Q : DK} : ixO (some (.rod kvs)) (.str i) st Q = vO (valD kvs (.inr i)) st Q := rfl
theorem ex_st {α : Type} {f : Ob → Option α} {o : Option Ob} {P : α → Prop} : (∃ x, o.bind f = some x ∧ P x) = match o.bind f with | some x => P x | none => False := by
  apply propext
  cases o.bind f with
  | none => simp
  | some v => simp
def lsO : Option Ob → (List D → Prop) → Prop
  | some (.lst xs), P => P xs
  | _, _ => False
theorem lsO_lst {xs : List D} {P : List D → Prop} : lsO (some (.lst xs)) P = P xs := rfl
theorem lsO_eq {o : Option Ob} {P : List D → Prop} : (∃ xs, o = some (.lst xs) ∧ P xs) = lsO o P := by
  apply propext
  constructor
  · rintro ⟨xs, rfl, h⟩; exact h
  · intro h
    cases o with
    | none => exact h.elim
    | some o => cases o <;> first | exact h.elim | exact ⟨_, rfl, h⟩
def rdO : Option Ob → (List D → Prop) → Prop
  | some (.lst xs), P => P xs
  | some (.rol xs), P => P xs
  | _, _ => False
theorem rdO_lst {xs : List D} {P : List D → Prop} : rdO (some (.lst xs)) P = P xs := rfl
theorem rdO_rol {xs : List D} {P : List D → Prop} : rdO (some (.rol xs)) P = P xs := rfl
theorem rdO_eq {o : Option Ob} {P : List D → Prop} : (∃ xs, rdL o = some xs ∧ P xs) = rdO o P := by
  apply propext
  constructor
  · rintro ⟨xs, e, h⟩
    cases o with
    | none => cases e
    | some o => cases o <;> cases e <;> exact h
  · intro h
    cases o with
    | none => exact h.elim
    | some o => cases o <;> first | exact h.elim | exact ⟨_, rfl, h⟩
theorem oAppend_ref {a : Addr} {y : D} {st : Sto} {Q : DK} : oAppend (.ref a) [y] st Q = lsO (st a) fun xs => xs.length < sizeLine ∧ Q .non (put st a (.lst (xs ++ [y]))) := lsO_eq
theorem oPop_ref {a : Addr} {st : Sto} {Q : DK} : oPop (.ref a) [] st Q = lsO (st a) fun xs => vO xs.getLast? (put st a (.lst xs.dropLast)) Q := by
  rw [← lsO_eq]
  apply propext
  constructor
  · rintro ⟨xs, y, e, e2, q⟩
    exact ⟨xs, e, by rw [← vO_eq]; exact ⟨y, e2, q⟩⟩
  · rintro ⟨xs, e, q⟩
    rw [← vO_eq] at q
    obtain ⟨y, e2, q⟩ := q
    exact ⟨xs, y, e, e2, q⟩
theorem oExtend_tupE {a : Addr} {ys : List D} {st : Sto} {Q : DK} : oExtend (.ref a) [.tup ys] st Q = lsO (st a) fun xs => xs.length + ys.length ≤ sizeLine ∧ Q .non (put st a (.lst (xs ++ ys))) := lsO_eq
theorem oTuple_ref {a : Addr} {st : Sto} {Q : DK} : oTuple [.ref a] st Q = rdO (st a) fun xs => Q (.tup xs) st := rdO_eq
theorem oSl_ref {a : Addr} {lo hi : Option Int} {st : Sto} {Q : DK} : oSl (.ref a) lo hi st Q = rdO (st a) fun xs => ∀ p, Nf st p → Q (.ref p) (put st p (.lst (cutL xs lo hi))) := rdO_eq
theorem oList_ref {a : Addr} {st : Sto} {Q : DK} : oList [.ref a] st Q = rdO (st a) fun xs => ∀ p, Nf st p → Q (.ref p) (put st p (.lst xs)) := rdO_eq
def lenO : Option Ob → Sto → DK → Prop
  | some (.lst xs), st, Q => Q (.int xs.length) st
  | some (.rol xs), st, Q => Q (.int xs.length) st
  | some (.dic xs), st, Q => Q (.int xs.length) st
  | _, _, _ => False
theorem lenO_lst {xs : List D} {st : Sto} {Q : DK} : lenO (some (.lst xs)) st Q = Q (.int xs.length) st := rfl
theorem lenO_rol {xs : List D} {st : Sto} {Q : DK} : lenO (some (.rol xs)) st Q = Q (.int xs.length) st := rfl
theorem lenO_dic {xs : List (Key × D)} {st : Sto} {Q : DK} : lenO (some (.dic xs)) st Q = Q (.int xs.length) st := rfl
theorem oLen_ref {a : Addr} {st : Sto} {Q : DK} : oLen [.ref a] st Q = lenO (st a) st Q := by
  apply propext
  constructor
  · rintro (⟨xs, e, h⟩ | ⟨kvs, e, h⟩)
    · cases hs : st a with
      | none => rw [hs] at e; cases e
      | some o => cases o <;> rw [hs] at e <;> cases e <;> exact h
    · rw [e]; exact h
  · intro h
    cases hs : st a with
    | none => rw [hs] at h; exact h.elim
    | some o =>
      rw [hs] at h
      cases o with
      | lst xs => exact .inl ⟨xs, by rw [hs]; rfl, h⟩
      | rol xs => exact .inl ⟨xs, by rw [hs]; rfl, h⟩
      | dic xs => exact .inr ⟨xs, hs, h⟩
      | rod xs => exact h.elim
      | raw u => exact h.elim
def addO : Option Ob → Option Ob → Sto → DK → Prop
  | some (.lst xs), some (.lst ys), st, Q => xs.length + ys.length ≤ sizeLine ∧ ∀ p, Nf st p → Q (.ref p) (put st p (.lst (xs ++ ys)))
  | _, _, _, _ => False
theorem addO_lst {xs ys : List D} {st : Sto} {Q : DK} : addO (some (.lst xs)) (some (.lst ys)) st Q = (xs.length + ys.length ≤ sizeLine ∧ ∀ p, Nf st p → Q (.ref p) (put st p (.lst (xs ++ ys)))) := rfl
theorem oAdd_ref {a b : Addr} {st : Sto} {Q : DK} : oAdd (.ref a) (.ref b) st Q = addO (st a) (st b) st Q := by
  apply propext
  constructor
  · rintro ⟨xs, ys, e1, e2, h⟩
    rw [e1, e2]; exact h
  · intro h
    cases h1 : st a with
    | none => rw [h1] at h; exact h.elim
    | some o =>
      cases h2 : st b with
      | none => rw [h1, h2] at h; cases o <;> exact h.elim
      | some u =>
        rw [h1, h2] at h
        cases o <;> cases u <;> first | exact h.elim | exact ⟨_, _, h1, h2, h⟩
def inO : Option Ob → D → Sto → DK → Prop
  | some (.lst xs), x, st, Q => flatD x = true ∧ xs.all flatD = true ∧ Q (.bl (inF x xs)) st
  | some (.dic kvs), x, st, Q => ∃ k, keyD x = some k ∧ Q (.bl (valD kvs k).isSome) st
  | _, _, _, _ => False
theorem inO_lst {xs : List D} {x : D} {st : Sto} {Q : DK} : inO (some (.lst xs)) x st Q = (flatD x = true ∧ xs.all flatD = true ∧ Q (.bl (inF x xs)) st) := rfl
theorem inO_dicS {kvs : List (Key × D)} {x : Str} {st : Sto} {Q : DK} : inO (some (.dic kvs)) (.str x) st Q = Q (.bl (valD kvs (.inr x)).isSome) st := by
  apply propext
  constructor
  · rintro ⟨k, e, q⟩; cases e; exact q
  · exact fun q => ⟨_, rfl, q⟩
theorem inO_dicI {kvs : List (Key × D)} {x : Int} {st : Sto} {Q : DK} : inO (some (.dic kvs)) (.int x) st Q = Q (.bl (valD kvs (.inl x)).isSome) st := by
  apply propext
  constructor
  · rintro ⟨k, e, q⟩; cases e; exact q
  · exact fun q => ⟨_, rfl, q⟩
/-- one way is enough: what stands there gives the test -/
theorem oIn_ref {a : Addr} {x : D} {st : Sto} {Q : DK} (h : inO (st a) x st Q) : oIn x (.ref a) st Q := by
  cases hs : st a with
  | none => rw [hs] at h; exact h.elim
  | some o =>
    rw [hs] at h
    cases o with
    | lst xs => exact oIn_l (by rw [hs]; rfl) h.1 h.2.1 h.2.2
    | dic kvs =>
      obtain ⟨k, e, q⟩ := h
      exact oIn_d (by rw [hs]; rfl) e q
    | rol xs => exact h.elim
    | rod xs => exact h.elim
    | raw u => exact h.elim
def setO : Option Ob → Addr → D → D → Sto → (Sto → Prop) → Prop
  | some (.lst xs), a, .int i, v, st, Q => ∃ j, ixN xs.length i = some j ∧ Q (put st a (.lst (xs.set j v)))
  | some (.dic kvs), a, y, v, st, Q => kvs.length < sizeLine ∧ ∃ k, keyD y = some k ∧ Q (put st a (.dic (putD kvs k v)))
  | _, _, _, _, _, _ => False
theorem setO_dicS {kvs : List (Key × D)} {a : Addr} {x : Str} {v : D} {st : Sto} {Q : Sto → Prop} : setO (some (.dic kvs)) a (.str x) v st Q = (kvs.length < sizeLine ∧ Q (put st a (.dic (putD kvs (.inr x) v)))) := by
  apply propext
  constructor
  · rintro ⟨h, k, e, q⟩; cases e; exact ⟨h, q⟩
  · exact fun ⟨h, q⟩ => ⟨h, _, rfl, q⟩
theorem setO_dicI {kvs : List (Key × D)} {a : Addr} {x : Int} {v : D} {st : Sto} {Q : Sto → Prop} : setO (some (.dic kvs)) a (.int x) v st Q = (kvs.length < sizeLine ∧ Q (put st a (.dic (putD kvs (.inl x) v)))) := by
  apply propext
  constructor
  · rintro ⟨h, k, e, q⟩; cases e; exact ⟨h, q⟩
  · exact fun ⟨h, q⟩ => ⟨h, _, rfl, q⟩
theorem setO_lst {xs : List D} {a : Addr} {i : Int} {v : D} {st : Sto} {Q : Sto → Prop} : setO (some (.lst xs)) a (.int i) v st Q = ∃ j, ixN xs.length i = some j ∧ Q (put st a (.lst (xs.set j v))) := rfl
theorem oSet_ref {a : Addr} {y v : D} {st : Sto} {Q : Sto → Prop} : oSet (.ref a) y v st Q = setO (st a) a y v st Q := by
  apply propext
  constructor
  · rintro (⟨xs, i, j, e, rfl, e2, q⟩ | ⟨kvs, k, e, e2, h, q⟩)
    · rw [e]; exact ⟨j, e2, q⟩
    · rw [e]
      cases y <;> exact ⟨h, k, e2, q⟩
  · intro h
    cases hs : st a with
    | none => rw [hs] at h; exact h.elim
    | some o =>
      rw [hs] at h
      cases o with
      | lst xs =>
        cases y <;> simp only [setO] at h
        obtain ⟨j, e, q⟩ := h
        exact .inl ⟨xs, _, j, hs, rfl, e, q⟩
      | dic kvs =>
        have h' : kvs.length < sizeLine ∧ ∃ k, keyD y = some k ∧ Q (put st a (.dic (putD kvs k v))) := by cases y <;> exact h
        obtain ⟨h1, k, e, q⟩ := h'
        exact .inr ⟨kvs, k, hs, e, h1, q⟩
      | rol xs => exact h.elim
      | rod xs => exact h.elim
      | raw u => exact h.elim
theorem isL_ref {a : Addr} {st : Sto} : isL (.ref a) st = rdO (st a) fun _ => True := by
  rw [← rdO_eq]
  apply propext
  constructor
  · rintro ⟨b, xs, e, h⟩; cases e; exact ⟨xs, h, trivial⟩
  · rintro ⟨xs, h, _⟩; exact ⟨a, xs, rfl, h⟩
theorem isS_str {z : Str} {st : Sto} : isS (.str z) st = True := by
  apply propext
  exact ⟨fun _ => trivial, fun _ => ⟨z, rfl⟩⟩
def revO : D → Sto → DK → Prop
  | .ref a, st, Q => rdO (st a) fun xs => ∀ p, Nf st p → Q (.ref p) (put st p (.lst xs.reverse))
  | _, _, _ => False
theorem revO_ref {a : Addr} {st : Sto} {Q : DK} : revO (.ref a) st Q = rdO (st a) fun xs => ∀ p, Nf st p → Q (.ref p) (put st p (.lst xs.reverse)) := rfl
theorem mRev_a {m : ME} {env : Env} {st : Sto} {Q : DK} : mRev m env st Q = m env st fun x st1 => revO x st1 Q := by
  have e : (fun (x : D) (st1 : Sto) => ∃ a xs, x = .ref a ∧ rdL (st1 a) = some xs ∧ ∀ p, Nf st1 p → Q (.ref p) (put st1 p (.lst xs.reverse))) = fun x st1 => revO x st1 Q := by
    funext x st1
    cases x <;> try simp [revO]
    rw [← rdO_eq]
  unfold mRev
  rw [e]
theorem atI_zero {α : Type} {x : α} {xs : List α} : atI (x :: xs) 0 = some x := by
  simp [atI, ixN]
theorem atI_one {α : Type} {x y : α} {xs : List α} : atI (x :: y :: xs) 1 = some y := by
  have h : (1 : Int) < ((x :: y :: xs).length : Nat) := by simp; omega
  simp only [atI, ixN, if_pos (show (0 : Int) ≤ 1 by omega), if_pos h]
  rfl
theorem atI_two {α : Type} {x y z : α} {xs : List α} : atI (x :: y :: z :: xs) 2 = some z := by
  have h : (2 : Int) < ((x :: y :: z :: xs).length : Nat) := by simp; omega
  simp only [atI, ixN, if_pos (show (0 : Int) ≤ 2 by omega), if_pos h]
  rfl
theorem atI_end {α : Type} {xs : List α} : atI xs (-1) = xs.getLast? := by
  rcases List.eq_nil_or_concat xs with rfl | ⟨l, x, rfl⟩
  · rfl
  · rw [List.concat_eq_append, atI_last, List.getLast?_concat]
theorem atI_ofNat {α : Type} {xs : List α} {j : Nat} : atI xs (j : Int) = xs[j]? := by
  unfold atI ixN
  by_cases h : (j : Int) < (xs.length : Nat)
  · simp only [if_pos (show (0 : Int) ≤ j by omega), if_pos h, Int.toNat_natCast, Option.bind_some]
  · simp only [if_pos (show (0 : Int) ≤ j by omega), if_neg h, Option.bind_none]
    rw [List.getElem?_eq_none (by omega)]
/-- what is walked -/
def sqO : D → Sto → (List D → (Sto → Prop) → Sto → Prop) → Prop
  | .tup xs, st, Q => Q xs (fun _ => True) st
  | .str z, st, Q => Q (signsD z) (fun _ => True) st
  | .ref a, st, Q => rdO (st a) fun xs => Q xs (fun st => rdL (st a) = some xs) st
  | _, _, _ => False
theorem wSeq_a {m : ME} {env : Env} {st : Sto} {Q : List D → (Sto → Prop) → Sto → Prop} : wSeq m env st Q = m env st fun x st1 => sqO x st1 Q := by
  have e : (fun (x : D) (st1 : Sto) => match x with
    | .tup xs => Q xs (fun _ => True) st1
    | .str z => Q (signsD z) (fun _ => True) st1
    | .ref a => ∃ xs, rdL (st1 a) = some xs ∧ Q xs (fun st => rdL (st a) = some xs) st1
    | _ => False) = fun x st1 => sqO x st1 Q := by
    funext x st1
    cases x <;> simp only [sqO]
    rw [rdO_eq]
  unfold wSeq
  rw [← e]
  try rfl
theorem sqO_tup {xs : List D} {st : Sto} {Q : List D → (Sto → Prop) → Sto → Prop} : sqO (.tup xs) st Q = Q xs (fun _ => True) st := rfl
theorem sqO_str {z : Str} {st : Sto} {Q : List D → (Sto → Prop) → Sto → Prop} : sqO (.str z) st Q = Q (signsD z) (fun _ => True) st := rfl
theorem sqO_ref {a : Addr} {st : Sto} {Q : List D → (Sto → Prop) → Sto → Prop} : sqO (.ref a) st Q = rdO (st a) fun xs => Q xs (fun st => rdL (st a) = some xs) st := rfl
theorem wRng1_a {m : ME} {env : Env} {st : Sto} {Q : List D → (Sto → Prop) → Sto → Prop} : wRng1 m env st Q = m env st fun x st1 => iAt x st1 fun j st2 => (-(2 ^ 62) ≤ j ∧ j < 2 ^ 62) ∧ Q (rangeD 0 j.toNat) (fun _ => True) st2 := by
  have e : (fun x st1 => ∃ j, x = D.int j ∧ (-(2 ^ 62) ≤ j ∧ j < 2 ^ 62) ∧ Q (rangeD 0 j.toNat) (fun _ => True) st1) = fun x st1 => iAt x st1 fun j st2 => (-(2 ^ 62) ≤ j ∧ j < 2 ^ 62) ∧ Q (rangeD 0 j.toNat) (fun _ => True) st2 := by
    funext x st1
    cases x <;> simp [iAt]
  unfold wRng1
  rw [e]
/-- a walk's turns -/
def forO (xs : List D) (ok : Sto → Prop) (g : MG) (b : MS) (D : DEnds) (env : Env) (st1 : Sto) : Prop := ∃ W : Nat → Env → Sto → Prop, W 0 env st1 ∧ (∀ i env st, i ≤ xs.length → W i env st → ok st) ∧
  (∀ i x env st, xs[i]? = some x → W i env st → g x env st fun env2 st2 => b { nx := W (i + 1), rt := D.rt, bk := D.nx, ct := W (i + 1) } env2 st2) ∧
  (∀ env st, W xs.length env st → D.nx env st)
theorem sFor_a {mi : MI} {g : MG} {b : MS} {D : DEnds} {env : Env} {st : Sto} : sFor mi g b D env st = mi env st fun xs ok st1 => forO xs ok g b D env st1 := rfl
def lcO (xs : List D) (ok : Sto → Prop) (g : MG) (mt : MT) (me : ME) (ws : List Nat) (env : Env) (st1 : Sto) (Q : DK) : Prop := ∀ p, Nf st1 p → ∃ W : Nat → List D → Sto → Prop, W 0 [] (put st1 p (.lst [])) ∧
  (∀ i acc st, i ≤ xs.length → W i acc st → ok st ∧ st p = some (.lst acc)) ∧
  (∀ i acc x st, xs[i]? = some x → W i acc st → g x (wipeE env ws) st fun env2 st2 => mt env2 st2 fun b st3 =>
    if b = true then me env2 st3 fun y st4 => st4 p = some (.lst acc) ∧ acc.length < sizeLine ∧ W (i + 1) (acc ++ [y]) (put st4 p (.lst (acc ++ [y]))) else W (i + 1) acc st3) ∧
  (∀ acc st, W xs.length acc st → Q (.ref p) st)
theorem mLc_a {mi : MI} {g : MG} {mt : MT} {me : ME} {ws : List Nat} {env : Env} {st : Sto} {Q : DK} : mLc mi g mt me ws env st Q = mi env st fun xs ok st1 => lcO xs ok g mt me ws env st1 Q := rfl
def dcO (xs : List D) (ok : Sto → Prop) (g : MG) (mt : MT) (mk mv : ME) (ws : List Nat) (env : Env) (st1 : Sto) (Q : DK) : Prop := ∀ p, Nf st1 p → ∃ W : Nat → List (Key × D) → Sto → Prop, W 0 [] (put st1 p (.dic [])) ∧
  (∀ i acc st, i ≤ xs.length → W i acc st → ok st ∧ st p = some (.dic acc)) ∧
  (∀ i acc x st, xs[i]? = some x → W i acc st → g x (wipeE env ws) st fun env2 st2 => mt env2 st2 fun b st3 =>
    if b = true then mk env2 st3 fun y st4 => mv env2 st4 fun z st5 => ∃ k, keyD y = some k ∧ st5 p = some (.dic acc) ∧ acc.length < sizeLine ∧ W (i + 1) (putD acc k z) (put st5 p (.dic (putD acc k z))) else W (i + 1) acc st3) ∧
  (∀ acc st, W xs.length acc st → Q (.ref p) st)
theorem mDc_a {mi : MI} {g : MG} {mt : MT} {mk mv : ME} {ws : List Nat} {env : Env} {st : Sto} {Q : DK} : mDc mi g mt mk mv ws env st Q = mi env st fun xs ok st1 => dcO xs ok g mt mk mv ws env st1 Q := rfl

/-! one statement and the rest -/
section
variable {D0 : DEnds} {env : Env} {st : Sto} {u : MS}
theorem sqAsg_a {m : ME} {g : MG} : sSeq (sAsg m g) u D0 env st = m env st fun d st1 => g d env st1 fun env2 st2 => u D0 env2 st2 := rfl
theorem sqDrop_a {m : ME} : sSeq (sDrop m) u D0 env st = m env st fun _ st1 => u D0 env st1 := rfl
theorem sqPar_a {i j : Nat} {a b : ME} : sSeq (sPar i j (mCons a (mCons b mNil))) u D0 env st = a env st fun x st1 => b env st1 fun y st2 => u D0 ((env.set i (some x)).set j (some y)) st2 := by
  rw [sSeq_a, sPar_a]
theorem sqPar3_a {i j l : Nat} {a b c : ME} : sSeq (sPar3 i j l (mCons a (mCons b (mCons c mNil)))) u D0 env st = a env st fun x st1 => b env st1 fun y st2 => c env st2 fun z st3 => u D0 (((env.set i (some x)).set j (some y)).set l (some z)) st3 := by
  rw [sSeq_a, sPar3_a]
theorem sqIf_a {c : MT} {t v : MS} : sSeq (sIf c t v) u D0 env st = c env st fun b st1 => if b = true then sSeq t u D0 env st1 else sSeq v u D0 env st1 := rfl
theorem sqNext_a : sSeq sNext u D0 env st = u D0 env st := rfl
theorem sqRet_a {m : ME} : sSeq (sRet m) u D0 env st = m env st D0.rt := rfl
theorem sqSeq_a {t v : MS} : sSeq (sSeq t v) u D0 env st = sSeq t (sSeq v u) D0 env st := rfl
/-- the rest held back -/
theorem sSeq_t {t : MS} (h : ∀ T : MS, u = T → sSeq t T D0 env st) : sSeq t u D0 env st := h u rfl
/-- what stands between a statement and the rest -/
theorem sSeq_i {t : MS} (X : Env → Sto → Prop) (h : ∀ nx, (∀ env st, X env st → nx env st) → t { nx := nx, rt := D0.rt, bk := D0.bk, ct := D0.ct } env st) (fin : ∀ env st, X env st → u D0 env st) : sSeq t u D0 env st := h _ fin
end

/-! ### stores that stay -/
def nr : Ob → Prop
  | .rol _ => False
  | _ => True
def Keep (st st' : Sto) : Prop := ∀ a o, nr o → st a = some o → st' a = some o
theorem Keep.refl {st : Sto} : Keep st st := fun _ _ _ h => h
theorem Keep.trans {a b c : Sto} (h : Keep a b) (k : Keep b c) : Keep a c := fun _ _ n e => k _ _ n (h _ _ n e)
theorem Nf.not {st : Sto} {p a : Addr} {o : Ob} (h : Nf st p) (e : st a = some o) (n : nr o) : a ≠ p := by
  rintro rfl
  rcases h with h | ⟨_, h⟩ <;> rw [e] at h <;> cases h
  exact n
theorem Keep.put {st : Sto} {p : Addr} {o : Ob} (h : Nf st p) : Keep st (put st p o) := fun a u n e => by
  rw [put_ne (h.not e n)]; exact e
theorem Keep.new {st st' : Sto} {p : Addr} {o : Ob} (k : Keep st st') (h : Nf st' p) : Keep st (DL.put st' p o) := k.trans (Keep.put h)
/-- an object that was new may change -/
theorem Keep.mut {st st' : Sto} {p : Addr} {o : Ob} (k : Keep st st') (h : Nf st p) : Keep st (DL.put st' p o) := fun a u n e => by
  rw [put_ne (h.not e n)]; exact k _ _ n e

theorem Keep.l {st st' : Sto} {a : Addr} {xs : List D} (k : Keep st st') (h : st a = some (.lst xs)) : st' a = some (.lst xs) := k a _ trivial h
theorem Keep.d {st st' : Sto} {a : Addr} {xs : List (Key × D)} (k : Keep st st') (h : st a = some (.dic xs)) : st' a = some (.dic xs) := k a _ trivial h

/-! ### the deal of draws -/
structure DealAt (st : Sto) (n m : Addr) (cells : List Int) (mix : Int) : Prop where
  ln : st n = some (.lst [.ref m, .int mix])
  lm : st m = some (.lst (cells.map D.int))
  nn : ∀ c ∈ cells, 0 ≤ c
  m0 : 0 ≤ mix
  m1 : mix < 2147483647
  sz : cells.length ≤ 63
theorem DealAt.ne {st : Sto} {n m : Addr} {cells : List Int} {mix : Int} (h : DealAt st n m cells mix) : n ≠ m := by
  rintro rfl
  have e := h.ln.symm.trans h.lm
  simp only [Option.some.injEq, Ob.lst.injEq] at e
  cases cells with
  | nil => simp at e
  | cons c cs => simp at e
def Deal (st : Sto) (n m : Addr) : Prop := ∃ cells mix, DealAt st n m cells mix
/-- behind draws -/
structure Up (n m : Addr) (st st' : Sto) : Prop where
  keep : ∀ a o, a ≠ n → a ≠ m → nr o → st a = some o → st' a = some o
  deal : Deal st' n m
theorem Up.l {n m a : Addr} {st st' : Sto} {xs : List D} (u : Up n m st st') (h1 : a ≠ n) (h2 : a ≠ m) (h : st a = some (.lst xs)) : st' a = some (.lst xs) := u.keep a _ h1 h2 trivial h
theorem Up.d {n m a : Addr} {st st' : Sto} {xs : List (Key × D)} (u : Up n m st st') (h1 : a ≠ n) (h2 : a ≠ m) (h : st a = some (.dic xs)) : st' a = some (.dic xs) := u.keep a _ h1 h2 trivial h
theorem Deal.keep {st st' : Sto} {n m : Addr} (h : Deal st n m) (k : Keep st st') : Deal st' n m := by
  obtain ⟨c, x, h⟩ := h
  exact ⟨c, x, k _ _ trivial h.ln, k _ _ trivial h.lm, h.nn, h.m0, h.m1, h.sz⟩
theorem Up.refl {st : Sto} {n m : Addr} (h : Deal st n m) : Up n m st st := ⟨fun _ _ _ _ _ e => e, h⟩
theorem Up.trans {a b c : Sto} {n m : Addr} (h : Up n m a b) (k : Up n m b c) : Up n m a c := ⟨fun x o h1 h2 hn e => k.keep x o h1 h2 hn (h.keep x o h1 h2 hn e), k.deal⟩
theorem Up.then {a b c : Sto} {n m : Addr} (h : Up n m a b) (k : Keep b c) : Up n m a c := ⟨fun x o h1 h2 hn e => k _ _ hn (h.keep x o h1 h2 hn e), h.deal.keep k⟩
theorem Up.of {a b : Sto} {n m : Addr} (h : Deal a n m) (k : Keep a b) : Up n m a b := ⟨fun x o _ _ hn e => k _ _ hn e, h.keep k⟩
theorem Up.put {a b : Sto} {n m p : Addr} {o : Ob} (h : Up n m a b) (f : Nf a p) (g : p ≠ n) (g' : p ≠ m) : Up n m a (DL.put b p o) := ⟨fun x u h1 h2 hn e => by
  rw [put_ne (f.not e hn)]; exact h.keep x u h1 h2 hn e, by
  obtain ⟨c, x, d⟩ := h.deal
  exact ⟨c, x, by rw [put_ne g.symm]; exact d.ln, by rw [put_ne g'.symm]; exact d.lm, d.nn, d.m0, d.m1, d.sz⟩⟩
theorem Nf.deal {st : Sto} {n m p : Addr} (h : Nf st p) (d : Deal st n m) : p ≠ n ∧ p ≠ m := by
  obtain ⟨c, x, d⟩ := d
  exact ⟨h.ne d.ln, h.ne d.lm⟩
theorem Deal.put {st : Sto} {n m p : Addr} {o : Ob} (h : Deal st n m) (g : p ≠ n) (g' : p ≠ m) : Deal (DL.put st p o) n m := by
  obtain ⟨c, x, d⟩ := h
  exact ⟨c, x, by rw [put_ne g.symm]; exact d.ln, by rw [put_ne g'.symm]; exact d.lm, d.nn, d.m0, d.m1, d.sz⟩
end L2.DL

namespace L2.DL
open PySem PySem.Spec PyProof.Rows

/-! ### list comprehensions by what each item gives -/
inductive Fm (F : D → Option D → Prop) : List D → List D → Prop
  | nil : Fm F [] []
  | yes {x y : D} {xs ys : List D} : F x (some y) → Fm F xs ys → Fm F (x :: xs) (y :: ys)
  | no {x : D} {xs ys : List D} : F x none → Fm F xs ys → Fm F (x :: xs) ys
theorem Fm.snoc {F : D → Option D → Prop} {xs ys : List D} (h : Fm F xs ys) {x y : D} (k : F x (some y)) : Fm F (xs ++ [x]) (ys ++ [y]) := by
  induction h with
  | nil => exact .yes k .nil
  | yes a _ ih => exact .yes a ih
  | no a _ ih => exact .no a ih
theorem Fm.skip {F : D → Option D → Prop} {xs ys : List D} (h : Fm F xs ys) {x : D} (k : F x none) : Fm F (xs ++ [x]) ys := by
  induction h with
  | nil => exact .no k .nil
  | yes a _ ih => exact .yes a ih
  | no a _ ih => exact .no a ih
theorem Fm.len {F : D → Option D → Prop} {xs ys : List D} (h : Fm F xs ys) : ys.length ≤ xs.length := by
  induction h with
  | nil => exact Nat.le_refl _
  | yes _ _ ih => simpa using ih
  | no _ _ ih => simp; omega
theorem Fm.fun {f : D → Option D} {xs ys : List D} (h : Fm (fun x o => o = f x) xs ys) : ys = xs.filterMap f := by
  induction h with
  | nil => rfl
  | yes a _ ih => rw [List.filterMap_cons_some a.symm, ih]
  | no a _ ih => rw [List.filterMap_cons_none a.symm, ih]
theorem Fm.strs {P : Str → Prop} {xs ys : List D} (h : Fm (fun _ o => ∃ s, o = some (.str s) ∧ P s) xs ys) : ∃ cs : List Str, ys = cs.map D.str ∧ cs.length = xs.length ∧ ∀ s ∈ cs, P s := by
  induction h with
  | nil => exact ⟨[], rfl, rfl, fun _ h => by cases h⟩
  | yes a _ ih =>
    obtain ⟨cs, rfl, h1, h2⟩ := ih
    obtain ⟨s, e, p⟩ := a
    cases e
    refine ⟨s :: cs, rfl, by simp [h1], fun t ht => ?_⟩
    rcases List.mem_cons.mp ht with rfl | ht
    · exact p
    · exact h2 t ht
  | no a _ _ =>
    obtain ⟨s, e, _⟩ := a
    cases e
theorem take_snoc {α : Type} {xs : List α} {i : Nat} {x : α} (h : xs[i]? = some x) : xs.take (i + 1) = xs.take i ++ [x] := by
  rw [List.take_add_one, h]
  rfl
section
variable {env : Env} {g : MG} {mt : MT} {me : ME} {ws : List Nat} {xs : List D} {ok : Sto → Prop} {st1 : Sto} {Q : DK}
/-- behind draws -/
theorem lc_up {n m : Addr} (F : D → Option D → Prop) (hd : Deal st1 n m) (hok : ∀ st', Up n m st1 st' → ok st') (hl : xs.length ≤ sizeLine)
    (turn : ∀ x ∈ xs, ∀ st2, Up n m st1 st2 → ∀ (P : DK) (N : Sto → Prop), (∀ y st3, F x (some y) → Up n m st2 st3 → P y st3) → (∀ st3, F x none → Up n m st2 st3 → N st3) → g x (wipeE env ws) st2 fun env2 st3 => mt env2 st3 fun b st4 => if b = true then me env2 st4 P else N st4)
    (fin : ∀ p ys st', Nf st1 p → Fm F xs ys → Up n m st1 st' → st' p = some (.lst ys) → Q (.ref p) st') :
    lcO xs ok g mt me ws env st1 Q := by
  intro p hp
  obtain ⟨pn, pm⟩ := hp.deal hd
  refine ⟨fun i acc st => Fm F (xs.take i) acc ∧ Up n m st1 st ∧ st p = some (.lst acc), ⟨by simpa using Fm.nil, (Up.refl hd).put hp pn pm, put_same⟩, fun i acc st _ ⟨_, u, e⟩ => ⟨hok st u, e⟩, fun i acc x st hx ⟨hf, u, e⟩ => ?_, fun acc st ⟨hf, u, e⟩ => fin p acc st hp (by simpa using hf) u e⟩
  have hlen : acc.length < sizeLine := by
    have h1 := hf.len
    have h2 : i < xs.length := by
      have := List.getElem?_eq_some_iff.mp hx
      exact this.1
    rw [List.length_take] at h1
    omega
  refine turn x (List.mem_of_getElem? hx) st u _ _ (fun y st5 h1 h2 => ?_) (fun st5 h1 h2 => ?_)
  · refine ⟨h2.keep _ _ pn pm trivial e, hlen, ?_, (u.trans h2).put hp pn pm, put_same⟩
    rw [take_snoc hx]
    exact hf.snoc h1
  · refine ⟨?_, u.trans h2, h2.keep _ _ pn pm trivial e⟩
    rw [take_snoc hx]
    exact hf.skip h1
/-- no draws -/
theorem lc_keep (f : D → Option D) (hok : ∀ st', Keep st1 st' → ok st') (hl : xs.length ≤ sizeLine)
    (turn : ∀ x ∈ xs, ∀ st2, Keep st1 st2 → ∀ (P : DK) (N : Sto → Prop), (∀ y st3, f x = some y → Keep st2 st3 → P y st3) → (∀ st3, f x = none → Keep st2 st3 → N st3) → g x (wipeE env ws) st2 fun env2 st3 => mt env2 st3 fun b st4 => if b = true then me env2 st4 P else N st4)
    (fin : ∀ p st', Nf st1 p → Keep st1 st' → st' p = some (.lst (xs.filterMap f)) → Q (.ref p) st') :
    lcO xs ok g mt me ws env st1 Q := by
  intro p hp
  refine ⟨fun i acc st => acc = (xs.take i).filterMap f ∧ Keep st1 st ∧ st p = some (.lst acc), ⟨by simp, Keep.put hp, put_same⟩, fun i acc st _ ⟨_, u, e⟩ => ⟨hok st u, e⟩, fun i acc x st hx ⟨hf, u, e⟩ => ?_, fun acc st ⟨hf, u, e⟩ => fin p st hp u (by rw [e, hf, List.take_length])⟩
  have hlen : acc.length < sizeLine := by
    have h1 : acc.length ≤ (xs.take i).length := by rw [hf]; exact List.length_filterMap_le ..
    have h2 : i < xs.length := by
      have := List.getElem?_eq_some_iff.mp hx
      exact this.1
    rw [List.length_take] at h1
    omega
  refine turn x (List.mem_of_getElem? hx) st u _ _ (fun y st5 h1 h2 => ?_) (fun st5 h1 h2 => ?_)
  · refine ⟨h2 _ _ trivial e, hlen, ?_, (u.trans h2).mut hp, put_same⟩
    rw [take_snoc hx, List.filterMap_append, hf]
    simp [h1]
  · refine ⟨?_, u.trans h2, h2 _ _ trivial e⟩
    rw [take_snoc hx, List.filterMap_append, hf]
    simp [h1]
/-- dict comprehensions without draws -/
theorem dc_keep {mk mv : ME} (f : D → Option (Key × D)) (hok : ∀ st', Keep st1 st' → ok st') (hl : xs.length ≤ sizeLine)
    (turn : ∀ x ∈ xs, ∀ st2, Keep st1 st2 → ∀ (P : D → D → Sto → Prop) (N : Sto → Prop), (∀ k y z st3, f x = some (k, z) → keyD y = some k → Keep st2 st3 → P y z st3) → (∀ st3, f x = none → Keep st2 st3 → N st3) → g x (wipeE env ws) st2 fun env2 st3 => mt env2 st3 fun b st4 => if b = true then mk env2 st4 fun y st5 => mv env2 st5 fun z st6 => P y z st6 else N st4)
    (fin : ∀ p st', Nf st1 p → Keep st1 st' → st' p = some (.dic ((xs.filterMap f).foldl (fun acc kv => putD acc kv.1 kv.2) [])) → Q (.ref p) st') :
    dcO xs ok g mt mk mv ws env st1 Q := by
  intro p hp
  have len : ∀ l : List (Key × D), ∀ acc : List (Key × D), (l.foldl (fun acc kv => putD acc kv.1 kv.2) acc).length ≤ acc.length + l.length := by
    intro l
    induction l with
    | nil => exact fun acc => Nat.le_refl _
    | cons kv l ih =>
      intro acc
      have h1 := ih (putD acc kv.1 kv.2)
      have h2 : (putD acc kv.1 kv.2).length ≤ acc.length + 1 := by
        unfold putD
        split <;> simp
      simp only [List.foldl_cons, List.length_cons]
      omega
  refine ⟨fun i acc st => acc = ((xs.take i).filterMap f).foldl (fun acc kv => putD acc kv.1 kv.2) [] ∧ Keep st1 st ∧ st p = some (.dic acc), ⟨by simp, Keep.put hp, put_same⟩, fun i acc st _ ⟨_, u, e⟩ => ⟨hok st u, e⟩, fun i acc x st hx ⟨hf, u, e⟩ => ?_, fun acc st ⟨hf, u, e⟩ => fin p st hp u (by rw [e, hf, List.take_length])⟩
  have hlen : acc.length < sizeLine := by
    have h1 : acc.length ≤ (xs.take i).length := by
      rw [hf]
      have a := len ((xs.take i).filterMap f) []
      have b : ((xs.take i).filterMap f).length ≤ (xs.take i).length := List.length_filterMap_le ..
      simp only [List.length_nil] at a
      omega
    have h2 : i < xs.length := by
      have := List.getElem?_eq_some_iff.mp hx
      exact this.1
    rw [List.length_take] at h1
    omega
  refine turn x (List.mem_of_getElem? hx) st u _ _ (fun k y z st5 h1 h0 h2 => ?_) (fun st5 h1 h2 => ?_)
  · refine ⟨k, h0, h2 _ _ trivial e, hlen, ?_, (u.trans h2).mut hp, put_same⟩
    rw [take_snoc hx, List.filterMap_append, List.foldl_append, hf]
    simp [h1]
  · refine ⟨?_, u.trans h2, h2 _ _ trivial e⟩
    rw [take_snoc hx, List.filterMap_append, List.foldl_append, hf]
    simp [h1]
end
/-- by the texts, by the ints -/
def onS (g : Str → Option D) : D → Option D
  | .str b => g b
  | _ => none
theorem onS_map (g : Str → Option D) (l : List Str) : (l.map D.str).filterMap (onS g) = l.filterMap g := by
  rw [List.filterMap_map]; rfl
theorem onS_str (g : Str → Option D) (b : Str) : onS g (.str b) = g b := rfl
def onI (g : Int → Option D) : D → Option D
  | .int b => g b
  | _ => none
theorem onI_map (g : Int → Option D) (l : List Int) : (l.map D.int).filterMap (onI g) = l.filterMap g := by
  rw [List.filterMap_map]; rfl
theorem fm_some {α β : Type} (g : α → β) (l : List α) : l.filterMap (fun x => some (g x)) = l.map g := by
  induction l with
  | nil => rfl
  | cons x l ih => simp [ih]
/-- keys unlike: the pairs as they come -/
theorem foldl_putD {κ : Type} [DecidableEq κ] : ∀ (l acc : List (κ × D)), ((acc ++ l).map (·.1)).Nodup → l.foldl (fun acc kv => putD acc kv.1 kv.2) acc = acc ++ l
  | [], acc, _ => by simp
  | kv :: l, acc, h => by
    have e : putD acc kv.1 kv.2 = acc ++ [kv] := by
      unfold putD
      rw [if_neg]
      intro c
      obtain ⟨x, hx, hk⟩ := List.any_eq_true.mp c
      rw [List.map_append, List.nodup_append] at h
      exact h.2.2 x.1 (List.mem_map.mpr ⟨x, hx, rfl⟩) kv.1 (by simp) (of_decide_eq_true hk)
    rw [List.foldl_cons, e, foldl_putD l (acc ++ [kv]) (by simpa using h)]
    simp
end L2.DL

namespace L2.DL
open PySem PySem.Spec PyProof.Rows

/-! ### sum, ord -/
section
variable {X : Cx}
def oSum : MC
  | [.ref a], st, Q => ∃ ns : List Int, rdL (st a) = some (ns.map D.int) ∧ Q (.int ns.sum) st
  | _, _, _ => False
theorem dc_sum (hc : X.calm = true) : DC X (.builtin "sum") oSum :=
  ⟨callr_mono (cr_sum hc) fun xs H Q ⟨ds, st, Q0, rx, rs, h, k⟩ => by
    unfold oSum at h
    split at h
    · cases rx with
      | cons r t =>
        cases t; cases r
        obtain ⟨ns, e, h⟩ := h
        obtain ⟨vs, g, r⟩ := rs.rdL e
        rw [r.ints] at g
        exact ⟨_, ns, rfl, g, k _ st _ H h .refl (.int _) rs⟩
    · exact h.elim⟩
def oOrd : MC
  | [.str z], st, Q => z.length = 1 ∧ Q (.int (z.cps.getD 0 0 : Nat)) st
  | _, _, _ => False
theorem dc_ord : DC X (.builtin "ord") oOrd :=
  ⟨callr_mono call_ord fun xs H Q ⟨ds, st, Q0, rx, rs, h, k⟩ => by
    unfold oOrd at h
    split at h
    · cases rx with
      | cons r t =>
        cases t; cases r
        exact ⟨_, rfl, h.1, k _ st _ H h.2 .refl (.int _) rs⟩
    · exact h.elim⟩
/-! ### enumerate of a list -/
def enumD (xs : List D) : List D := xs.zipIdx.map fun p => D.tup [.int (p.2 : Nat), p.1]
theorem enumD_len (xs : List D) : (enumD xs).length = xs.length := by simp [enumD]
theorem enumD_get {xs : List D} {i : Nat} {d : D} (h : xs[i]? = some d) : (enumD xs)[i]? = some (.tup [.int (i : Nat), d]) := by
  unfold enumD
  rw [List.getElem?_map, List.getElem?_zipIdx, h]
  simp
theorem src_enum {K : PySem.W.Frag} {H0 : Hp} {a : Addr} {ds : List D} : SrcJ K H0 (enumD ds) (fun st => rdL (st a) = some ds) (Ite K a) where
  stop := fun i H st h e rs o => by
    obtain ⟨vs, g, r⟩ := rs.rdL o
    rw [enumD_len] at h
    exact ⟨vs, g, by rw [← r.length]; exact h⟩
  go := fun i H st h e rs o => by
    obtain ⟨vs, g, r⟩ := rs.rdL o
    rw [enumD_len] at h
    obtain ⟨v, hv, _⟩ := r.get (List.getElem?_eq_getElem h)
    exact ⟨vs, v, g, hv⟩
  yld := fun i H st x H' h e rs o y => by
    obtain ⟨vs, g, r⟩ := rs.rdL o
    rw [enumD_len] at h
    obtain ⟨T, u, rfl, hT, rfl, hx⟩ := y
    obtain ⟨v, hv, rv⟩ := r.get (List.getElem?_eq_getElem h)
    have e1 : v = u := Option.some.inj (hv.symm.trans (hx vs g))
    subst e1
    have ex : Ext H (upd H T (.tup [.int (i : Nat), v])) := .upd_new hT
    refine ⟨_, enumD_get (List.getElem?_eq_getElem h), .tup (.of upd_same) (.cons (.int _) (.cons (rv.mono ex) .nil)), fun b u hb => ?_⟩
    rw [upd_ne (ne_of_none hb hT)]
    exact hb
/-! ### zip of two lists, of two tuples -/
def zipD (xs ys : List D) : List D := (xs.zip ys).map fun p => D.tup [p.1, p.2]
theorem zipD_len (xs ys : List D) : (zipD xs ys).length = min xs.length ys.length := by simp [zipD]
theorem zipD_get {xs ys : List D} {i : Nat} {d e : D} (h : xs[i]? = some d) (k : ys[i]? = some e) : (zipD xs ys)[i]? = some (.tup [d, e]) := by
  unfold zipD
  rw [List.getElem?_map, (List.getElem?_zip_eq_some (z := (d, e))).mpr ⟨h, k⟩]
  rfl
theorem src_zip {K : PySem.W.Frag} {H0 : Hp} {a b : Addr} {ds es : List D} : SrcJ K H0 (zipD ds es) (fun st => rdL (st a) = some ds ∧ rdL (st b) = some es) (Itz K a b) where
  stop := fun i H st h e rs o => by
    obtain ⟨vs, g, r⟩ := rs.rdL o.1
    obtain ⟨ws, g2, r2⟩ := rs.rdL o.2
    rw [zipD_len] at h
    refine ⟨vs, ws, g, g2, ?_⟩
    rw [← r.length, ← r2.length]
    omega
  go := fun i H st h e rs o => by
    obtain ⟨vs, g, r⟩ := rs.rdL o.1
    obtain ⟨ws, g2, r2⟩ := rs.rdL o.2
    rw [zipD_len] at h
    obtain ⟨v, hv, _⟩ := r.get (List.getElem?_eq_getElem (show i < ds.length by omega))
    obtain ⟨w, hw, _⟩ := r2.get (List.getElem?_eq_getElem (show i < es.length by omega))
    exact ⟨vs, ws, v, w, g, g2, hv, hw⟩
  yld := fun i H st x H' h e rs o y => by
    obtain ⟨vs, g, r⟩ := rs.rdL o.1
    obtain ⟨ws, g2, r2⟩ := rs.rdL o.2
    rw [zipD_len] at h
    obtain ⟨T, u, u2, rfl, hT, rfl, hx, hy⟩ := y
    have l1 := List.getElem?_eq_getElem (show i < ds.length by omega)
    have l2 := List.getElem?_eq_getElem (show i < es.length by omega)
    obtain ⟨v, hv, rv⟩ := r.get l1
    obtain ⟨w, hw, rw'⟩ := r2.get l2
    have e1 : v = u := Option.some.inj (hv.symm.trans (hx vs g))
    have e2 : w = u2 := Option.some.inj (hw.symm.trans (hy ws g2))
    subst e1 e2
    have ex : Ext H (upd H T (.tup [v, w])) := .upd_new hT
    refine ⟨_, zipD_get l1 l2, .tup (.of upd_same) (.cons (rv.mono ex) (.cons (rw'.mono ex) .nil)), fun b u hb => ?_⟩
    rw [upd_ne (ne_of_none hb hT)]
    exact hb
theorem src_zipT {K : PySem.W.Frag} {H0 : Hp} {a b : Addr} {ds es : List D} {vs ws : List V} {ok : Sto → Prop} (g0 : SqT K H0 a vs) (r0 : RelDs K H0 ds vs) (g1 : SqT K H0 b ws) (r1 : RelDs K H0 es ws) : SrcJ K H0 (zipD ds es) ok (RZ.ItzT K a b) where
  stop := fun i H st h e rs o => by
    rw [zipD_len] at h
    refine ⟨vs, ws, e.sqT g0, e.sqT g1, ?_⟩
    rw [← r0.length, ← r1.length]
    omega
  go := fun i H st h e rs o => by
    rw [zipD_len] at h
    obtain ⟨v, hv, _⟩ := r0.get (List.getElem?_eq_getElem (show i < ds.length by omega))
    obtain ⟨w, hw, _⟩ := r1.get (List.getElem?_eq_getElem (show i < es.length by omega))
    exact ⟨vs, ws, v, w, e.sqT g0, e.sqT g1, hv, hw⟩
  yld := fun i H st x H' h e rs o y => by
    rw [zipD_len] at h
    obtain ⟨T, u, u2, rfl, hT, rfl, hx, hy⟩ := y
    have l1 := List.getElem?_eq_getElem (show i < ds.length by omega)
    have l2 := List.getElem?_eq_getElem (show i < es.length by omega)
    obtain ⟨v, hv, rv⟩ := (r0.mono e).get l1
    obtain ⟨w, hw, rw'⟩ := (r1.mono e).get l2
    have e1 : v = u := Option.some.inj (hv.symm.trans (hx vs (e.sqT g0)))
    have e2 : w = u2 := Option.some.inj (hw.symm.trans (hy ws (e.sqT g1)))
    subst e1 e2
    have ex : Ext H (upd H T (.tup [v, w])) := .upd_new hT
    refine ⟨_, zipD_get l1 l2, .tup (.of upd_same) (.cons (rv.mono ex) (.cons (rw'.mono ex) .nil)), fun b u hb => ?_⟩
    rw [upd_ne (ne_of_none hb hT)]
    exact hb
def zpO : D → D → Sto → (List D → (Sto → Prop) → Sto → Prop) → Prop
  | .ref a, .ref b, st, Q => ∃ xs ys, rdL (st a) = some xs ∧ rdL (st b) = some ys ∧ Q (zipD xs ys) (fun st => rdL (st a) = some xs ∧ rdL (st b) = some ys) st
  | .tup xs, .tup ys, st, Q => Q (zipD xs ys) (fun _ => True) st
  | _, _, _, _ => False
def wZip (ma mb : ME) : MI := fun env st Q => ma env st fun x st1 => mb env st1 fun y st2 => zpO x y st2 Q
theorem di_zip {e e2 : Expr} {m m2 : ME} {p pos tpos : Pos} {elts : List Expr} {kk : Nat} (hg : Gl X "zip") (hm : X.mg "zip" = none) (he : DE X e m) (he2 : DE X e2 m2)
    (hs : starEach [e, e2] X.env = (false, eval e X.env) :: starEach [e2] X.env := by rfl) (hs2 : starEach [e2] X.env = (false, eval e2 X.env) :: starEach [] X.env := by rfl) (hpl : (backTo pos (starEach [e2] X.env)).any (·.1) = false := by rfl) :
    DI X (.Tuple elts kk tpos) (.Call (.Name "zip" p) [e, e2] [] pos) (wZip m m2) :=
  ⟨pi_mono (RZ.pi_zipA hg hm (pa_cons he.pe (pa_cons he2.pe pa_nil hs2) hs) hs hpl) fun σ H R ⟨env, st, Q0, re, rs, h, k⟩ =>
    lift_args2 (P := fun x y st => zpO x y st Q0) re rs h fun x y st1 x' y' H1 q ex rx ry rs1 => by
      cases x <;> cases y <;> try exact q.elim
      · cases rx; cases ry
        obtain ⟨xs, ys, h1, h2, q⟩ := q
        obtain ⟨vs, g, _⟩ := rs1.rdL h1
        obtain ⟨ws, g2, _⟩ := rs1.rdL h2
        exact ⟨_, _, vs, ws, rfl, .inl ⟨g, g2, k _ _ st1 _ H1 q ex rs1 src_zip⟩⟩
      · obtain ⟨a, vs, rfl, g, r⟩ := rx.tup_of
        obtain ⟨b, ws, rfl, g2, r2⟩ := ry.tup_of
        exact ⟨a, b, vs, ws, rfl, .inr ⟨g, g2, k _ _ st1 _ H1 q ex rs1 (src_zipT g r g2 r2)⟩⟩⟩
/-! ### dicts: {}, get, setdefault -/
def mDict0 : ME := fun _ st Q => ∀ p, Nf st p → Q (.ref p) (put st p (.dic []))
theorem de_dict0 {pos : Pos} : DE X (.Dict [] [] pos) mDict0 :=
  ⟨pe_mono pe_dnewK fun σ H Q ⟨env, st, Q0, re, rs, h, k⟩ => fun p hp => by
    have ex : Ext H (upd H p (.dK [])) := .upd_new hp
    exact k _ _ _ _ (h p (rs.fresh hp)) ex (.ref p) (rs.put (o := .dic []) ex ⟨[], upd_same, .nil⟩)⟩
def mGet1 (mo mi : ME) : ME := fun env st Q => mo env st fun x st1 => ∃ a kvs, x = .ref a ∧ rdD (st1 a) = some kvs ∧ mi env st1 fun y st2 => ∃ kvs2 k, rdD (st2 a) = some kvs2 ∧ keyD y = some k ∧ Q ((valD kvs2 k).getD .non) st2
def mGet2 (mo mi md : ME) : ME := fun env st Q => mo env st fun x st1 => ∃ a kvs, x = .ref a ∧ rdD (st1 a) = some kvs ∧ mi env st1 fun y st2 => md env st2 fun z st3 => ∃ kvs2 k, rdD (st3 a) = some kvs2 ∧ keyD y = some k ∧ Q ((valD kvs2 k).getD z) st3
def mSetd (mo mi md : ME) : ME := fun env st Q => mo env st fun x st1 => ∃ a kvs, x = .ref a ∧ rdD (st1 a) = some kvs ∧ mi env st1 fun y st2 => md env st2 fun z st3 => ∃ kvs2 k, st3 a = some (.dic kvs2) ∧ keyD y = some k ∧ kvs2.length < sizeLine ∧
  (∀ v, valD kvs2 k = some v → Q v st3) ∧ (valD kvs2 k = none → Q z (put st3 a (.dic (putD kvs2 k z))))
theorem RelX.getD {K : PySem.W.Frag} {H : Hp} {o : Option D} {o' : Option V} {d : D} {v : V} (r : RelX K H o o') (s : o.isSome = o'.isSome) (rd : RelD K H d v) : RelD K H (o.getD d) (o'.getD v) := by
  cases o with
  | none =>
    cases o' with
    | none => exact rd
    | some w => cases s
  | some e =>
    cases o' with
    | none => cases s
    | some w => exact r
theorem de_get1 (hu : X.A.units + 1 < cLine) {o e : Expr} {mo mi : ME} {apos cpos : Pos} (ho : DE X o mo) (he : DE X e mi) (m : L2.M1 X o "get" apos e cpos) : DE X (.Call (.Attribute o "get" apos) [e] [] cpos) (mGet1 mo mi) :=
  ⟨pe_mono (pe_dget1 hu ho.pe he.pe m) fun σ H Q ⟨env, st, Q0, re, rs, h, k⟩ => by
    refine lift_in re rs h fun x st1 x' H1 ⟨a, kvs, e1, e2, q1⟩ ex rx re1 rs1 => ?_
    subst e1
    cases rx
    obtain ⟨vs, g, r⟩ := rs1.rdD e2
    refine ⟨a, rfl, .inl ⟨vs, g⟩, ?_⟩
    refine lift_in re1 rs1 q1 fun y st2 y' H2 ⟨kvs2, kk, e3, ek, q2⟩ ex2 ry re2 rs2 => ?_
    obtain ⟨ws, g2, r2⟩ := rs2.rdD e3
    rw [key_rel ry ek]
    obtain ⟨rx, rs'⟩ := r2.valD kk
    exact ⟨_, .inl ⟨ws, kk, g2, rfl, rfl⟩, k _ st2 _ H2 q2 (ex.trans ex2) (rx.getD rs' .non) rs2⟩⟩
theorem de_get2 (hu : X.A.units + 1 < cLine) {o e f : Expr} {mo mi md : ME} {apos cpos : Pos} (ho : DE X o mo) (he : DE X e mi) (hf : DE X f md) (m : L2.M2 X o "get" apos e f cpos) : DE X (.Call (.Attribute o "get" apos) [e, f] [] cpos) (mGet2 mo mi md) :=
  ⟨pe_mono (pe_dget2 hu ho.pe he.pe hf.pe m) fun σ H Q ⟨env, st, Q0, re, rs, h, k⟩ => by
    refine lift_in re rs h fun x st1 x' H1 ⟨a, kvs, e1, e2, q1⟩ ex rx re1 rs1 => ?_
    subst e1
    cases rx
    obtain ⟨vs, g, r⟩ := rs1.rdD e2
    refine ⟨a, rfl, .inl ⟨vs, g⟩, ?_⟩
    refine lift_in re1 rs1 q1 fun y st2 y' H2 q2 ex2 ry re2 rs2 => ?_
    refine lift_in re2 rs2 q2 fun z st3 z' H3 ⟨kvs2, kk, e3, ek, q3⟩ ex3 rz re3 rs3 => ?_
    obtain ⟨ws, g2, r2⟩ := rs3.rdD e3
    rw [key_rel (ry.mono ex3) ek]
    obtain ⟨rx, rs'⟩ := r2.valD kk
    exact ⟨_, .inl ⟨ws, kk, g2, rfl, rfl⟩, k _ st3 _ H3 q3 (ex.trans (ex2.trans ex3)) (rx.getD rs' rz) rs3⟩⟩
theorem de_setd {o e f : Expr} {mo mi md : ME} {apos cpos : Pos} (ho : DE X o mo) (he : DE X e mi) (hf : DE X f md) (m : L2.M2 X o "setdefault" apos e f cpos) : DE X (.Call (.Attribute o "setdefault" apos) [e, f] [] cpos) (mSetd mo mi md) :=
  ⟨pe_mono (pe_dsetd ho.pe he.pe hf.pe m) fun σ H Q ⟨env, st, Q0, re, rs, h, k⟩ => by
    refine lift_in re rs h fun x st1 x' H1 ⟨a, kvs, e1, e2, q1⟩ ex rx re1 rs1 => ?_
    subst e1
    cases rx
    obtain ⟨vs, g, r⟩ := rs1.rdD e2
    refine ⟨a, rfl, .inl ⟨vs, g⟩, ?_⟩
    refine lift_in re1 rs1 q1 fun y st2 y' H2 q2 ex2 ry re2 rs2 => ?_
    refine lift_in re2 rs2 q2 fun z st3 z' H3 ⟨kvs2, kk, e3, ek, hl, q3, q4⟩ ex3 rz re3 rs3 => ?_
    obtain ⟨ws, g2, r2⟩ := rs3 _ _ e3
    have ey := key_rel (ry.mono ex3) ek
    obtain ⟨rx, rs'⟩ := r2.valD kk
    have exu : ∀ u, Ext H3 (upd H3 a u) := fun u => .upd_mut (by rw [g2]; trivial)
    refine ⟨ws, kk, g2, ey, by rw [r2.length]; exact hl, fun v hv => ?_, fun hv => ?_⟩
    · rw [hv] at rx rs'
      cases hd : valD kvs2 kk with
      | none => rw [hd] at rs'; cases rs'
      | some d =>
        rw [hd] at rx
        exact k _ st3 _ H3 (q3 d hd) (ex.trans (ex2.trans ex3)) rx rs3
    · rw [hv] at rs'
      have hd : valD kvs2 kk = none := by
        cases hd : valD kvs2 kk with
        | none => rfl
        | some d => rw [hd] at rs'; cases rs'
      exact k _ _ _ _ (q4 hd) ((ex.trans (ex2.trans ex3)).trans (exu _)) (rz.mono (exu _)) (rs3.put (o := .dic (putD kvs2 kk z)) (exu _) ⟨_, upd_same, (r2.put kk rz).mono (exu _)⟩)⟩
/-- xs.index(y), y there -/
def oIndex : MM
  | .ref a, [y], st, Q => ∃ xs j z, rdL (st a) = some xs ∧ flatD y = true ∧ xs.all flatD = true ∧ xs[j]? = some z ∧ eqF z y = true ∧ (∀ (m : Nat) (z' : D), m < j → xs[m]? = some z' → eqF z' y = false) ∧ Q (.int (j : Nat)) st
  | _, _, _, _ => False
theorem dm_index : DM X "list.index" oIndex :=
  ⟨mtr_mono mt_index fun x xs H Q ⟨dx, ds, st, Q0, rx, rxs, rs, h, k⟩ => by
    unfold oIndex at h
    split at h
    · cases rx
      cases rxs with
      | cons ry t =>
        cases t
        obtain ⟨ys, j, z, e, f1, f2, hj, e1, e2, q⟩ := h
        obtain ⟨vs, g, r⟩ := rs.rdL e
        obtain ⟨v, hv, rv⟩ := r.get hj
        have fz : ∀ m d, ys[m]? = some d → flatD d = true := fun m d hd => List.all_eq_true.mp f2 d (List.mem_of_getElem? hd)
        refine ⟨_, vs, _, j, v, rfl, rfl, g, flat_rel ry f1, flats_rel r f2, hv, by rw [eqF_rel rv ry (fz _ _ hj) f1]; exact e1, fun m w hm hw => ?_, k _ st _ H q .refl (.int _) rs⟩
        obtain ⟨d, hd, rd⟩ := r.getV hw
        rw [eqF_rel rd ry (fz _ _ hd) f1]
        exact e2 m d hm hd
    · exact h.elim⟩
end
end L2.DL

/-! enumerate of a tuple -/
namespace EnT
open PySem PySem.Spec PyProof.Rows L2
open Sem (wp)
open AutoSeq1 (wpAny_loadPart')
theorem new1 {v : Value} {o : Obj} {H : Heap → Prop} (B : Begins v o H) :
    Meets (Builtin.«enumerate.__new__» ⟨[.type "enumerate", v], []⟩) (fun _ R s => H s.heap ∧
      R (.ok (.ret (.ref (s.heap.push o).objs.size))) { s with heap := (s.heap.push o).push { cls := .type "enumerate", data := .fields #[.none, .bool false, .ref s.heap.objs.size, rawInt 0, .none, .none] } }) :=
  .of_wp fun prog w A R s h => by
    obtain ⟨hp, g, d, tk, os⟩ := s
    obtain ⟨h1, h⟩ := h
    have hsub := sub_enumerate
    have q1 : ∀ {A' : Around} {E : Value → Shared → Prop} {Q : Value → Shared → Prop}, Q (.ref hp.objs.size) ⟨hp.push o, g, d, tk, os⟩ → wpAny (model prog w) A' (pyIter v) Q E ⟨hp, g, d, tk, os⟩ :=
      fun q => B.iter prog w _ _ ⟨hp, g, d, tk, os⟩ _ h1 q
    wp_walk using q1
    refine wpAny_stack_any fun st => wpAny_pure ?_
    split
    · rename_i c _ _ _ _ _
      cases (c == Value.type "enumerate") <;> (wp_walk using q1; exact ⟨_, rfl, h⟩)
    · wp_walk using q1
      exact ⟨_, rfl, h⟩
section
variable {prog : Program} {w : World} {A : Around} {E : Value → Shared → Prop} {s : Shared}
theorem begins1 {v : Value} {o : Obj} {H : Heap → Prop} {Q : Value → Shared → Prop} (B : Begins v o H) (h1 : H s.heap)
    (h : ∀ h', IsEnum h' (s.heap.objs.size + 1) s.heap.objs.size 0 .none → h'.get? s.heap.objs.size = some o → h'.objs.size = s.heap.objs.size + 2 →
      (∀ b ob, s.heap.get? b = some ob → h'.get? b = some ob) → Q (.ref (s.heap.objs.size + 1)) { s with heap := h' }) :
    wpAny (model prog w) A (call (.type "enumerate") [v]) Q E s := by
  refine callType_new F.called_enumerate (by decide) (F.typeCall_enumerate_1 _) (F.newCall_enumerate_1 _) (fun obj => F.args_object_init_2 obj _) F.entry_enumerate_new (new1 B) ⟨h1, ?_⟩
  have hz : (s.heap.push o).objs.size = s.heap.objs.size + 1 := Heap.size_push ..
  have he := Heap.get?_push_size (s.heap.push o) (o := { cls := .type "enumerate", data := .fields #[.none, .bool false, .ref s.heap.objs.size, rawInt 0, .none, .none] }) rfl
  show _ ∧ _
  rw [hz] at he ⊢
  exact ⟨⟨_, he, rfl⟩, h _ he (Heap.get?_push_of_some _ (Heap.get?_push_size _ B.free)) (by rw [Heap.size_push, hz]) fun b ob x => Heap.get?_push_of_some _ (Heap.get?_push_of_some _ x)⟩
end
section
variable {prog : Program} {w : World} {A : Around} {E : Value → Shared → Prop} {s : Shared}
theorem end1 {e it t : Addr} {items : Array Value} {i : Nat} {k : Int} {old : Value} {Q : Option Value → Shared → Prop} (hh : A.handled = none) (he : IsEnum s.heap e it k old) (hit : s.heap.IsTupleIter it t i) (ht : s.heap.IsTuple t items) (hx : items[i]? = none)
    (hQ : ∀ h', Heap.ExtBut it s.heap h' → Q none { s with heap := h' }) : wpAny (model prog w) A (pyNext (.ref e)) Q E s := by
  have hT : s.TypeIs (.ref e) "enumerate" := ⟨_, he, rfl⟩
  unfold pyNext
  refine wpAny_bind (wpAny_attempt (wpAny_callSpecial?_slot (name := Str.ofString "__next__") hT F.slot_enumerate_next
    (wpAny_call_entry F.slot_enumerate_next hT F.entry_enumerate_next ?_ (F.args_enumerate_next_1 _))))
  show wpAny _ _ (field (.ref e) 2 >>= _) _ _ _
  refine wpAny_bind (wpAny_field he rfl (x := .ref it) rfl ?_)
  refine wpAny_bind (wpAny_nextOf_tuple_end hh hit ht hx fun h' x q hc => ?_)
  obtain ⟨o, ho, hc⟩ := hc
  refine wpAny_bind (wpAny_isInstance (T := "StopIteration") (b := true) ⟨o, ho, hc⟩ isSubtype_stop ?_)
  exact wpAny_pure (hQ _ q)
end
/-- the tuple at a, each item in a new pair -/
def Ie (K : PySem.W.Frag) (a : Addr) : It :=
  ⟨fun i H => ∃ (xs : List V) (x : V), SqT K H a xs ∧ xs[i]? = some x, fun i H v H' => ∃ T x, v = .ref T ∧ H T = none ∧ H' = upd H T (.tup [.int (i : Nat), x]) ∧ ∀ xs, SqT K H a xs → xs[i]? = some x, fun i H => ∃ xs : List V, SqT K H a xs ∧ xs.length ≤ i⟩
theorem turn {P : Program} {w : World} {K : PySem.W.Frag} {elts : List Expr} {kk : Nat} {tpos : Pos} (a e it : Addr) :
    Turn P w K (.Tuple elts kk tpos) (Ie K a) [e, it] e (fun i h => (∃ old, IsEnum h e it ((i : Nat) : Int) old) ∧ h.IsTupleIter it a i ∧ e ≠ it) where
  mem := by simp
  obj := fun i h st b hb => by
    obtain ⟨⟨old, he⟩, ⟨o, ho, hc, hd⟩, _⟩ := st
    have e' : b = e ∨ b = it := by simpa using hb
    rcases e' with z | z
    · subst z; exact ⟨_, he, fun v q => nomatch q⟩
    · subst z; exact ⟨o, ho, fun v q => by rw [hd] at q; cases q⟩
  keep := fun i h h' st k => let ⟨⟨old, he⟩, hi, hne⟩ := st; ⟨⟨old, k e (by simp) _ he⟩, hi.at fun o q => k it (by simp) o q, hne⟩
  item := by
    intro X hP hw hK hc i pins s σ H E I hf st hg
    subst hP hw hK
    obtain ⟨⟨old, he⟩, hit, hne⟩ := st
    obtain ⟨xs, x, hq, hx⟩ := hg
    obtain ⟨its, rv, p, hz⟩ := I.tuple hq
    obtain ⟨u, hu, ru⟩ := rv.get hx
    have hel : e < s.heap.objs.size := Heap.lt_size he
    have hil : it < s.heap.objs.size := by obtain ⟨_, q, _⟩ := hit; exact Heap.lt_size q
    have hp : s.heap.IsTuple a its.toArray := p
    have ai : a ≠ it := by
      rintro rfl
      obtain ⟨o1, q1, c1, _⟩ := hit
      obtain ⟨o2, q2, c2, _⟩ := hp
      rw [q1] at q2
      cases q2
      rw [c1] at c2
      exact absurd (Value.type.inj c2) (by decide)
    have ae : e ≠ a := by
      rintro rfl
      obtain ⟨o2, q2, c2, _⟩ := hp
      have q1 : s.heap.get? e = _ := he
      rw [q1] at q2
      cases q2
      exact absurd (Value.type.inj c2) (by decide)
    have hlt : i < its.toArray.size := by
      have := (List.getElem?_eq_some_iff.mp hu).1
      simpa using this
    refine wpAny_pyNext_enum_itemD (Draws.tuple (A := X.A.in1) (I.ok.hd hc) it a ai its.toArray) he ⟨hit, hp⟩ hlt hne (by simp [hne, ae]) fun u' h' tk hu' ho st' hT hsz hk => ?_
    obtain ⟨hit', _⟩ := st'
    have eu : u' = u := by
      have h1 : its.toArray[i]? = some u := by simpa using hu
      exact Option.some.inj (hu'.symm.trans h1)
    subst eu
    refine ⟨_, rfl, wpAny_letOwnedTupleGo_enum (s := { s with heap := h', toks := tk + 1 }) ho fun h'' he' sb => ?_⟩
    have hT2 := (sb.2 _ (Nat.ne_of_gt hel)).trans hT
    have new : ObjOk X.prog X.w (upd H s.heap.objs.size (.tup [.int (i : Nat), x])) h'' s.heap.objs.size (.tup [.int (i : Nat), x]) :=
      ⟨by show 2 ≤ sizeLine; decide, [.int i tk, u'], .cons ⟨_, rfl⟩ (.cons ru .nil), ⟨_, hT2, rfl, _, rfl⟩⟩
    have I1 : Inv X pins σ (upd H s.heap.objs.size (.tup [.int (i : Nat), x])) { s with heap := h'', toks := tk + 1 } :=
      I.turnedNew (ch := [e, it]) (fun b ob hb q => (sb.2 b (fun z => hb (by simp [z]))).trans (hk b ob (fun z => hb (by simp [z])) (fun z => hb (by simp [z])) q)) hf (Nat.le_refl _) new
    refine ⟨.ref s.heap.objs.size, _, I1, rfl, ⟨_, x, rfl, I.hok.fresh (Nat.le_refl _), rfl, fun ys hy => by rw [I.tuple_inj hy hq]; exact hx⟩, ⟨⟨u', ?_⟩, hit'.at fun o q => (sb.2 it (Ne.symm hne)).trans q, hne⟩, fun b hb => ?_⟩
    · have e1 : ((i + 1 : Nat) : Int) = (i : Int) + 1 := by omega
      rw [e1]
      exact he'
    · have hb' : b < s.heap.objs.size := by
        have e' : b = e ∨ b = it := by simpa using hb
        rcases e' with z | z
        · subst z; exact hel
        · subst z; exact hil
      rw [upd_ne (Nat.ne_of_lt hb')]
      exact (hf b hb).1
  done := by
    intro X hP hw hK hc i pins s σ H E I hf st hg
    subst hP hw hK
    obtain ⟨⟨old, he⟩, hit, hne⟩ := st
    obtain ⟨xs, hq, hx⟩ := hg
    obtain ⟨its, rv, p, hz⟩ := I.tuple hq
    have hp : s.heap.IsTuple a its.toArray := p
    obtain ⟨f0, f1, f2, f3, f4, f5⟩ := hf it (by simp)
    have hl := rv.length
    exact end1 (I.ok.hd hc) he hit hp (by simp; omega) fun h' eb => ⟨rfl, I.turned (t' := s.toks) (fun b o hb q => eb b o hb q) f0 f1 f3 f4 f5⟩
  self := fun A i s Q E st h => let ⟨⟨_, he⟩, _⟩ := st; wpAny_pyIter_enum he h
theorem pi_tup {X : Cx} {e : Expr} {te : TE} {p pos tpos : Pos} {elts : List Expr} {kk : Nat} (hg : Gl X "enumerate") (hm : X.mg "enumerate" = none) (he : PE X e te) (hs : starEach [e] X.env = [(false, eval e X.env)] := by rfl) :
    PI X (.Tuple elts kk tpos) (.Call (.Name "enumerate" p) [e] [] pos) (fun σ H R => te σ H fun x H1 => (∃ a xs, x = .ref a ∧ SqL X.K H1 a xs ∧ R (Ite X.K a) H1) ∨ (∃ a xs, x = .ref a ∧ SqT X.K H1 a xs ∧ R (Ie X.K a) H1)) := by
  refine ⟨fun pins s σ H R I h => ?_⟩
  refine Call_ (ld_blt I hg hm boot_enumerate (PyProof.Rows.callWith_type1 (thn ((pa_cons he pa_nil hs).run pos pins s σ H (fun vs H1 => match vs with
    | [x] => (∃ a xs, x = .ref a ∧ SqL X.K H1 a xs ∧ R (Ite X.K a) H1) ∨ (∃ a xs, x = .ref a ∧ SqT X.K H1 a xs ∧ R (Ie X.K a) H1)
    | _ => False) I h) fun us s1 ⟨vs, H1, I1, r1, q1⟩ => ?_) hs rfl))
  · cases r1 with
    | nil => exact q1.elim
    | cons r rr =>
      cases rr with
      | cons _ _ => exact q1.elim
      | nil =>
      rcases q1 with ⟨a, xs, rfl, hq, q⟩ | ⟨a, xs, rfl, hq, q⟩
      · cases r
        obtain ⟨its, rv, p', hz⟩ := I1.list hq
        refine begins1 (begins_list a its.toArray) p'.isList fun h' he hit hsz hk => wpAny_pyIter_enum he ?_
        have I2 : Inv X pins σ H1 { s1 with heap := h' } := I1.kept (t' := s1.toks) hk
        refine ⟨s1.heap.objs.size + 1, [s1.heap.objs.size + 1, s1.heap.objs.size], _, _, H1, rfl, I2, turn_enum a (s1.heap.objs.size + 1) s1.heap.objs.size, ⟨⟨.none, he⟩, ⟨_, hit, rfl, rfl⟩, Nat.succ_ne_self _⟩, fun b hb => ?_, q⟩
        have e' : b = s1.heap.objs.size + 1 ∨ b = s1.heap.objs.size := by simpa using hb
        have hle : s1.heap.objs.size ≤ b := by rcases e' with z | z <;> rw [z] <;> omega
        exact I1.fpOk hle (I1.hok.fresh hle)
      · cases r
        obtain ⟨its, rv, p', hz⟩ := I1.tuple hq
        have hp : s1.heap.IsTuple a its.toArray := p'
        refine begins1 (begins_tuple a its.toArray) hp fun h' he hit hsz hk => wpAny_pyIter_enum he ?_
        have I2 : Inv X pins σ H1 { s1 with heap := h' } := I1.kept (t' := s1.toks) hk
        refine ⟨s1.heap.objs.size + 1, [s1.heap.objs.size + 1, s1.heap.objs.size], _, _, H1, rfl, I2, turn a (s1.heap.objs.size + 1) s1.heap.objs.size, ⟨⟨.none, he⟩, ⟨_, hit, rfl, rfl⟩, Nat.succ_ne_self _⟩, fun b hb => ?_, q⟩
        have e' : b = s1.heap.objs.size + 1 ∨ b = s1.heap.objs.size := by simpa using hb
        have hle : s1.heap.objs.size ≤ b := by rcases e' with z | z <;> rw [z] <;> omega
        exact I1.fpOk hle (I1.hok.fresh hle)
end EnT
namespace L2.DL
open PySem PySem.Spec PyProof.Rows
theorem src_enumT {K : PySem.W.Frag} {H0 : Hp} {a : Addr} {ds : List D} {vs : List V} {ok : Sto → Prop} (g0 : SqT K H0 a vs) (r0 : RelDs K H0 ds vs) : SrcJ K H0 (enumD ds) ok (EnT.Ie K a) where
  stop := fun i H st h e rs o => by
    rw [enumD_len] at h
    exact ⟨vs, e.sqT g0, by rw [← r0.length]; exact h⟩
  go := fun i H st h e rs o => by
    rw [enumD_len] at h
    obtain ⟨v, hv, _⟩ := r0.get (List.getElem?_eq_getElem h)
    exact ⟨vs, v, e.sqT g0, hv⟩
  yld := fun i H st x H' h e rs o y => by
    rw [enumD_len] at h
    obtain ⟨T, u, rfl, hT, rfl, hx⟩ := y
    obtain ⟨v, hv, rv⟩ := (r0.mono e).get (List.getElem?_eq_getElem h)
    have e1 : v = u := Option.some.inj (hv.symm.trans (hx vs (e.sqT g0)))
    subst e1
    have ex : Ext H (upd H T (.tup [.int (i : Nat), v])) := .upd_new hT
    refine ⟨_, enumD_get (List.getElem?_eq_getElem h), .tup (.of upd_same) (.cons (.int _) (.cons (rv.mono ex) .nil)), fun b u hb => ?_⟩
    rw [upd_ne (ne_of_none hb hT)]
    exact hb
def enO : D → Sto → (List D → (Sto → Prop) → Sto → Prop) → Prop
  | .ref a, st, Q => ∃ xs, rdL (st a) = some xs ∧ Q (enumD xs) (fun st => rdL (st a) = some xs) st
  | .tup xs, st, Q => Q (enumD xs) (fun _ => True) st
  | _, _, _ => False
def wEnum (m : ME) : MI := fun env st Q => m env st fun x st1 => enO x st1 Q
theorem di_enum {X : Cx} {e : Expr} {m : ME} {p pos tpos : Pos} {elts : List Expr} {kk : Nat} (hg : Gl X "enumerate") (hm : X.mg "enumerate" = none) (he : DE X e m) (hs : starEach [e] X.env = [(false, eval e X.env)] := by rfl) :
    DI X (.Tuple elts kk tpos) (.Call (.Name "enumerate" p) [e] [] pos) (wEnum m) :=
  ⟨pi_mono (EnT.pi_tup hg hm he.pe hs) fun σ H R ⟨env, st, Q0, re, rs, h, k⟩ =>
    lift_in re rs h fun x st1 x' H1 q ex rx re1 rs1 => by
      cases x <;> try exact q.elim
      · cases rx
        obtain ⟨xs, e2, q⟩ := q
        obtain ⟨vs, g, r⟩ := rs1.rdL e2
        exact .inl ⟨_, vs, rfl, g, k _ _ st1 _ H1 q ex rs1 src_enum⟩
      · obtain ⟨a, vs, rfl, g, r⟩ := rx.tup_of
        exact .inr ⟨a, vs, rfl, g, k _ _ st1 _ H1 q ex rs1 (src_enumT g r)⟩⟩
theorem wEnum_a {m : ME} {env : Env} {st : Sto} {Q : List D → (Sto → Prop) → Sto → Prop} : wEnum m env st Q = m env st fun x st1 => enO x st1 Q := rfl
theorem enO_tup {xs : List D} {st : Sto} {Q : List D → (Sto → Prop) → Sto → Prop} : enO (.tup xs) st Q = Q (enumD xs) (fun _ => True) st := rfl
theorem enO_ref {a : Addr} {st : Sto} {Q : List D → (Sto → Prop) → Sto → Prop} : enO (.ref a) st Q = rdO (st a) fun xs => Q (enumD xs) (fun st => rdL (st a) = some xs) st := rdO_eq
/-- ranges, by their bounds -/
theorem wRng2_b {ma mb : ME} {env : Env} {st : Sto} {Q : List D → (Sto → Prop) → Sto → Prop} : wRng2 ma mb env st Q = ma env st fun x st1 => mb env st1 fun y st2 => iAt x st2 fun i st3 => iAt y st3 fun j st4 => (-(2 ^ 62) ≤ i ∧ i < 2 ^ 62 ∧ -(2 ^ 62) ≤ j ∧ j < 2 ^ 62) ∧ Q (rangeD i (j - i).toNat) (fun _ => True) st4 := by
  have e : (fun x st1 => mb env st1 fun y st2 => ∃ i j, x = D.int i ∧ y = D.int j ∧ (-(2 ^ 62) ≤ i ∧ i < 2 ^ 62 ∧ -(2 ^ 62) ≤ j ∧ j < 2 ^ 62) ∧ Q (rangeD i (j - i).toNat) (fun _ => True) st2) = fun x st1 => mb env st1 fun y st2 => iAt x st2 fun i st3 => iAt y st3 fun j st4 => (-(2 ^ 62) ≤ i ∧ i < 2 ^ 62 ∧ -(2 ^ 62) ≤ j ∧ j < 2 ^ 62) ∧ Q (rangeD i (j - i).toNat) (fun _ => True) st4 := by
    funext x st1
    congr 1
    funext y st2
    cases x <;> cases y <;> simp [iAt]
  unfold wRng2
  rw [e]
theorem wRng3_b {ma mb mc : ME} {env : Env} {st : Sto} {Q : List D → (Sto → Prop) → Sto → Prop} : wRng3 ma mb mc env st Q = ma env st fun x st1 => mb env st1 fun y st2 => mc env st2 fun z st3 => iAt x st3 fun i st4 => iAt y st4 fun j st5 => iAt z st5 fun c st6 => ∃ n, RgC i j c n ∧ Q (stepD i c n) (fun _ => True) st6 := by
  have e : (fun x st1 => mb env st1 fun y st2 => mc env st2 fun z st3 => ∃ i j c n, x = D.int i ∧ y = D.int j ∧ z = D.int c ∧ RgC i j c n ∧ Q (stepD i c n) (fun _ => True) st3) = fun x st1 => mb env st1 fun y st2 => mc env st2 fun z st3 => iAt x st3 fun i st4 => iAt y st4 fun j st5 => iAt z st5 fun c st6 => ∃ n, RgC i j c n ∧ Q (stepD i c n) (fun _ => True) st6 := by
    funext x st1
    congr 1
    funext y st2
    congr 1
    funext z st3
    cases x <;> cases y <;> cases z <;> simp [iAt]
  unfold wRng3
  rw [e]
end L2.DL

namespace L2.DL
open PySem PySem.Spec PyProof.Rows
local macro_rules | `(tactic| walk_at "s") => `(tactic| try simp only [sqAsg_a, sqDrop_a, sqPar_a, sqPar3_a, sqRet_a, sqNext_a, sqSeq_a, sNext_a, sBreak_a, sCont_a, sDrop_a, sRet_a, sRetN_a, sIf_a, sAsg_a, sPar_a, sPar3_a, mVar_a, vAt_a, mC_a, mBin_a, mTest_a, bAt_a, mAnd_a, mOr_a, mNot_a, mYes_a, mAndV_a, mOrV_a, mNotV_a, mIf_a, mNil_a, mCons_a, mTup_a, mLst_a, mCall_a, mCallK_a, mMeth_a, mSl_a, mNoPart_a, iAt_a, mPart_a, mIsi_b, tysO_some, List.any_cons, List.any_nil, Bool.or_false, Bool.false_or, Bool.or_true, Bool.true_or, Int.natCast_pos, gN_a, gTup_a, gCons_a, gNil_a, gSub_a, sFor_a, mLc_a, mDc_a, wSeq_a, sqO_tup, sqO_str, sqO_ref, wRng1_a, mRev_a, revO_ref, List.getD_cons_zero, List.getD_cons_succ, ite_self, List.set_cons_zero, List.set_cons_succ, List.getElem?_cons_zero, List.getElem?_cons_succ, oAdd_int, oAdd_str, oAdd_tup, oAdd_ref, oSub_int, oMul_int, oDiv_int, oMod_int, oPow_int, oLt_int, oLe_int, oGt_int, oGe_int, oIs_nn, oIs_bn, oIs_in, oIs_sn, oIs_tn, oIs_rn, oIs_bb, oIs_nb, oIs_ib, oIs_sb, oIs_tb, oIs_rb, oIsi_int, oIsi_str, oIsi_bool, oIsi_tuple, oIsi_list, oIsi_dict, tyO_some, tyD_non, tyD_bl, tyD_int, tyD_str, tyD_tup, isi_facts, oEq_int, oNe_int, oEq_str, oNe_str, oSl_tup, oSl_str, oSl_ref, oLen_tup, oLen_str, oLen_ref, oAbs_int, oInt_int, oInt_bl, oMax_int, oMin_int, oTuple_tup, oTuple_ref, oList_tup, oList_str, oList_ref, oIx_tupE, oIx_ref, oAppend_ref, oPop_ref, oExtend_tupE, oSet_ref, isL_ref, isS_str, vO_some, ixO_lst, ixO_dicI, ixO_dicS, ixO_rodI, ixO_rodS, lsO_lst, rdO_lst, rdO_rol, lenO_lst, lenO_dic, lenO_rol, addO_lst, setO_lst, setO_dicI, setO_dicS, atI_zero, atI_one, atI_two, atI_end, startE, wipeE, List.map_cons, List.map_nil, List.length_cons, List.length_nil, List.replicate, List.cons_append, List.nil_append, Nat.reduceAdd, Nat.reduceSub, List.replicate_succ, List.replicate_zero, put_same, Nat.zero_le, Int.reduceLT, Int.reduceLE, Nat.reduceLT, Nat.reduceLeDiff, and_true, true_and, Bool.false_eq_true, ↓reduceIte, Bool.not_true, Bool.not_false, decide_true, decide_false, *])
local macro_rules | `(tactic| walk_at "i") => `(tactic| try simp only [sqIf_a, sqAsg_a, sqDrop_a, sqPar_a, sqPar3_a, sqRet_a, sqNext_a, sqSeq_a, sNext_a, sBreak_a, sCont_a, sDrop_a, sRet_a, sRetN_a, sIf_a, sAsg_a, sPar_a, sPar3_a, mVar_a, vAt_a, mC_a, mBin_a, mTest_a, bAt_a, mAnd_a, mOr_a, mNot_a, mYes_a, mAndV_a, mOrV_a, mNotV_a, mIf_a, mNil_a, mCons_a, mTup_a, mLst_a, mCall_a, mCallK_a, mMeth_a, mSl_a, mNoPart_a, iAt_a, mPart_a, mIsi_b, tysO_some, List.any_cons, List.any_nil, Bool.or_false, Bool.false_or, Bool.or_true, Bool.true_or, Int.natCast_pos, gN_a, gTup_a, gCons_a, gNil_a, gSub_a, sFor_a, mLc_a, mDc_a, wSeq_a, sqO_tup, sqO_str, sqO_ref, wRng1_a, mRev_a, revO_ref, List.getD_cons_zero, List.getD_cons_succ, ite_self, List.set_cons_zero, List.set_cons_succ, List.getElem?_cons_zero, List.getElem?_cons_succ, oAdd_int, oAdd_str, oAdd_tup, oAdd_ref, oSub_int, oMul_int, oDiv_int, oMod_int, oPow_int, oLt_int, oLe_int, oGt_int, oGe_int, oIs_nn, oIs_bn, oIs_in, oIs_sn, oIs_tn, oIs_rn, oIs_bb, oIs_nb, oIs_ib, oIs_sb, oIs_tb, oIs_rb, oIsi_int, oIsi_str, oIsi_bool, oIsi_tuple, oIsi_list, oIsi_dict, tyO_some, tyD_non, tyD_bl, tyD_int, tyD_str, tyD_tup, isi_facts, oEq_int, oNe_int, oEq_str, oNe_str, oSl_tup, oSl_str, oSl_ref, oLen_tup, oLen_str, oLen_ref, oAbs_int, oInt_int, oInt_bl, oMax_int, oMin_int, oTuple_tup, oTuple_ref, oList_tup, oList_str, oList_ref, oIx_tupE, oIx_ref, oAppend_ref, oPop_ref, oExtend_tupE, oSet_ref, isL_ref, isS_str, vO_some, ixO_lst, ixO_dicI, ixO_dicS, ixO_rodI, ixO_rodS, lsO_lst, rdO_lst, rdO_rol, lenO_lst, lenO_dic, lenO_rol, addO_lst, setO_lst, setO_dicI, setO_dicS, atI_zero, atI_one, atI_two, atI_end, startE, wipeE, List.map_cons, List.map_nil, List.length_cons, List.length_nil, List.replicate, List.cons_append, List.nil_append, Nat.reduceAdd, Nat.reduceSub, List.replicate_succ, List.replicate_zero, put_same, Nat.zero_le, Int.reduceLT, Int.reduceLE, Nat.reduceLT, Nat.reduceLeDiff, and_true, true_and, Bool.false_eq_true, ↓reduceIte, Bool.not_true, Bool.not_false, decide_true, decide_false, *])

/-! ### what the defs at the head of the text promise -/
def S_law_deal : DSp := fun vs st Q => ∃ (a : Addr) (ns : List Int) (s : Int), vs = [.ref a, .int s] ∧ st a = some (.rol (ns.map D.int)) ∧ 0 ≤ s ∧ s ≤ 1000 ∧ ∀ n m st', Deal st' n m → Q (.ref n) st'
def S_law_any : DSp := fun vs st Q => ∃ (n m : Addr) (b : Int), vs = [.ref n, .int b] ∧ Deal st n m ∧ 0 < b ∧ b < 1000000000 ∧ ∀ k st', 0 ≤ k → k < b → Up n m st st' → Q (.int k) st'
/-- _law_deal(script, salt): 0 script 1 salt 2 most 3 cells 4 mix 5 cell -/
def t_law_deal : MS := sSeq (sAsg (mBin oMul (mBin oMul (mBin oMul (mBin oMul (mBin oMul (mBin oPow (mC (.int 10)) (mC (.int 64))) (mBin oPow (mC (.int 10)) (mC (.int 64)))) (mBin oPow (mC (.int 10)) (mC (.int 64)))) (mBin oPow (mC (.int 10)) (mC (.int 64)))) (mBin oPow (mC (.int 10)) (mC (.int 64)))) (mBin oPow (mC (.int 10)) (mC (.int 64)))) (gN 2))
    (sSeq (sAsg (mLc (wSeq (mSl (mVar 0) (mNoPart) (mPart (mC (.int 63))))) (gN 5) (mYes) (mBin oMod (mCall oInt (mCons (mCall oAbs (mCons (mCall oInt (mCons (mVar 5) (mNil))) (mNil))) (mNil))) (mVar 2)) [5]) (gN 3))
    (sSeq (sAsg (mBin oAdd (mC (.int 70001)) (mBin oMul (mC (.int 7919)) (mVar 1))) (gN 4))
    (sSeq (sFor (wSeq (mVar 3)) (gN 5) (sAsg (mBin oMod (mCall oInt (mCons (mBin oAdd (mBin oAdd (mBin oMul (mVar 4) (mC (.int 69621))) (mBin oMod (mCall oInt (mCons (mVar 5) (mNil))) (mC (.int 2147483563)))) (mC (.int 23))) (mNil))) (mC (.int 2147483647))) (gN 4)))
    (sRet (mLst (mCons (mRev (mLc (wSeq (mVar 3)) (gN 5) (mTest (mBin oGe (mVar 5) (mBin oPow (mC (.int 10)) (mC (.int 18))))) (mVar 5) [5])) (mCons (mVar 4) (mNil))))))))
/-- _law_any(deal, bound): 0 deal 1 bound 2 rest -/
def t_law_any : MS := sSeq (sWhile (mAnd (mTest (mBin oGt (mCall oLen (mCons (mBin oIx (mVar 0) (mC (.int 0))) (mNil))) (mC (.int 0)))) (mTest (mBin oEq (mBin oIx (mBin oIx (mVar 0) (mC (.int 0))) (mC (.int (-1)))) (mC (.int 0))))) (sDrop (mMeth isL oPop (mBin oIx (mVar 0) (mC (.int 0))) mNil)))
    (sSeq (sIf (mTest (mBin oGt (mCall oLen (mCons (mBin oIx (mVar 0) (mC (.int 0))) (mNil))) (mC (.int 0)))) (sSeq (sAsg (mCall oInt (mCons (mMeth isL oPop (mBin oIx (mVar 0) (mC (.int 0))) mNil) (mNil))) (gN 2))
    (sSeq (sDrop (mMeth isL oAppend (mBin oIx (mVar 0) (mC (.int 0))) (mCons (mBin oDiv (mVar 2) (mVar 1)) (mNil))))
    (sRet (mBin oMod (mVar 2) (mVar 1))))) (sNext))
    (sSeq (sAsg (mBin oMod (mCall oInt (mCons (mBin oAdd (mBin oMul (mBin oIx (mVar 0) (mC (.int 1))) (mC (.int 48271))) (mC (.int 31))) (mNil))) (mC (.int 2147483647))) (gSub (mVar 0) (mC (.int 1)) oSet))
    (sRet (mBin oMod (mCall oInt (mCons (mBin oDiv (mBin oIx (mVar 0) (mC (.int 1))) (mC (.int 64))) (mNil))) (mVar 1)))))
/-- what a draw leaves -/
theorem DealAt.draw {st : Sto} {n m : Addr} {cells cells' : List Int} {mix : Int} (h : DealAt st n m cells mix) (nn : ∀ c ∈ cells', 0 ≤ c) (sz : cells'.length ≤ 63) : DealAt (put st m (.lst (cells'.map D.int))) n m cells' mix :=
  ⟨by rw [put_ne h.ne]; exact h.ln, put_same, nn, h.m0, h.m1, sz⟩
theorem DealAt.remix {st : Sto} {n m : Addr} {cells : List Int} {mix mix' : Int} (h : DealAt st n m cells mix) (h0 : 0 ≤ mix') (h1 : mix' < 2147483647) : DealAt (put st n (.lst [.ref m, .int mix'])) n m cells mix' :=
  ⟨put_same, by rw [put_ne h.ne.symm]; exact h.lm, h.nn, h0, h1, h.sz⟩
theorem Up.draw {st st' : Sto} {n m a : Addr} {o : Ob} (u : Up n m st st') (ha : a = n ∨ a = m) (d : Deal (DL.put st' a o) n m) : Up n m st (DL.put st' a o) :=
  ⟨fun x v h1 h2 hn e => by
    rw [put_ne (by rcases ha with rfl | rfl <;> assumption)]
    exact u.keep x v h1 h2 hn e, d⟩
theorem kp_law_any : Keeps 2 3 S_law_any t_law_any := by
  refine ⟨fun ds st Q ⟨n, m, b, e, _⟩ => by rw [e]; rfl, fun ds st Q ⟨n, m, b, e, hd, b0, b1, k⟩ => ?_⟩
  subst e
  unfold t_law_any
  obtain ⟨cells0, mix0, hd0⟩ := hd
  refine sSeq_i (fun env st' => env = [some (D.ref n), some (D.int b), none] ∧ Up n m st st') (fun nx hx => ?_) fun env st1 ⟨e, hu⟩ => ?_
  · refine ⟨fun j env st' => env = [some (D.ref n), some (D.int b), none] ∧ ∃ cells mix, DealAt st' n m cells mix ∧ cells.length = j ∧ Up n m st st', ⟨_, rfl, _, _, hd0, rfl, Up.refl ⟨_, _, hd0⟩⟩, ?_⟩
    clear hd0 cells0 mix0 k
    rintro j env st1 ⟨rfl, cells, mix, hd1, hj, hu⟩
    have ln := hd1.ln
    have lm := hd1.lm
    have hx1 := hx _ _ ⟨rfl, hu⟩
    rcases List.eq_nil_or_concat cells with rfl | ⟨l, c, rfl⟩
    · walk_at "s"
    · rw [List.concat_eq_append] at *
      have e1 : (List.map D.int (l ++ [c])).getLast? = some (.int c) := by simp
      have e2 : (List.map D.int (l ++ [c])).dropLast = l.map D.int := by simp
      have e3 : 0 < (List.map D.int (l ++ [c])).length := by simp
      have hd2 : DealAt (put st1 m (.lst (l.map D.int))) n m l mix := hd1.draw (fun c' hc => hd1.nn c' (List.mem_append_left _ hc)) (by have := hd1.sz; rw [List.length_append] at this; omega)
      have hn : Up n m st (put st1 m (.lst (l.map D.int))) := hu.draw (.inr rfl) ⟨l, mix, hd2⟩
      have hq : ∃ m', m' < j ∧ ∃ cells mix, DealAt (put st1 m (.lst (l.map D.int))) n m cells mix ∧ cells.length = m' ∧ Up n m st (put st1 m (.lst (l.map D.int))) :=
        ⟨l.length, by rw [← hj]; simp, l, mix, hd2, rfl, hn⟩
      clear hx
      walk_at "s"
      by_cases hc : c = 0
      · subst hc
        simp only [decide_true, if_true]
        obtain ⟨m', h1, cl, mx, h2, h3, h4⟩ := hq
        exact ⟨m', h1, cl, mx, h2, h3⟩
      · simp [hc]
  · subst e
    obtain ⟨cells, mix, hd1⟩ := hu.deal
    have ln := hd1.ln
    have lm := hd1.lm
    rw [sqIf_a]
    have q1 := hd1.m0
    have q2 := hd1.m1
    rcases List.eq_nil_or_concat cells with rfl | ⟨l, c, rfl⟩
    · have w1 : CMulW mix 48271 := wide_mul (a := 31) (b := 16) (by omega) (by omega) (by omega) (by omega) (by omega)
      have w2 : CDivW ((mix * 48271 + 31) % 2147483647) 64 := wide_div (b := 7) (by omega) (by omega) (by omega) (by omega)
      have e5 : ixN 2 1 = some 1 := by decide
      walk_at "s"
      refine ⟨_, rfl, ?_⟩
      walk_at "s"
      refine endsOf_i (k _ _ (Int.emod_nonneg _ (by omega)) (Int.emod_lt_of_pos _ b0) (hu.draw (.inl rfl) ⟨[], _, hd1.remix (by omega) (by omega)⟩))
    · rw [List.concat_eq_append] at *
      have e1 : (List.map D.int (l ++ [c])).getLast? = some (.int c) := by simp
      have e2 : (List.map D.int (l ++ [c])).dropLast = l.map D.int := by simp
      have e3 : 0 < (List.map D.int (l ++ [c])).length := by simp
      have c0 := hd1.nn c (by simp)
      have sz := hd1.sz
      have e4 : put st1 m (.lst (l.map D.int)) n = some (.lst [.ref m, .int mix]) := by rw [put_ne hd1.ne]; exact hd1.ln
      have w1 : CDivW c b := wide_div (b := 30) b0 (by omega) (by omega) (by omega)
      have w3 : (l.map D.int).length < sizeLine := by
        rw [List.length_append] at sz
        rw [List.length_map]
        have : sizeLine = 16777216 := rfl
        omega
      walk_at "s"
      have e6 : l.map D.int ++ [D.int (c / b)] = (l ++ [c / b]).map D.int := by simp
      rw [put_put, e6]
      refine endsOf_i (k _ _ (Int.emod_nonneg _ (by omega)) (Int.emod_lt_of_pos _ b0) (hu.draw (.inr rfl) ⟨_, _, hd1.draw (cells' := l ++ [c / b]) (fun c' hc => ?_) (by simpa using sz)⟩))
      rcases List.mem_append.mp hc with hc | hc
      · exact hd1.nn c' (List.mem_append_left _ hc)
      · rw [List.mem_singleton.mp hc]
        exact Int.ediv_nonneg c0 (by omega)
/-- a list or tuple apart from the deal -/
def sq (st : Sto) (n m : Addr) : D → List D → Prop
  | .tup ys, xs => ys = xs
  | .ref a, xs => a ≠ n ∧ a ≠ m ∧ st a = some (.lst xs)
  | .str z, xs => z.length ≤ sizeLine ∧ signsD z = xs
  | _, _ => False
theorem signsD_len (z : Str) : (signsD z).length = z.length := by
  unfold signsD
  rw [List.length_map, Array.length_toList]
  rfl
theorem atI_signs (z : Str) (i : Int) : atI (signsD z) i = (atI z.cps.toList i).map fun c => D.str ⟨#[c]⟩ := by
  unfold signsD atI
  rw [List.length_map]
  cases ixN z.cps.toList.length i with
  | none => rfl
  | some j => rw [Option.bind_some, Option.bind_some, List.getElem?_map]
theorem oIx_strO {z : Str} {i : Int} {st : Sto} {Q : DK} (hz : z.length ≤ sizeLine) : oIx (.str z) (.int i) st Q = vO (atI (signsD z) i) st Q := by
  rw [atI_signs]
  show (z.length ≤ sizeLine ∧ ∃ c, atI z.cps.toList i = some c ∧ Q (.str ⟨#[c]⟩) st) = _
  cases e : atI z.cps.toList i with
  | none => simp [vO]
  | some c => simp [vO, hz]
theorem sq.up {st st' : Sto} {n m : Addr} {x : D} {xs : List D} (h : sq st n m x xs) (u : Up n m st st') : sq st' n m x xs := by
  cases x <;> try exact h
  exact ⟨h.1, h.2.1, u.keep _ _ h.1 h.2.1 trivial h.2.2⟩
theorem sq.len {st : Sto} {n m : Addr} {x : D} {xs : List D} {Q : DK} (h : sq st n m x xs) : oLen [x] st Q = Q (.int xs.length) st := by
  cases x <;> try exact h.elim
  · obtain ⟨h1, rfl⟩ := h
    rw [oLen_str, signsD_len]
    simp [h1]
  · rw [oLen_ref, h.2.2]; rfl
  · have e : _ = xs := h
    rw [oLen_tup, e]
theorem sq.ix {st : Sto} {n m : Addr} {x : D} {xs : List D} {i : Int} {Q : DK} (h : sq st n m x xs) : oIx x (.int i) st Q = vO (atI xs i) st Q := by
  cases x <;> try exact h.elim
  · obtain ⟨h1, rfl⟩ := h
    exact oIx_strO h1
  · rw [oIx_ref, h.2.2]; rfl
  · have e : _ = xs := h
    rw [oIx_tupE, e]
def S_law_of : DSp := fun vs st Q => ∃ (n m : Addr) (x : D) (xs : List D), vs = [.ref n, x] ∧ Deal st n m ∧ sq st n m x xs ∧ 0 < xs.length ∧ xs.length < 1000000 ∧ ∀ d st', d ∈ xs → Up n m st st' → Q d st'
def S_law_is_kind : DSp := fun vs st Q => ∃ d, vs = [d, d] ∧ flatD d = true ∧ Q (.bl true) st
/-- _law_of(deal, some): 0 deal 1 some -/
def t_law_of : MS := sRet (mBin oIx (mVar 1) (mCall S_law_any (mCons (mVar 0) (mCons (mCall oLen (mCons (mVar 1) (mNil))) (mNil)))))
theorem kp_law_of : Keeps 2 2 S_law_of t_law_of := by
  refine ⟨fun ds st Q ⟨n, m, x, xs, e, _⟩ => by rw [e]; rfl, fun ds st Q ⟨n, m, x, xs, e, hd, hs, l0, l1, k⟩ => ?_⟩
  subst e
  unfold t_law_of
  have e1 := fun Q => hs.len (Q := Q)
  walk_at "s"
  refine ⟨n, m, _, rfl, hd, by omega, by omega, fun i st' h0 h1 u => ?_⟩
  show oIx x (.int i) st' _
  rw [(hs.up u).ix]
  obtain ⟨j, rfl⟩ : ∃ j : Nat, i = j := ⟨i.toNat, by omega⟩
  have hj : j < xs.length := by omega
  rw [atI_ofNat, List.getElem?_eq_getElem hj]
  exact endsOf_i (k _ _ (List.getElem_mem hj) u)
/-- _law_is_kind(told, due): 0 told 1 due -/
def t_law_is_kind : MS := sSeq (sIf (mTest (mBin oIs (mVar 1) (mC .non))) (sRet (mBin oIs (mVar 0) (mC .non))) (sNext))
    (sSeq (sIf (mOr (mTest (mBin oIs (mVar 1) (mC (.bl true)))) (mTest (mBin oIs (mVar 1) (mC (.bl false))))) (sRet (mIf (mTest (mVar 1)) (mBin oIs (mVar 0) (mC (.bl true))) (mBin oIs (mVar 0) (mC (.bl false))))) (sNext))
    (sSeq (sIf (mTest (mCall oIsi (mCons (mVar 1) (mCons (mC (.ty "str")) (mNil))))) (sRet (mAndV (mCall oIsi (mCons (mVar 0) (mCons (mC (.ty "str")) (mNil)))) (mBin oEq (mVar 0) (mVar 1)))) (sNext))
    (sRet (mAndV (mCall oIsi (mCons (mVar 0) (mCons (mC (.ty "int")) (mNil)))) (mAndV (mNotV (mCall oIsi (mCons (mVar 0) (mCons (mC (.ty "bool")) (mNil))))) (mBin oEq (mVar 0) (mVar 1)))))))
theorem kp_law_is_kind : Keeps 2 2 S_law_is_kind t_law_is_kind := by
  refine ⟨fun ds st Q ⟨d, e, _⟩ => by rw [e]; rfl, fun ds st Q ⟨d, e, hf, k⟩ => ?_⟩
  subst e
  have q : (endsOf Q).rt (.bl true) st := endsOf_i k
  unfold t_law_is_kind
  cases d with
  | non => walk_at "i"
  | bl b => cases b <;> walk_at "i"
  | int b => walk_at "i"
  | str b => walk_at "i"
  | _ => cases hf
/-- plain data: no lists, no dicts -/
def datD : D → Bool
  | .non => true
  | .bl _ => true
  | .int _ => true
  | .str _ => true
  | .tup xs => datDs xs
  | _ => false
where datDs : List D → Bool
  | [] => true
  | x :: xs => datD x && datDs xs
def wD : D → Nat
  | .tup xs => 1 + wDs xs
  | _ => 1
where wDs : List D → Nat
  | [] => 0
  | x :: xs => wD x + wDs xs
theorem wD_pos (d : D) : 0 < wD d := by cases d <;> simp [wD] <;> omega
theorem datDs_all : ∀ {xs : List D}, datD.datDs xs = true → ∀ d ∈ xs, datD d = true
  | [], _, _, h => by cases h
  | x :: xs, e, d, h => by
    rw [datD.datDs, Bool.and_eq_true] at e
    rcases List.mem_cons.mp h with rfl | h
    · exact e.1
    · exact datDs_all e.2 d h
theorem datDs_of : ∀ {xs : List D}, (∀ d ∈ xs, datD d = true) → datD.datDs xs = true
  | [], _ => rfl
  | x :: xs, h => by
    rw [datD.datDs, Bool.and_eq_true]
    exact ⟨h x (List.mem_cons_self ..), datDs_of fun d hd => h d (List.mem_cons_of_mem _ hd)⟩
theorem wDs_append : ∀ (xs ys : List D), wD.wDs (xs ++ ys) = wD.wDs xs + wD.wDs ys
  | [], _ => by simp [wD.wDs]
  | x :: xs, ys => by rw [List.cons_append, wD.wDs, wD.wDs, wDs_append xs ys]; omega
theorem wDs_len : ∀ (xs : List D), xs.length ≤ wD.wDs xs
  | [] => Nat.le_refl _
  | x :: xs => by
    have := wDs_len xs
    have := wD_pos x
    rw [List.length_cons, wD.wDs]
    omega
def S_law_same : DSp := fun vs st Q => ∃ d, vs = [d, d] ∧ datD d = true ∧ wD d ≤ 10000000 ∧ ∀ st', Keep st st' → Q (.bl true) st'
/-- a thing twice -/
def twice (d : D) : D := .tup [d, d]
/-- _law_same(told, due): 0 told 1 due 2 todo 3 one 4 other 5 at -/
def t_law_same : MS := sSeq (sAsg (mLst (mCons (mTup (mCons (mVar 0) (mCons (mVar 1) (mNil)))) (mNil))) (gN 2))
    (sSeq (sWhile (mTest (mBin oGt (mCall oLen (mCons (mVar 2) (mNil))) (mC (.int 0)))) (sSeq (sAsg (mMeth isL oPop (mVar 2) mNil) (gTup 2 (gCons (gN 3) (gCons (gN 4) (gNil)))))
    (sIf (mTest (mCall oIsi (mCons (mVar 4) (mCons (mC (.ty "tuple")) (mNil))))) (sSeq (sIf (mOr (mNot (mTest (mCall oIsi (mCons (mVar 3) (mCons (mC (.ty "tuple")) (mNil)))))) (mTest (mBin oNe (mCall oLen (mCons (mVar 3) (mNil))) (mCall oLen (mCons (mVar 4) (mNil)))))) (sRet (mC (.bl false))) (sNext))
    (sFor (wRng1 (mCall oLen (mCons (mVar 4) (mNil)))) (gN 5) (sDrop (mMeth isL oAppend (mVar 2) (mCons (mTup (mCons (mBin oIx (mVar 3) (mVar 5)) (mCons (mBin oIx (mVar 4) (mVar 5)) (mNil)))) (mNil)))))) (sIf (mOr (mTest (mIsi ["tuple", "list", "dict"] (mVar 3))) (mNot (mTest (mCall S_law_is_kind (mCons (mVar 3) (mCons (mVar 4) (mNil))))))) (sRet (mC (.bl false))) (sNext)))))
    (sRet (mC (.bl true))))
theorem kp_law_same : Keeps 2 6 S_law_same t_law_same := by
  refine ⟨fun ds st Q ⟨d, e, _⟩ => by rw [e]; rfl, fun ds st Q ⟨d, e, hf, hw, k⟩ => ?_⟩
  subst e
  have sz2 : 2 ≤ sizeLine := by decide
  have sz1 : 1 ≤ sizeLine := by decide
  unfold t_law_same
  walk_at "s"
  intro p hp
  refine sSeq_i (fun env st' => Keep st st') (fun nx hx => ?_) fun env st1 hk => ?_
  · refine ⟨fun j env st' => ∃ x y z, env = [some d, some d, some (.ref p), x, y, z] ∧ ∃ ds : List D, st' p = some (.lst (ds.map twice)) ∧ (∀ d ∈ ds, datD d = true) ∧ wD.wDs ds = j ∧ j ≤ 10000000 ∧ Keep st st', ⟨wD d, none, none, none, rfl, [d], put_same, fun d' h => by rw [List.mem_singleton.mp h]; exact hf, rfl, hw, Keep.put hp⟩, ?_⟩
    rintro j env st1 ⟨x, y, z, rfl, ds, lp, hds, hj, hj2, hk⟩
    have hx1 := fun env => hx env _ hk
    rcases List.eq_nil_or_concat ds with rfl | ⟨l, c, rfl⟩
    · walk_at "i"
    · rw [List.concat_eq_append] at *
      have e1 : ((l ++ [c]).map twice).getLast? = some (.tup [c, c]) := by simp [twice]
      have e2 : ((l ++ [c]).map twice).dropLast = l.map twice := by simp
      have e3 : 0 < ((l ++ [c]).map twice).length := by simp
      have hc := hds c (by simp)
      have hj' : wD.wDs l + wD c = j := by rw [← hj, wDs_append]; simp [wD.wDs]
      have hl := wDs_len l
      have hcp := wD_pos c
      have hds' : ∀ d ∈ l, datD d = true := fun d hd => hds d (List.mem_append_left _ hd)
      have kp : Keep st (put st1 p (.lst (l.map twice))) := hk.mut hp
      have lp2 : put st1 p (.lst (l.map twice)) p = some (.lst (l.map twice)) := put_same
      clear hx hk hds
      walk_at "i"
      clear e1 e2 e3 lp hx1
      generalize put st1 p (.lst (l.map twice)) = st2 at *
      cases c with
      | tup xs =>
        have h1 : wD (.tup xs) = 1 + wD.wDs xs := rfl
        have hl2 := wDs_len xs
        have hcs := datDs_all (xs := xs) hc
        walk_at "i"
        refine ⟨by omega, fun i env st' => ∃ z, env = [some d, some d, some (.ref p), some (.tup xs), some (.tup xs), z] ∧ st' p = some (.lst ((l ++ xs.take i).map twice)) ∧ Keep st st', ⟨z, rfl, by simpa using lp2, kp⟩, fun _ _ _ _ _ => trivial, ?_, ?_⟩
        · rintro i w env st' hw ⟨z, rfl, lp3, kp3⟩
          have hi : i < xs.length := by
            have := List.getElem?_eq_some_iff.mp hw
            obtain ⟨h, _⟩ := this
            simpa [rangeD] using h
          have ew : w = .int ((i : Nat) : Int) := by
            simp [rangeD, hi] at hw
            exact hw.symm
          subst ew
          have e5 : atI xs ((i : Nat) : Int) = some xs[i] := by rw [atI_ofNat, List.getElem?_eq_getElem hi]
          have e6 : ((l ++ xs.take i).map twice).length < sizeLine := by
            rw [List.length_map, List.length_append, List.length_take, szL]
            omega
          walk_at "i"
          refine ⟨_, rfl, ?_, kp3.mut hp⟩
          congr 2
          rw [take_snoc (List.getElem?_eq_getElem hi), ← List.append_assoc]
          exact (List.map_append (f := twice) (l₁ := l ++ xs.take i) (l₂ := [xs[i]])).symm
        · rintro env st' ⟨z, rfl, lp3, kp3⟩
          rw [show (rangeD 0 (xs.length : Int).toNat).length = xs.length by simp [rangeD], List.take_length] at lp3
          refine ⟨_, by omega, _, _, _, rfl, l ++ xs, lp3, fun d' hd => ?_, wDs_append .., by omega, kp3⟩
          rcases List.mem_append.mp hd with hd | hd
          · exact hds' d' hd
          · exact hcs d' hd
      | non =>
        walk_at "i"
        exact ⟨_, rfl, rfl, _, by omega, _, _, _, rfl, l, lp2, hds', rfl, by omega, kp⟩
      | bl v =>
        walk_at "i"
        exact ⟨_, rfl, rfl, _, by omega, _, _, _, rfl, l, lp2, hds', rfl, by omega, kp⟩
      | int v =>
        walk_at "i"
        exact ⟨_, rfl, rfl, _, by omega, _, _, _, rfl, l, lp2, hds', rfl, by omega, kp⟩
      | str v =>
        walk_at "i"
        exact ⟨_, rfl, rfl, _, by omega, _, _, _, rfl, l, lp2, hds', rfl, by omega, kp⟩
      | ty n => cases hc
      | ref a => cases hc
  · walk_at "i"
    exact endsOf_i (k _ hk)
def S_law_all : DSp := fun vs st Q => ∃ (a : Addr) (ds : List D), vs = [.ref a] ∧ st a = some (.lst (ds.map twice)) ∧ ds.length ≤ 1000000 ∧ (∀ d ∈ ds, datD d = true ∧ wD d ≤ 10000000) ∧ ∀ st', Keep st st' → Q (.bl true) st'
/-- _law_all(pairs): 0 pairs 1 told 2 due -/
def t_law_all : MS := sRet (mBin oEq (mCall oLen (mCons (mLc (wSeq (mVar 0)) (gTup 2 (gCons (gN 1) (gCons (gN 2) (gNil)))) (mNot (mTest (mCall S_law_same (mCons (mVar 1) (mCons (mVar 2) (mNil)))))) (mVar 1) [1, 2]) (mNil))) (mC (.int 0)))
theorem kp_law_all : Keeps 1 3 S_law_all t_law_all := by
  refine ⟨fun ds st Q ⟨a, xs, e, _⟩ => by rw [e]; rfl, fun ds st Q ⟨a, xs, e, la, hl, hd, k⟩ => ?_⟩
  subst e
  unfold t_law_all
  walk_at "s"
  refine lc_keep (fun _ => none) (fun st' u => ?_) (by rw [List.length_map, szL]; omega) (fun x hx st2 u P N hy hn => ?_) fun p st' hp u lp => ?_
  · rw [u.l la]; rfl
  · obtain ⟨d, hdx, rfl⟩ := List.mem_map.mp hx
    obtain ⟨h1, h2⟩ := hd d hdx
    unfold twice
    walk_at "s"
    refine ⟨d, rfl, h1, h2, fun st3 u3 => ?_⟩
    have hn' := hn st3 rfl u3
    clear hn hy
    walk_at "s"
  · have e : (xs.map twice).filterMap (fun _ => (none : Option D)) = [] := by simp
    rw [e] at lp
    clear la
    walk_at "s"
    exact endsOf_i (k _ u)
def words22 : List Str := ["same", "use", "by", "at", "left", "right", "grow", "cases", "smaller", "claim", "together", "done", "sort", "open", "make", "do", "rule", "word", "alike", "unlike", "all", "broken"]
def S_law_words : DSp := fun vs st Q => vs = [] ∧ ∀ p st', Nf st p → Keep st st' → st' p = some (.lst (words22.map D.str)) → Q (.ref p) st'
/-- _law_words(): 0 some -/
def t_law_words : MS := sSeq (sAsg (mLst (mCons (mC (.str "same")) (mCons (mC (.str "use")) (mCons (mC (.str "by")) (mCons (mC (.str "at")) (mCons (mC (.str "left")) (mCons (mC (.str "right")) (mCons (mC (.str "grow")) (mCons (mC (.str "cases")) (mCons (mC (.str "smaller")) (mCons (mC (.str "claim")) (mCons (mC (.str "together")) (mCons (mC (.str "done")) (mNil)))))))))))))) (gN 0))
    (sRet (mBin oAdd (mVar 0) (mLst (mCons (mC (.str "sort")) (mCons (mC (.str "open")) (mCons (mC (.str "make")) (mCons (mC (.str "do")) (mCons (mC (.str "rule")) (mCons (mC (.str "word")) (mCons (mC (.str "alike")) (mCons (mC (.str "unlike")) (mCons (mC (.str "all")) (mCons (mC (.str "broken")) (mNil))))))))))))))
theorem kp_law_words : Keeps 0 1 S_law_words t_law_words := by
  refine ⟨fun ds st Q ⟨e, _⟩ => by rw [e]; rfl, fun ds st Q ⟨e, k⟩ => ?_⟩
  subst e
  have s1 : 12 ≤ sizeLine := by decide
  have s2 : 10 ≤ sizeLine := by decide
  have s3 : 12 + 10 ≤ sizeLine := by decide
  unfold t_law_words
  walk_at "s"
  intro p hp q hq
  have n1 := hq.ne put_same
  rw [put_ne n1.symm]
  walk_at "s"
  intro r hr
  have n2 : r ≠ p := hr.ne (by rw [put_ne n1.symm]; exact put_same)
  have n3 : r ≠ q := hr.ne put_same
  refine endsOf_i (k _ _ ?_ (((Keep.put hp).new hq).new hr) put_same)
  rcases hr with h | ⟨xs, h⟩
  · rw [put_ne n3, put_ne n2] at h; exact .inl h
  · rw [put_ne n3, put_ne n2] at h; exact .inr ⟨xs, h⟩
end L2.DL

namespace L2.DL
open PySem PySem.Spec PyProof.Rows
local macro_rules | `(tactic| walk_at "s") => `(tactic| try simp only [sqAsg_a, sqDrop_a, sqPar_a, sqPar3_a, sqRet_a, sqNext_a, sqSeq_a, sNext_a, sBreak_a, sCont_a, sDrop_a, sRet_a, sRetN_a, sIf_a, sAsg_a, sPar_a, sPar3_a, mVar_a, vAt_a, mC_a, mBin_a, mTest_a, bAt_a, mAnd_a, mOr_a, mNot_a, mYes_a, mAndV_a, mOrV_a, mNotV_a, mIf_a, mNil_a, mCons_a, mTup_a, mLst_a, mCall_a, mCallK_a, mMeth_a, mSl_a, mNoPart_a, iAt_a, mPart_a, mIsi_b, tysO_some, List.any_cons, List.any_nil, Bool.or_false, Bool.false_or, Bool.or_true, Bool.true_or, Int.natCast_pos, gN_a, gTup_a, gCons_a, gNil_a, gSub_a, sFor_a, mLc_a, mDc_a, wSeq_a, sqO_tup, sqO_str, sqO_ref, wRng1_a, mRev_a, revO_ref, List.getD_cons_zero, List.getD_cons_succ, ite_self, List.set_cons_zero, List.set_cons_succ, List.getElem?_cons_zero, List.getElem?_cons_succ, oAdd_int, oAdd_str, oAdd_tup, oAdd_ref, oSub_int, oMul_int, oDiv_int, oMod_int, oPow_int, oLt_int, oLe_int, oGt_int, oGe_int, oIs_nn, oIs_bn, oIs_in, oIs_sn, oIs_tn, oIs_rn, oIs_bb, oIs_nb, oIs_ib, oIs_sb, oIs_tb, oIs_rb, oIsi_int, oIsi_str, oIsi_bool, oIsi_tuple, oIsi_list, oIsi_dict, tyO_some, tyD_non, tyD_bl, tyD_int, tyD_str, tyD_tup, isi_facts, oEq_int, oNe_int, oEq_str, oNe_str, oSl_tup, oSl_str, oSl_ref, oLen_tup, oLen_str, oLen_ref, oAbs_int, oInt_int, oInt_bl, oMax_int, oMin_int, oTuple_tup, oTuple_ref, oList_tup, oList_str, oList_ref, oIx_tupE, oIx_ref, oAppend_ref, oPop_ref, oExtend_tupE, oSet_ref, isL_ref, isS_str, vO_some, ixO_lst, ixO_dicI, ixO_dicS, ixO_rodI, ixO_rodS, lsO_lst, rdO_lst, rdO_rol, lenO_lst, lenO_dic, lenO_rol, addO_lst, setO_lst, setO_dicI, setO_dicS, atI_zero, atI_one, atI_two, atI_end, startE, wipeE, List.map_cons, List.map_nil, List.length_cons, List.length_nil, List.replicate, List.cons_append, List.nil_append, Nat.reduceAdd, Nat.reduceSub, List.replicate_succ, List.replicate_zero, put_same, Nat.zero_le, Int.reduceLT, Int.reduceLE, Nat.reduceLT, Nat.reduceLeDiff, and_true, true_and, Bool.false_eq_true, ↓reduceIte, Bool.not_true, Bool.not_false, decide_true, decide_false, *])
local macro_rules | `(tactic| walk_at "i") => `(tactic| try simp only [sqIf_a, sqAsg_a, sqDrop_a, sqPar_a, sqPar3_a, sqRet_a, sqNext_a, sqSeq_a, sNext_a, sBreak_a, sCont_a, sDrop_a, sRet_a, sRetN_a, sIf_a, sAsg_a, sPar_a, sPar3_a, mVar_a, vAt_a, mC_a, mBin_a, mTest_a, bAt_a, mAnd_a, mOr_a, mNot_a, mYes_a, mAndV_a, mOrV_a, mNotV_a, mIf_a, mNil_a, mCons_a, mTup_a, mLst_a, mCall_a, mCallK_a, mMeth_a, mSl_a, mNoPart_a, iAt_a, mPart_a, mIsi_b, tysO_some, List.any_cons, List.any_nil, Bool.or_false, Bool.false_or, Bool.or_true, Bool.true_or, Int.natCast_pos, gN_a, gTup_a, gCons_a, gNil_a, gSub_a, sFor_a, mLc_a, mDc_a, wSeq_a, sqO_tup, sqO_str, sqO_ref, wRng1_a, mRev_a, revO_ref, List.getD_cons_zero, List.getD_cons_succ, ite_self, List.set_cons_zero, List.set_cons_succ, List.getElem?_cons_zero, List.getElem?_cons_succ, oAdd_int, oAdd_str, oAdd_tup, oAdd_ref, oSub_int, oMul_int, oDiv_int, oMod_int, oPow_int, oLt_int, oLe_int, oGt_int, oGe_int, oIs_nn, oIs_bn, oIs_in, oIs_sn, oIs_tn, oIs_rn, oIs_bb, oIs_nb, oIs_ib, oIs_sb, oIs_tb, oIs_rb, oIsi_int, oIsi_str, oIsi_bool, oIsi_tuple, oIsi_list, oIsi_dict, tyO_some, tyD_non, tyD_bl, tyD_int, tyD_str, tyD_tup, isi_facts, oEq_int, oNe_int, oEq_str, oNe_str, oSl_tup, oSl_str, oSl_ref, oLen_tup, oLen_str, oLen_ref, oAbs_int, oInt_int, oInt_bl, oMax_int, oMin_int, oTuple_tup, oTuple_ref, oList_tup, oList_str, oList_ref, oIx_tupE, oIx_ref, oAppend_ref, oPop_ref, oExtend_tupE, oSet_ref, isL_ref, isS_str, vO_some, ixO_lst, ixO_dicI, ixO_dicS, ixO_rodI, ixO_rodS, lsO_lst, rdO_lst, rdO_rol, lenO_lst, lenO_dic, lenO_rol, addO_lst, setO_lst, setO_dicI, setO_dicS, atI_zero, atI_one, atI_two, atI_end, startE, wipeE, List.map_cons, List.map_nil, List.length_cons, List.length_nil, List.replicate, List.cons_append, List.nil_append, Nat.reduceAdd, Nat.reduceSub, List.replicate_succ, List.replicate_zero, put_same, Nat.zero_le, Int.reduceLT, Int.reduceLE, Nat.reduceLT, Nat.reduceLeDiff, and_true, true_and, Bool.false_eq_true, ↓reduceIte, Bool.not_true, Bool.not_false, decide_true, decide_false, *])
/-! ### names -/
def al8 : List Str := ("abcdefgh" : Str).cps.toList.map fun c => (⟨#[c]⟩ : Str)
theorem signs_al8 : signsD ("abcdefgh" : Str) = al8.map D.str := by
  unfold signsD al8
  rw [List.map_map]
  rfl
def lateOf (a : Str) : List Str := al8.map fun b => a ++ b
def marks72 : List Str := al8 ++ al8.flatMap lateOf
def az18 : Str := "ijklmnopqrstuvwxyz"
/-- letters up to h -/
def filt (x : Str) : List Nat := x.cps.toList.filter fun c => decide (c ≤ 104)
def azOk (x : Str) : Bool := x.cps.toList.all fun c => decide (97 ≤ c ∧ c ≤ 122)
def nmOk (x : Str) : Prop := azOk x = true ∧ x.length ≤ 20
def NameAt (start step word : Int) (t : Nat) (x : Str) : Prop := nmOk x ∧ (words22[((word + t) % 22).toNat]? = some x ∨ (x ∉ words22 ∧ ∃ mk, marks72[((start + t * step) % 72).toNat]? = some mk ∧ filt x = mk.cps.toList))
theorem marks72_len : marks72.length = 72 := by decide +kernel
theorem al8_one : ∀ x ∈ al8, x.length = 1 := by decide +kernel
theorem words22_len : words22.length = 22 := rfl
theorem marks72_nodup : marks72.Nodup := by decide +kernel
theorem words22_nodup : words22.Nodup := by decide +kernel
theorem words22_ok : ∀ x ∈ words22, azOk x = true ∧ x.length ≤ 20 := by decide +kernel
theorem marks72_ok : ∀ x ∈ marks72, azOk x = true ∧ x.length ≤ 2 ∧ 1 ≤ x.length ∧ x ∉ words22 ∧ filt x = x.cps.toList := by decide +kernel
theorem az18_ok : az18.length = 18 ∧ ∀ c ∈ az18.cps.toList, 105 ≤ c ∧ c ≤ 122 := by decide +kernel
theorem get_inj {α : Type} {l : List α} (h : l.Nodup) {i j : Nat} {x : α} (h1 : l[i]? = some x) (h2 : l[j]? = some x) : i = j := by
  obtain ⟨a, h1⟩ := List.getElem?_eq_some_iff.mp h1
  obtain ⟨b, h2⟩ := List.getElem?_eq_some_iff.mp h2
  exact (List.getElem_inj h).mp (h1.trans h2.symm)
theorem NameAt.inj {start step word : Int} {t u : Nat} {x : Str} (hs : step ∈ [1, 5, 7, 11, 25, 35]) (ht : t < 22) (hu : u < 22) (h : NameAt start step word t x) (k : NameAt start step word u x) : t = u := by
  rcases h.2 with h1 | ⟨h1, a, h2, h3⟩
  · rcases k.2 with k1 | ⟨k1, _⟩
    · have := get_inj words22_nodup h1 k1
      omega
    · exact absurd (List.mem_of_getElem? h1) k1
  · rcases k.2 with k1 | ⟨k1, b, k2, k3⟩
    · exact absurd (List.mem_of_getElem? k1) h1
    · have e : a = b := str_ext (h3.symm.trans k3)
      subst e
      have := get_inj marks72_nodup h2 k2
      simp only [List.mem_cons, List.not_mem_nil, or_false] at hs
      rcases hs with rfl | rfl | rfl | rfl | rfl | rfl <;> omega
theorem cps_app (a b : Str) : (a ++ b).cps.toList = a.cps.toList ++ b.cps.toList := by
  show (a.cps ++ b.cps).toList = _
  simp
theorem len_app (a b : Str) : (a ++ b).length = a.length + b.length := by
  show (a.cps ++ b.cps).size = _
  simp [Str.length]
theorem len_cps (a : Str) : a.length = a.cps.toList.length := by simp [Str.length]
theorem cut_mem {z : Str} {lo hi : Option Int} {c : Nat} (h : c ∈ (cutS z lo hi).cps.toList) : c ∈ z.cps.toList := by
  unfold cutS at h
  simp only [List.toList_toArray] at h
  exact List.mem_of_mem_drop (List.mem_of_mem_take h)
theorem cut_len (z : Str) (lo hi : Option Int) : (cutS z lo hi).length ≤ z.length := by
  rw [len_cps, len_cps]
  unfold cutS
  simp only [List.toList_toArray, List.length_take, List.length_drop]
  omega
theorem name_ok {L mk : Str} (hL : ∀ c ∈ L.cps.toList, 105 ≤ c ∧ c ≤ 122) (hl : L.length ≤ 8) (hm : mk ∈ marks72) (a b c d : Option Int) :
    nmOk (cutS L a b ++ mk ++ cutS L c d) ∧ filt (cutS L a b ++ mk ++ cutS L c d) = mk.cps.toList := by
  obtain ⟨m1, m2, m3, m4, m5⟩ := marks72_ok mk hm
  have h1 := cut_len L a b
  have h2 := cut_len L c d
  have no : ∀ lo hi, (cutS L lo hi).cps.toList.filter (fun c => decide (c ≤ 104)) = [] := fun lo hi => by
    rw [List.filter_eq_nil_iff]
    intro x hx
    have := hL x (cut_mem hx)
    simp
    omega
  have ok : ∀ lo hi, (cutS L lo hi).cps.toList.all (fun c => decide (97 ≤ c ∧ c ≤ 122)) = true := fun lo hi => by
    rw [List.all_eq_true]
    intro x hx
    have := hL x (cut_mem hx)
    simp
    omega
  refine ⟨⟨?_, ?_⟩, ?_⟩
  · unfold azOk at m1 ⊢
    rw [cps_app, cps_app, List.all_append, List.all_append, ok, ok, m1]
    rfl
  · rw [len_app, len_app]
    omega
  · unfold filt at m5 ⊢
    rw [cps_app, cps_app, List.filter_append, List.filter_append, no, no, m5]
    simp
theorem joinL_mem {c : Nat} : ∀ {l : List (List Nat)}, c ∈ TL.joinL [] l → ∃ p ∈ l, c ∈ p
  | [], h => by cases h
  | [p], h => ⟨p, List.mem_cons_self .., h⟩
  | p :: q :: r, h => by
    have h' : c ∈ p ++ ([] ++ TL.joinL [] (q :: r)) := h
    rw [List.nil_append, List.mem_append] at h'
    rcases h' with h' | h'
    · exact ⟨p, List.mem_cons_self .., h'⟩
    · obtain ⟨z, hz, hc⟩ := joinL_mem h'
      exact ⟨z, List.mem_cons_of_mem _ hz, hc⟩
theorem join_mem {ys : List Str} {c : Nat} (h : c ∈ (Txt.join "" ys).cps.toList) : ∃ y ∈ ys, c ∈ y.cps.toList := by
  rw [TL.join_eq] at h
  have e := TL.tl_join "" ys
  have h' : c ∈ TL.tl (Str.join "" ys) := h
  rw [e] at h'
  obtain ⟨p, hp, hc⟩ := joinL_mem (show c ∈ TL.joinL [] (ys.map TL.tl) from h')
  obtain ⟨y, hy, rfl⟩ := List.mem_map.mp hp
  exact ⟨y, hy, hc⟩
theorem inF_strs (x : Str) (l : List Str) : inF (.str x) (l.map D.str) = decide (x ∈ l) := by
  unfold inF
  rw [List.any_map]
  induction l with
  | nil => simp
  | cons y l ih =>
    rw [List.any_cons, ih]
    by_cases h : x = y
    · subst h; simp [eqF]
    · have : (y == x) = false := by simpa using fun e => h e.symm
      simp [eqF, this, h]
theorem flat_strs (l : List Str) : (l.map D.str).all flatD = true := by
  rw [List.all_map, List.all_eq_true]
  intro x _
  rfl
theorem Nf.back {st st' : Sto} {n m p : Addr} (h : Nf st' p) (u : Up n m st st') (pn : p ≠ n) (pm : p ≠ m) : Nf st p := by
  cases e : st p with
  | none => exact .inl e
  | some o =>
    cases o with
    | rol xs => exact .inr ⟨xs, e⟩
    | _ => exact absurd rfl (h.not (u.keep _ _ pn pm (by trivial) e) (by trivial))
theorem Nf.backK {st st' : Sto} {p : Addr} (h : Nf st' p) (u : Keep st st') : Nf st p := by
  cases e : st p with
  | none => exact .inl e
  | some o =>
    cases o with
    | rol xs => exact .inr ⟨xs, e⟩
    | _ => exact absurd rfl (h.not (u _ _ (by trivial) e) (by trivial))
def S_law_names : DSp := fun vs st Q => ∃ (n m : Addr) (k : Nat), vs = [.ref n, .int k] ∧ Deal st n m ∧ k ≤ 22 ∧
  ∀ (names : List Str) a st', names.length = k → names.Nodup → (∀ x ∈ names, nmOk x) → a ≠ n → a ≠ m → Up n m st st' → st' a = some (.lst (names.map D.str)) → Nf st a → Q (.ref a) st'
/-- _law_names(deal, many): 0 deal 1 many 2 marks 3 words 4 lead 5 start 6 step 7 found 8 word 9 turn 10 mark 11 letters 12 place 13 name 14 late 15 spot -/
def t_law_names : MS := sSeq (sPar 2 3 (mCons (mCall oList (mCons (mC (.str "abcdefgh")) (mNil))) (mCons (mCall S_law_words mNil) (mNil))))
    (sSeq (sFor (wSeq (mC (.str "abcdefgh"))) (gN 4) (sAsg (mBin oAdd (mVar 2) (mLc (wSeq (mC (.str "abcdefgh"))) (gN 14) (mYes) (mBin oAdd (mVar 4) (mVar 14)) [14])) (gN 2)))
    (sSeq (sAsg (mTup (mCons (mCall S_law_any (mCons (mVar 0) (mCons (mC (.int 72)) (mNil)))) (mCons (mCall S_law_of (mCons (mVar 0) (mCons (mLst (mCons (mC (.int 1)) (mCons (mC (.int 5)) (mCons (mC (.int 7)) (mCons (mC (.int 11)) (mCons (mC (.int 25)) (mCons (mC (.int 35)) (mNil)))))))) (mNil)))) (mCons (mLst (mNil)) (mCons (mCall S_law_any (mCons (mVar 0) (mCons (mC (.int 22)) (mNil)))) (mNil)))))) (gTup 4 (gCons (gN 5) (gCons (gN 6) (gCons (gN 7) (gCons (gN 8) (gNil)))))))
    (sSeq (sFor (wRng1 (mVar 1)) (gN 9) (sSeq (sAsg (mBin oIx (mVar 2) (mBin oMod (mCall oInt (mCons (mBin oAdd (mVar 5) (mBin oMul (mVar 9) (mVar 6))) (mNil))) (mC (.int 72)))) (gN 10))
    (sSeq (sAsg (mMeth isS oJoin (mC (.str "")) (mCons (mLc (wRng1 (mCall S_law_any (mCons (mVar 0) (mCons (mBin oSub (mC (.int 9)) (mCall oLen (mCons (mVar 10) (mNil)))) (mNil))))) (gN 15) (mYes) (mBin oIx (mC (.str "ijklmnopqrstuvwxyz")) (mCall S_law_any (mCons (mVar 0) (mCons (mC (.int 18)) (mNil))))) [15]) (mNil))) (gN 11))
    (sSeq (sAsg (mCall S_law_any (mCons (mVar 0) (mCons (mBin oAdd (mCall oLen (mCons (mVar 11) (mNil))) (mC (.int 1))) (mNil)))) (gN 12))
    (sSeq (sAsg (mBin oAdd (mBin oAdd (mSl (mVar 11) (mNoPart) (mPart (mVar 12))) (mVar 10)) (mSl (mVar 11) (mPart (mVar 12)) (mNoPart))) (gN 13))
    (sIf (mTest (mBin oEq (mCall S_law_any (mCons (mVar 0) (mCons (mC (.int 6)) (mNil)))) (mC (.int 0)))) (sDrop (mMeth isL oAppend (mVar 7) (mCons (mBin oIx (mVar 3) (mBin oMod (mCall oInt (mCons (mBin oAdd (mVar 8) (mVar 9)) (mNil))) (mC (.int 22)))) (mNil)))) (sDrop (mMeth isL oAppend (mVar 7) (mCons (mIf (mTest (mBin oIn (mVar 13) (mVar 3))) (mVar 10) (mVar 13)) (mNil))))))))))
    (sRet (mVar 7)))))
theorem kp_law_names : Keeps 2 16 S_law_names t_law_names := by
  refine ⟨fun ds st Q ⟨n, m, k, e, _⟩ => by rw [e]; rfl, fun ds st Q ⟨n, m, j, e, hd, hj, k⟩ => ?_⟩
  subst e
  have s1 : ("abcdefgh" : Str).length ≤ sizeLine := by decide +kernel
  unfold t_law_names
  walk_at "s"
  intro p hp
  obtain ⟨pn, pm⟩ := hp.deal hd
  refine ⟨rfl, fun w st1 hw kw lw => ?_⟩
  have wp : w ≠ p := hw.ne put_same
  have lp1 : st1 p = _ := kw.l put_same
  have u1 : Up n m st st1 := ((Up.refl hd).put hp pn pm).then kw
  obtain ⟨wn, wm⟩ := hw.deal (hd.put pn pm)
  clear kw
  refine sSeq_i (fun env st' => ∃ q x, env = [some (.ref n), some (.int j), some (.ref q), some (.ref w), x, none, none, none, none, none, none, none, none, none, none, none] ∧ Up n m st st' ∧ st' w = some (.lst (words22.map D.str)) ∧ st' q = some (.lst (marks72.map D.str)) ∧ q ≠ n ∧ q ≠ m) (fun nx hx => ?_) ?_
  · rw [sFor_a]
    walk_at "s"
    rw [signs_al8] at *
    refine ⟨fun i env st' => ∃ q x, env = [some (.ref n), some (.int j), some (.ref q), some (.ref w), x, none, none, none, none, none, none, none, none, none, none, none] ∧ Up n m st st' ∧ st' w = some (.lst (words22.map D.str)) ∧ st' q = some (.lst ((al8 ++ (al8.take i).flatMap lateOf).map D.str)) ∧ q ≠ n ∧ q ≠ m, ⟨p, none, rfl, u1, lw, by simpa using lp1, pn, pm⟩, fun _ _ _ _ _ => trivial, ?_, ?_⟩
    · rintro i y env st' hy ⟨q, x, rfl, u2, lw2, lq2, qn, qm⟩
      clear hx lw lp1 u1
      rw [List.getElem?_map, Option.map_eq_some_iff] at hy
      obtain ⟨a, ha, rfl⟩ := hy
      have a1 := al8_one a (List.mem_of_getElem? ha)
      walk_at "s"
      rw [signs_al8]
      refine lc_keep (onS fun b => some (.str (a ++ b))) (fun _ _ => trivial) (by rw [List.length_map]; decide +kernel) (fun y hy st3 u3 P N hP hN => ?_) fun p3 st4 hp3 u4 lp4 => ?_
      · obtain ⟨b, hb, rfl⟩ := List.mem_map.mp hy
        have b1 := al8_one b hb
        have h1 : a.length + b.length ≤ sizeLine := by rw [a1, b1]; decide
        have h2 := hP (.str (a ++ b)) st3 rfl .refl
        clear hP hN a1 b1
        walk_at "s"
      · have n3 : p3 ≠ q := hp3.ne lq2
        have lq4 := u4.l lq2
        have lw4 := u4.l lw2
        have u5 := u2.then u4
        rw [onS_map, fm_some] at lp4
        replace lp4 : st4 p3 = some (.lst ((al8.map fun b => a ++ b).map D.str)) := by rw [lp4, List.map_map]; rfl
        have h1 : ((al8 ++ (al8.take i).flatMap lateOf).map D.str).length + ((al8.map fun b => a ++ b).map D.str).length ≤ sizeLine := by
          have e1 : al8.length = 8 := by decide +kernel
          have e2 : ((al8.take i).flatMap lateOf).length ≤ 8 * (al8.take i).length := by
            generalize al8.take i = l
            induction l with
            | nil => simp
            | cons b l ih =>
              have : (lateOf b).length = 8 := by unfold lateOf; rw [List.length_map, e1]
              simp only [List.flatMap_cons, List.length_append, List.length_cons]
              omega
          have e3 : (al8.take i).length ≤ 8 := by rw [List.length_take]; omega
          rw [List.length_map, List.length_append, List.length_map, List.length_map, szL]
          omega
        clear lq2 lw2 u4
        walk_at "s"
        refine fun p5 hp5 => ⟨_, _, rfl, u5.then (Keep.put hp5), (Keep.put hp5).l lw4, ?_, hp5.deal u5.deal⟩
        rw [put_same, ← List.map_append, List.append_assoc, take_snoc ha, List.flatMap_append]
        simp [lateOf]
    · rintro env st' ⟨q, x, rfl, u2, lw2, lq2, qn, qm⟩
      refine hx _ _ ⟨q, x, rfl, u2, lw2, ?_, qn, qm⟩
      rw [List.length_map, List.take_length] at lq2
      exact lq2
  · rintro env st2 ⟨q, x, rfl, u2, lw2, lq2, qn, qm⟩
    have z4 : 4 ≤ sizeLine := by decide
    have z6 : 6 ≤ sizeLine := by decide
    walk_at "s"
    refine ⟨n, m, 72, rfl, u2.deal, by omega, by omega, fun start st3 a0 a1 u3 => ?_⟩
    have lw3 := u3.l wn wm lw2
    have lq3 := u3.l qn qm lq2
    refine fun p4 hp4 => ?_
    obtain ⟨p4n, p4m⟩ := hp4.deal u3.deal
    have d4 : Deal (put st3 p4 (.lst [.int 1, .int 5, .int 7, .int 11, .int 25, .int 35])) n m := u3.deal.put p4n p4m
    refine ⟨n, m, .ref p4, _, rfl, d4, ⟨p4n, p4m, put_same⟩, by decide, by decide, fun sd st4 hsd u4 => ?_⟩
    obtain ⟨step, rfl, hstep⟩ : ∃ step : Int, sd = .int step ∧ step ∈ [1, 5, 7, 11, 25, 35] := by
      simp only [List.mem_cons, List.not_mem_nil, or_false] at hsd ⊢
      rcases hsd with rfl | rfl | rfl | rfl | rfl | rfl <;> exact ⟨_, rfl, by simp⟩
    have lw4 := u4.l wn wm ((Keep.put hp4).l lw3)
    have lq4 := u4.l qn qm ((Keep.put hp4).l lq3)
    have u5 : Up n m st st4 := ((u2.trans u3).then (Keep.put hp4)).trans u4
    clear lw3 lq3 lw2 lq2 u2 u3 u4 d4 lw lp1 u1
    walk_at "s"
    refine fun f hf => ?_
    obtain ⟨fn, fm⟩ := hf.deal u5.deal
    have fw := hf.ne lw4
    have fq := hf.ne lq4
    have nf0 : Nf st f := hf.back u5 fn fm
    refine ⟨n, m, 22, rfl, u5.deal.put fn fm, by omega, by omega, fun word st6 b0 b1 u6 => ?_⟩
    have lw6 := u6.l wn wm ((Keep.put hf).l lw4)
    have lq6 := u6.l qn qm ((Keep.put hf).l lq4)
    have lf6 := u6.l fn fm put_same
    have u7 : Up n m st st6 := (u5.then (Keep.put hf)).trans u6
    clear u5 u6 hf lw4 lq4 hw hp hp4 hsd
    walk_at "s"
    refine sSeq_i (fun env st' => ∃ a b c d e x, ∃ names : List Str, env = [some (.ref n), some (.int j), some (.ref q), some (.ref w), x, some (.int start), some (.int step), some (.ref f), some (.int word), a, b, c, d, e, none, none] ∧ names.length = j ∧ (∀ i x, names[i]? = some x → NameAt start step word i x) ∧ st' f = some (.lst (names.map D.str)) ∧ Up n m st st') (fun nx hx => ?_) ?_
    · rw [sFor_a]
      walk_at "s"
      refine ⟨by omega, fun i env st' => ∃ a b c d e x, ∃ names : List Str, env = [some (.ref n), some (.int j), some (.ref q), some (.ref w), x, some (.int start), some (.int step), some (.ref f), some (.int word), a, b, c, d, e, none, none] ∧ names.length = i ∧ (∀ i x, names[i]? = some x → NameAt start step word i x) ∧ st' f = some (.lst (names.map D.str)) ∧ st' q = some (.lst (marks72.map D.str)) ∧ st' w = some (.lst (words22.map D.str)) ∧ Up n m st st', ⟨_, _, _, _, _, _, [], rfl, rfl, fun i x h => by simp at h, lf6, lq6, lw6, u7⟩, fun _ _ _ _ _ => trivial, ?_, ?_⟩
      · rintro i y env st' hy ⟨a, b, c, d, e, x, names, rfl, hlen, hn, lf, lq, lw, u⟩
        clear lf6 lq6 lw6 u7 hx k
        have hi : i < j := by
          obtain ⟨h, _⟩ := List.getElem?_eq_some_iff.mp hy
          simpa [rangeD] using h
        have ey : y = .int ((i : Nat) : Int) := by
          simp [rangeD, hi] at hy
          exact hy.symm
        subst ey
        have w1 : CMulW i step := by
          refine wide_mul (a := 10) (b := 10) (by omega) ?_ (by omega) (by omega) (by omega)
          simp only [List.mem_cons, List.not_mem_nil, or_false] at hstep
          omega
        have hk0 : 0 ≤ (start + i * step) % 72 := Int.emod_nonneg _ (by omega)
        have hk1 : (start + i * step) % 72 < 72 := Int.emod_lt_of_pos _ (by omega)
        obtain ⟨mi, hmi⟩ : ∃ mi : Nat, (start + i * step) % 72 = mi := ⟨((start + i * step) % 72).toNat, by omega⟩
        have hmi2 : mi < marks72.length := by rw [marks72_len]; omega
        have hat : marks72[((start + i * step) % 72).toNat]? = some marks72[mi] := by
          rw [hmi, Int.toNat_natCast, List.getElem?_eq_getElem hmi2]
        have e1 : atI (marks72.map D.str) ((start + i * step) % 72) = some (.str marks72[mi]) := by
          rw [hmi, atI_ofNat, List.getElem?_map, List.getElem?_eq_getElem hmi2]; rfl
        have hmk := List.getElem_mem hmi2
        clear hmi
        generalize marks72[mi] = mk at *
        obtain ⟨m1, m2, m3, m4, m5⟩ := marks72_ok mk hmk
        have hml : mk.length ≤ sizeLine := by rw [szL]; omega
        have lf2 : (names.map D.str).length < sizeLine := by rw [List.length_map, szL]; omega
        have lw2 : words22.length = 22 := rfl
        clear hy
        walk_at "s"
        clear e1
        refine ⟨n, m, _, rfl, u.deal, by omega, by omega, fun cnt st8 c0 c1 u8 => ?_⟩
        have lf8 := u8.l fn fm lf
        have lq8 := u8.l qn qm lq
        have lw8 := u8.l wn wm lw
        have uu8 := u.trans u8
        clear u lf lq lw u8
        walk_at "s"
        refine ⟨by omega, ?_⟩
        refine lc_up (n := n) (m := m) (fun _ o => ∃ s : Str, o = some (.str s) ∧ s.length = 1 ∧ ∀ c ∈ s.cps.toList, 105 ≤ c ∧ c ≤ 122) uu8.deal (fun _ _ => trivial) (by simp [rangeD, szL]; omega) (fun y hy st9 u9 P N hP hN => ?_) fun p9 ys st10 hp9 hF u10 lp10 => ?_
        · obtain ⟨t, ht, rfl⟩ := List.mem_map.mp hy
          clear hN
          walk_at "s"
          refine ⟨n, m, 18, rfl, u9.deal, by omega, by omega, fun g st11 g0 g1 u11 => ?_⟩
          obtain ⟨gi, rfl⟩ : ∃ gi : Nat, g = gi := ⟨g.toNat, by omega⟩
          have hg : gi < az18.cps.toList.length := by
            have := az18_ok.1
            rw [len_cps] at this
            omega
          refine oIx_s (z := az18) (by decide +kernel) (c := az18.cps.toList[gi]) (by rw [atI_ofNat, List.getElem?_eq_getElem hg]) ?_
          refine hP _ _ ⟨_, rfl, rfl, fun c hc => ?_⟩ u11
          have : c = az18.cps.toList[gi] := by simpa using hc
          rw [this]
          exact az18_ok.2 _ (List.getElem_mem hg)
        · obtain ⟨cs, rfl, l1, l2⟩ := hF.strs
          have lf10 := u10.l fn fm lf8
          have lq10 := u10.l qn qm lq8
          have lw10 := u10.l wn wm lw8
          have uu10 := uu8.trans u10
          have l1' : cs.length ≤ 8 := by
            rw [l1]
            simp [rangeD]
            omega
          have l3 : (cs.map (·.length)).sum = cs.length := by
            clear l1 l1' lp10 hF
            induction cs with
            | nil => rfl
            | cons s cs ih =>
              simp only [List.map_cons, List.sum_cons, List.length_cons]
              have := (l2 s (List.mem_cons_self ..)).1
              have := ih fun s hs => l2 s (List.mem_cons_of_mem _ hs)
              omega
          have l4 : (Txt.join "" cs).length ≤ 8 := by
            have h := StrLaws.join_length_le "" cs
            rw [TL.join_eq]
            have e0 : ("" : Str).length = 0 := rfl
            rw [l3, e0] at h
            omega
          have l5 : ∀ c ∈ (Txt.join "" cs).cps.toList, 105 ≤ c ∧ c ≤ 122 := fun c hc => by
            obtain ⟨s, hs, h⟩ := join_mem hc
            exact (l2 s hs).2 c h
          clear lf8 lq8 lw8 uu8 u10 hp9 l1 l2
          refine oJoin_l (by rw [lp10]; rfl) (by rw [l3, show ("" : Str).length = 0 from rfl]; omega) ?_
          clear lp10 l3 l1'
          generalize Txt.join "" cs = L at *
          have z1 : L.length ≤ sizeLine := by rw [szL]; omega
          walk_at "s"
          refine ⟨n, m, _, rfl, uu10.deal, by omega, by omega, fun place st12 _ _ u12 => ?_⟩
          have lf12 := u12.l fn fm lf10
          have lq12 := u12.l qn qm lq10
          have lw12 := u12.l wn wm lw10
          have uu12 := uu10.trans u12
          clear lf10 lq10 lw10 uu10 u12
          have k1 := cut_len L none (some place)
          have k2 := cut_len L (some place) none
          have z2 : (cutS L none (some place)).length + mk.length ≤ sizeLine := by rw [szL]; omega
          have z3 : (cutS L none (some place) ++ mk).length + (cutS L (some place) none).length ≤ sizeLine := by rw [len_app, szL]; omega
          walk_at "s"
          obtain ⟨nm1, nm2⟩ := name_ok l5 l4 hmk none (some place) (some place) none
          generalize cutS L none (some place) ++ mk ++ cutS L (some place) none = nm at *
          refine ⟨n, m, 6, rfl, uu12.deal, by omega, by omega, fun six st13 _ _ u13 => ?_⟩
          have lf13 := u13.l fn fm lf12
          have lq13 := u13.l qn qm lq12
          have lw13 := u13.l wn wm lw12
          have uu13 := uu12.trans u13
          clear lf12 lq12 lw12 uu12 u13 z1 z2 z3
          walk_at "s"
          have fin : ∀ v : Str, NameAt start step word i v → (names ++ [v]).length = i + 1 ∧ (∀ i x, (names ++ [v])[i]? = some x → NameAt start step word i x) ∧ some (Ob.lst (names.map D.str ++ [D.str v])) = some (Ob.lst ((names ++ [v]).map D.str)) ∧
              put st13 f (.lst (names.map D.str ++ [D.str v])) q = some (.lst (marks72.map D.str)) ∧ put st13 f (.lst (names.map D.str ++ [D.str v])) w = some (.lst (words22.map D.str)) ∧ Up n m st (put st13 f (.lst (names.map D.str ++ [D.str v]))) := fun v hv => by
            refine ⟨by simp [hlen], fun i2 x h => ?_, by simp, by rw [put_ne fq.symm]; exact lq13, by rw [put_ne fw.symm]; exact lw13, uu13.put nf0 fn fm⟩
            by_cases h2 : i2 < names.length
            · rw [List.getElem?_append_left h2] at h
              exact hn i2 x h
            · have h3 : i2 = names.length := by
                have := (List.getElem?_eq_some_iff.mp h).1
                rw [List.length_append] at this
                simp at this
                omega
              subst h3
              rw [List.getElem?_append_right (Nat.le_refl _)] at h
              simp at h
              subst h
              rw [hlen]
              exact hv
          by_cases h6 : six = 0
          · rw [if_pos (by simpa using h6)]
            have h0 : 0 ≤ (word + (i : Int)) % 22 := Int.emod_nonneg _ (by omega)
            have h1 : (word + (i : Int)) % 22 < 22 := Int.emod_lt_of_pos _ (by omega)
            have h2 : ((word + (i : Int)) % 22).toNat < words22.length := by rw [words22_len]; omega
            have h3 : words22[((word + (i : Int)) % 22).toNat]? = some words22[((word + (i : Int)) % 22).toNat] := List.getElem?_eq_getElem h2
            have e1 : atI (words22.map D.str) ((word + (i : Int)) % 22) = some (.str words22[((word + (i : Int)) % 22).toNat]) := by
              conv => lhs; rw [← Int.toNat_of_nonneg h0]
              rw [atI_ofNat, List.getElem?_map, h3]; rfl
            rw [e1, vO_some, lf13, lsO_lst]
            have ok := words22_ok _ (List.getElem_mem h2)
            exact ⟨lf2, _, _, _, _, _, _, _, rfl, fin _ ⟨ok, .inl h3⟩⟩
          · rw [if_neg (by simpa using h6)]
            refine oIn_ref ?_
            rw [lw13, inO_lst]
            refine ⟨rfl, flat_strs _, ?_⟩
            rw [inF_strs, bAt_a]
            by_cases h7 : nm ∈ words22
            · rw [if_pos (by simpa using h7), lf13, lsO_lst]
              exact ⟨lf2, _, _, _, _, _, _, _, rfl, fin _ ⟨⟨m1, by omega⟩, .inr ⟨m4, mk, hat, m5⟩⟩⟩
            · rw [if_neg (by simpa using h7), lf13, lsO_lst]
              exact ⟨lf2, _, _, _, _, _, _, _, rfl, fin _ ⟨nm1, .inr ⟨h7, mk, hat, nm2⟩⟩⟩
      · rintro env st' ⟨a, b, c, d, e, x, names, rfl, hlen, hn, lf, lq, lw, u⟩
        refine hx _ _ ⟨a, b, c, d, e, x, names, rfl, ?_, hn, lf, u⟩
        simpa [rangeD] using hlen
    · rintro env st' ⟨a, b, c, d, e, x, names, rfl, hlen, hn, lf, u⟩
      walk_at "s"
      refine endsOf_i (k names f st' hlen ?_ ?_ fn fm u lf nf0)
      · rw [List.nodup_iff_pairwise_ne, List.pairwise_iff_getElem]
        intro i1 i2 h1 h2 h12 heq
        have a1 := hn i1 names[i1] (List.getElem?_eq_getElem h1)
        have a2 := hn i2 names[i1] (by rw [heq, List.getElem?_eq_getElem h2])
        have := NameAt.inj hstep (by omega) (by omega) a1 a2
        omega
      · intro x hx
        obtain ⟨i, hi⟩ := List.getElem?_of_mem hx
        exact (hn i x hi).1
end L2.DL

namespace L2.DL
open PySem PySem.Spec PyProof.Rows
local macro_rules | `(tactic| walk_at "s") => `(tactic| try simp only [sqAsg_a, sqDrop_a, sqPar_a, sqPar3_a, sqRet_a, sqNext_a, sqSeq_a, sNext_a, sBreak_a, sCont_a, sDrop_a, sRet_a, sRetN_a, sIf_a, sAsg_a, sPar_a, sPar3_a, mVar_a, vAt_a, mC_a, mBin_a, mTest_a, bAt_a, mAnd_a, mOr_a, mNot_a, mYes_a, mAndV_a, mOrV_a, mNotV_a, mIf_a, mNil_a, mCons_a, mTup_a, mLst_a, mCall_a, mCallK_a, mMeth_a, mSl_a, mNoPart_a, iAt_a, mPart_a, mIsi_b, tysO_some, List.any_cons, List.any_nil, Bool.or_false, Bool.false_or, Bool.or_true, Bool.true_or, Int.natCast_pos, gN_a, gTup_a, gCons_a, gNil_a, gSub_a, sFor_a, mLc_a, mDc_a, wSeq_a, sqO_tup, sqO_str, sqO_ref, wRng1_a, mRev_a, revO_ref, List.getD_cons_zero, List.getD_cons_succ, ite_self, List.set_cons_zero, List.set_cons_succ, List.getElem?_cons_zero, List.getElem?_cons_succ, oAdd_int, oAdd_str, oAdd_tup, oAdd_ref, oSub_int, oMul_int, oDiv_int, oMod_int, oPow_int, oLt_int, oLe_int, oGt_int, oGe_int, oIs_nn, oIs_bn, oIs_in, oIs_sn, oIs_tn, oIs_rn, oIs_bb, oIs_nb, oIs_ib, oIs_sb, oIs_tb, oIs_rb, oIsi_int, oIsi_str, oIsi_bool, oIsi_tuple, oIsi_list, oIsi_dict, tyO_some, tyD_non, tyD_bl, tyD_int, tyD_str, tyD_tup, isi_facts, oEq_int, oNe_int, oEq_str, oNe_str, oSl_tup, oSl_str, oSl_ref, oLen_tup, oLen_str, oLen_ref, oAbs_int, oInt_int, oInt_bl, oMax_int, oMin_int, oTuple_tup, oTuple_ref, oList_tup, oList_str, oList_ref, oIx_tupE, oIx_ref, oAppend_ref, oPop_ref, oExtend_tupE, oSet_ref, isL_ref, isS_str, vO_some, ixO_lst, ixO_dicI, ixO_dicS, ixO_rodI, ixO_rodS, lsO_lst, rdO_lst, rdO_rol, lenO_lst, lenO_dic, lenO_rol, addO_lst, setO_lst, setO_dicI, setO_dicS, atI_zero, atI_one, atI_two, atI_end, startE, wipeE, List.map_cons, List.map_nil, List.length_cons, List.length_nil, List.replicate, List.cons_append, List.nil_append, Nat.reduceAdd, Nat.reduceSub, List.replicate_succ, List.replicate_zero, put_same, Nat.zero_le, Int.reduceLT, Int.reduceLE, Nat.reduceLT, Nat.reduceLeDiff, and_true, true_and, Bool.false_eq_true, ↓reduceIte, Bool.not_true, Bool.not_false, decide_true, decide_false, *])
local macro_rules | `(tactic| walk_at "i") => `(tactic| try simp only [sqIf_a, sqAsg_a, sqDrop_a, sqPar_a, sqPar3_a, sqRet_a, sqNext_a, sqSeq_a, sNext_a, sBreak_a, sCont_a, sDrop_a, sRet_a, sRetN_a, sIf_a, sAsg_a, sPar_a, sPar3_a, mVar_a, vAt_a, mC_a, mBin_a, mTest_a, bAt_a, mAnd_a, mOr_a, mNot_a, mYes_a, mAndV_a, mOrV_a, mNotV_a, mIf_a, mNil_a, mCons_a, mTup_a, mLst_a, mCall_a, mCallK_a, mMeth_a, mSl_a, mNoPart_a, iAt_a, mPart_a, mIsi_b, tysO_some, List.any_cons, List.any_nil, Bool.or_false, Bool.false_or, Bool.or_true, Bool.true_or, Int.natCast_pos, gN_a, gTup_a, gCons_a, gNil_a, gSub_a, sFor_a, mLc_a, mDc_a, wSeq_a, sqO_tup, sqO_str, sqO_ref, wRng1_a, mRev_a, revO_ref, List.getD_cons_zero, List.getD_cons_succ, ite_self, List.set_cons_zero, List.set_cons_succ, List.getElem?_cons_zero, List.getElem?_cons_succ, oAdd_int, oAdd_str, oAdd_tup, oAdd_ref, oSub_int, oMul_int, oDiv_int, oMod_int, oPow_int, oLt_int, oLe_int, oGt_int, oGe_int, oIs_nn, oIs_bn, oIs_in, oIs_sn, oIs_tn, oIs_rn, oIs_bb, oIs_nb, oIs_ib, oIs_sb, oIs_tb, oIs_rb, oIsi_int, oIsi_str, oIsi_bool, oIsi_tuple, oIsi_list, oIsi_dict, tyO_some, tyD_non, tyD_bl, tyD_int, tyD_str, tyD_tup, isi_facts, oEq_int, oNe_int, oEq_str, oNe_str, oSl_tup, oSl_str, oSl_ref, oLen_tup, oLen_str, oLen_ref, oAbs_int, oInt_int, oInt_bl, oMax_int, oMin_int, oTuple_tup, oTuple_ref, oList_tup, oList_str, oList_ref, oIx_tupE, oIx_ref, oAppend_ref, oPop_ref, oExtend_tupE, oSet_ref, isL_ref, isS_str, vO_some, ixO_lst, ixO_dicI, ixO_dicS, ixO_rodI, ixO_rodS, lsO_lst, rdO_lst, rdO_rol, lenO_lst, lenO_dic, lenO_rol, addO_lst, setO_lst, setO_dicI, setO_dicS, atI_zero, atI_one, atI_two, atI_end, startE, wipeE, List.map_cons, List.map_nil, List.length_cons, List.length_nil, List.replicate, List.cons_append, List.nil_append, Nat.reduceAdd, Nat.reduceSub, List.replicate_succ, List.replicate_zero, put_same, Nat.zero_le, Int.reduceLT, Int.reduceLE, Nat.reduceLT, Nat.reduceLeDiff, and_true, true_and, Bool.false_eq_true, ↓reduceIte, Bool.not_true, Bool.not_false, decide_true, decide_false, *])
/-! ### terms -/
abbrev Sign := Str × Int
abbrev Term := List Sign
def signD (s : Sign) : D := .tup [.str s.1, .int s.2]
def termD (t : Term) : D := .tup (t.map signD)
def TermOk (k : Nat) (t : Term) : Prop := t.length ≤ k ∧ ∀ s ∈ t, nmOk s.1
def S_law_term : DSp := fun vs st Q => ∃ (n m : Addr) (x y : D) (xs ys : List Str) (k : Nat), vs = [.ref n, x, y, .int k] ∧ Deal st n m ∧ sq st n m x (xs.map D.str) ∧ sq st n m y (ys.map D.str) ∧
  0 < xs.length ∧ xs.length ≤ 1000 ∧ ys.length ≤ 1000 ∧ (∀ a ∈ xs ++ ys, nmOk a) ∧ 0 < k ∧ k ≤ 1000 ∧ ∀ t st', TermOk k t → Up n m st st' → Q (termD t) st'
/-- _law_term(deal, names, letters, size): 0 deal 1 names 2 letters 3 size 4 found 5 due 6 room 7 many -/
def t_law_term : MS := sSeq (sPar 4 5 (mCons (mLst (mNil)) (mCons (mC (.int 1)) (mNil))))
    (sSeq (sWhile (mTest (mBin oGt (mVar 5) (mC (.int 0)))) (sSeq (sAsg (mCall oMax (mCons (mC (.int 0)) (mCons (mBin oSub (mBin oSub (mVar 3) (mCall oLen (mCons (mVar 4) (mNil)))) (mVar 5)) (mNil)))) (gN 6))
    (sSeq (sAsg (mCall oMin (mCons (mVar 6) (mCons (mCall S_law_of (mCons (mVar 0) (mCons (mLst (mCons (mC (.int 0)) (mCons (mC (.int 1)) (mCons (mC (.int 1)) (mCons (mC (.int 1)) (mCons (mC (.int 2)) (mCons (mC (.int 2)) (mCons (mC (.int 3)) (mCons (mC (.int 4)) (mCons (mVar 6) (mNil))))))))))) (mNil)))) (mNil)))) (gN 7))
    (sSeq (sIf (mAnd (mTest (mBin oEq (mVar 7) (mC (.int 0)))) (mAnd (mTest (mBin oGt (mCall oLen (mCons (mVar 2) (mNil))) (mC (.int 0)))) (mTest (mBin oGt (mCall S_law_any (mCons (mVar 0) (mCons (mC (.int 3)) (mNil)))) (mC (.int 0)))))) (sDrop (mMeth isL oAppend (mVar 4) (mCons (mTup (mCons (mCall S_law_of (mCons (mVar 0) (mCons (mVar 2) (mNil)))) (mCons (mBin oSub (mC (.int 0)) (mC (.int 1))) (mNil)))) (mNil)))) (sDrop (mMeth isL oAppend (mVar 4) (mCons (mTup (mCons (mCall S_law_of (mCons (mVar 0) (mCons (mVar 1) (mNil)))) (mCons (mVar 7) (mNil)))) (mNil)))))
    (sAsg (mBin oSub (mBin oAdd (mVar 5) (mVar 7)) (mC (.int 1))) (gN 5))))))
    (sRet (mCall oTuple (mCons (mVar 4) (mNil)))))
theorem sq.keep {st st' : Sto} {n m : Addr} {x : D} {xs : List D} (h : sq st n m x xs) (u : Keep st st') : sq st' n m x xs := by
  cases x <;> try exact h
  exact ⟨h.1, h.2.1, u.l h.2.2⟩
theorem kp_law_term : Keeps 4 8 S_law_term t_law_term := by
  refine ⟨fun ds st Q ⟨n, m, x, y, xs, ys, k, e, _⟩ => by rw [e]; rfl, fun ds st Q ⟨n, m, x, y, xs, ys, k, e, hd, hx, hy, l0, l1, l2, hok, k0, k1, q⟩ => ?_⟩
  subst e
  have z9 : 9 ≤ sizeLine := by decide
  have z2 : 2 ≤ sizeLine := by decide
  unfold t_law_term
  walk_at "s"
  intro p hp
  obtain ⟨pn, pm⟩ := hp.deal hd
  refine sSeq_i (fun env st' => ∃ a b c d e f g, ∃ t : Term, env = [a, b, c, d, some (.ref p), e, f, g] ∧ st' p = some (.lst (t.map signD)) ∧ TermOk k t ∧ Up n m st st') (fun nx hnx => ?_) ?_
  · refine ⟨fun j env st' => ∃ (due : Int) (f g : Option D) (t : Term), env = [some (.ref n), some x, some y, some (.int k), some (.ref p), some (.int due), f, g] ∧ st' p = some (.lst (t.map signD)) ∧ TermOk k t ∧ Up n m st st' ∧ 0 ≤ due ∧ t.length + due ≤ k ∧ k - t.length = j, ⟨_, 1, none, none, [], rfl, put_same, ⟨by simp, by simp⟩, (Up.refl hd).put hp pn pm, by omega, by simp; omega, rfl⟩, ?_⟩
    rintro j env st1 ⟨due, f, g, t, rfl, lp, ht, u, d0, dk, hj⟩
    by_cases hdue : 0 < due
    · clear hnx q hd
      have hx1 : sq st1 n m x (xs.map D.str) := hx.up u
      have hy1 : sq st1 n m y (ys.map D.str) := hy.up u
      walk_at "s"
      have er : (if (k : Int) - ((t.map signD).length : Nat) - due > 0 then (k : Int) - ((t.map signD).length : Nat) - due else 0) = ((k - t.length - due.toNat : Nat) : Int) := by
        rw [List.length_map]
        split <;> omega
      rw [er]
      obtain ⟨room, hroom⟩ : ∃ room : Nat, k - t.length - due.toNat = room := ⟨_, rfl⟩
      rw [hroom]
      clear er
      refine fun p2 hp2 => ?_
      obtain ⟨p2n, p2m⟩ := hp2.deal u.deal
      have lp2 := (Keep.put (o := .lst [.int 0, .int 1, .int 1, .int 1, .int 2, .int 2, .int 3, .int 4, .int room]) hp2).l lp
      refine ⟨n, m, .ref p2, _, rfl, u.deal.put p2n p2m, ⟨p2n, p2m, put_same⟩, by simp, by simp, fun sd st3 hsd u3 => ?_⟩
      obtain ⟨sv, rfl, hsv⟩ : ∃ sv : Int, sd = .int sv ∧ 0 ≤ sv := by
        simp only [List.mem_cons, List.not_mem_nil, or_false] at hsd
        rcases hsd with rfl | rfl | rfl | rfl | rfl | rfl | rfl | rfl | rfl <;> exact ⟨_, rfl, by omega⟩
      have lp3 := u3.l pn pm lp2
      have uu3 := (u.then (Keep.put hp2)).trans u3
      have hx3 := (hx1.keep (Keep.put hp2)).up u3
      have hy3 := (hy1.keep (Keep.put hp2)).up u3
      clear lp lp2 u hx1 hy1 u3 hp2 hsd
      walk_at "s"
      obtain ⟨many, hmany, hmr⟩ : ∃ many : Nat, (if sv < (room : Int) then sv else (room : Int)) = many ∧ many ≤ room := by
        split
        · exact ⟨sv.toNat, by omega, by omega⟩
        · exact ⟨room, rfl, Nat.le_refl _⟩
      rw [hmany]
      clear hmany hsv
      refine sSeq_i (fun env st' => ∃ a : Sign, env = [some (.ref n), some x, some y, some (.int k), some (.ref p), some (.int due), some (.int room), some (.int many)] ∧ st' p = some (.lst ((t ++ [a]).map signD)) ∧ nmOk a.1 ∧ Up n m st st') (fun nx2 hnx2 => ?_) ?_
      · have lt3 : (t.map signD).length < sizeLine := by
          rw [List.length_map, szL]
          have := ht.1
          omega
        have fin : ∀ st4 (a : Sign), nmOk a.1 → Up n m st st4 → st4 p = some (.lst (t.map signD)) → lsO (st4 p) fun zs => zs.length < sizeLine ∧ nx2 [some (.ref n), some x, some y, some (.int k), some (.ref p), some (.int due), some (.int room), some (.int many)] (put st4 p (.lst (zs ++ [signD a]))) := by
          intro st4 a ha u4 l4
          rw [l4, lsO_lst]
          refine ⟨lt3, hnx2 _ _ ⟨a, rfl, ?_, ha, u4.put hp pn pm⟩⟩
          rw [put_same]; simp
        clear hnx2
        have small : ∀ st4, sq st4 n m x (xs.map D.str) → Up n m st st4 → st4 p = some (.lst (t.map signD)) →
            S_law_of [.ref n, x] st4 fun d st5 => lsO (st5 p) fun zs => zs.length < sizeLine ∧ nx2 [some (.ref n), some x, some y, some (.int k), some (.ref p), some (.int due), some (.int room), some (.int many)] (put st5 p (.lst (zs ++ [.tup [d, .int many]]))) := by
          intro st4 h4 u4 l4
          refine ⟨n, m, x, _, rfl, u4.deal, h4, by rw [List.length_map]; omega, by rw [List.length_map]; omega, fun d st5 hd u5 => ?_⟩
          obtain ⟨a, ha, rfl⟩ := List.mem_map.mp hd
          exact fin st5 (a, many) (hok a (List.mem_append_left _ ha)) (u4.trans u5) (u5.l pn pm l4)
        have e2 := fun Q => hy3.len (Q := Q)
        rw [sIf_a]
        walk_at "s"
        clear e2
        split
        · split
          · rename_i _ hys
            have hys' : 0 < (ys.map D.str).length := by simpa using hys
            refine ⟨n, m, 3, rfl, uu3.deal, by omega, by omega, fun c st4 _ _ u4 => ?_⟩
            have lp4 := u4.l pn pm lp3
            have hx4 := hx3.up u4
            have hy4 := hy3.up u4
            have uu4 := uu3.trans u4
            have sm := small st4 hx4 uu4 lp4
            clear lp3 uu3 hx3 hy3 u4 small
            walk_at "s"
            split
            · refine ⟨n, m, y, _, rfl, uu4.deal, hy4, hys', by rw [List.length_map]; omega, fun d st5 hd u5 => ?_⟩
              obtain ⟨a, ha, rfl⟩ := List.mem_map.mp hd
              exact fin st5 (a, 0 - 1) (hok a (List.mem_append_right _ ha)) (uu4.trans u5) (u5.l pn pm lp4)
            · trivial
          · trivial
        · trivial
      · rintro env st4 ⟨a, rfl, lp4, ha, u4⟩
        walk_at "s"
        have e1 : (t ++ [a]).length = t.length + 1 := by rw [List.length_append]; rfl
        refine ⟨k - (t ++ [a]).length, ?_, due + many - 1, _, _, t ++ [a], rfl, rfl, ⟨?_, ?_⟩, ?_, ?_, rfl⟩
        · omega
        · omega
        · intro s hs
          rcases List.mem_append.mp hs with hs | hs
          · exact ht.2 s hs
          · rw [List.mem_singleton.mp hs]; exact ha
        · omega
        · omega
    · have hnx' := hnx [some (.ref n), some x, some y, some (.int k), some (.ref p), some (.int due), f, g] st1 ⟨_, _, _, _, _, _, _, t, rfl, lp, ht, u⟩
      clear hnx
      walk_at "s"
  · rintro env st' ⟨a, b, c, d, e, f, g, t, rfl, lp, ht, u⟩
    walk_at "s"
    exact endsOf_i (q t st' ht u)
end L2.DL

namespace L2.DL
open PySem PySem.Spec PyProof.Rows
/-! ### data compared by == : no truth values, texts of real signs -/
def okC : D → Bool
  | .non => true
  | .int _ => true
  | .str x => PyData.strOk x
  | .tup xs => okCs xs
  | _ => false
where okCs : List D → Bool
  | [] => true
  | x :: xs => okC x && okCs xs
def depC : D → Nat
  | .tup xs => depCs xs + 1
  | _ => 0
where depCs : List D → Nat
  | [] => 0
  | x :: xs => max (depC x) (depCs xs)
mutual
theorem okC_py : ∀ (x : D), okC x = true → ∃ p, toPy x = some p ∧ p.canLay0 = true ∧ p.depth = depC x
  | .non, _ => ⟨_, rfl, rfl, rfl⟩
  | .int i, _ => ⟨_, rfl, rfl, rfl⟩
  | .str x, h => ⟨_, rfl, h, rfl⟩
  | .bl _, h => by cases h
  | .ty _, h => by cases h
  | .ref _, h => by cases h
  | .tup xs, h => by
    obtain ⟨ps, h1, h2, h3⟩ := okCs_py xs h
    exact ⟨.tuple ps, by rw [toPy, h1]; rfl, h2, by rw [PyData.depth, depC, h3]⟩
theorem okCs_py : ∀ (xs : List D), okC.okCs xs = true → ∃ ps, toPys xs = some ps ∧ PyData.canLayAll0 ps = true ∧ PyData.depthAll ps = depC.depCs xs
  | [], _ => ⟨[], rfl, rfl, rfl⟩
  | x :: xs, h => by
    rw [okC.okCs, Bool.and_eq_true] at h
    obtain ⟨p, a1, a2, a3⟩ := okC_py x h.1
    obtain ⟨ps, b1, b2, b3⟩ := okCs_py xs h.2
    exact ⟨p :: ps, by rw [toPys, a1, b1]; rfl, by rw [PyData.canLayAll0, a2, b2]; rfl, by rw [PyData.depthAll, depC.depCs, a3, b3]⟩
end
mutual
theorem okC_eqv : ∀ (x y : D) (p q : PyData), okC x = true → okC y = true → toPy x = some p → toPy y = some q → (p.eqv q = true ↔ x = y)
  | .bl _, _, _, _, h, _, _, _ => by cases h
  | .ty _, _, _, _, h, _, _, _ => by cases h
  | .ref _, _, _, _, h, _, _, _ => by cases h
  | .non, y, p, q, _, hy, e1, e2 => by
    cases e1
    cases y <;> try (cases hy; done)
    · cases e2; simp [PyData.eqv]
    · cases e2; simp [PyData.eqv]
    · cases e2; simp [PyData.eqv]
    · rw [toPy, Option.map_eq_some_iff] at e2
      obtain ⟨ps, _, rfl⟩ := e2
      simp [PyData.eqv]
  | .int i, y, p, q, _, hy, e1, e2 => by
    cases e1
    cases y <;> try (cases hy; done)
    · cases e2; simp [PyData.eqv]
    · cases e2; simp [PyData.eqv]
    · cases e2; simp [PyData.eqv]
    · rw [toPy, Option.map_eq_some_iff] at e2
      obtain ⟨ps, _, rfl⟩ := e2
      simp [PyData.eqv]
  | .str i, y, p, q, _, hy, e1, e2 => by
    cases e1
    cases y <;> try (cases hy; done)
    · cases e2; simp [PyData.eqv]
    · cases e2; simp [PyData.eqv]
    · cases e2; simp [PyData.eqv]
    · rw [toPy, Option.map_eq_some_iff] at e2
      obtain ⟨ps, _, rfl⟩ := e2
      simp [PyData.eqv]
  | .tup xs, y, p, q, hx, hy, e1, e2 => by
    rw [toPy, Option.map_eq_some_iff] at e1
    obtain ⟨ps, e1, rfl⟩ := e1
    cases y <;> try (cases hy; done)
    · cases e2; simp [PyData.eqv]
    · cases e2; simp [PyData.eqv]
    · cases e2; simp [PyData.eqv]
    · rename_i ys
      rw [toPy, Option.map_eq_some_iff] at e2
      obtain ⟨qs, e2, rfl⟩ := e2
      rw [PyData.eqv, okCs_eqv xs ys ps qs hx hy e1 e2, D.tup.injEq]
theorem okCs_eqv : ∀ (xs ys : List D) (ps qs : List PyData), okC.okCs xs = true → okC.okCs ys = true → toPys xs = some ps → toPys ys = some qs → (PyData.eqvAll ps qs = true ↔ xs = ys)
  | [], [], ps, qs, _, _, e1, e2 => by cases e1; cases e2; simp [PyData.eqvAll]
  | [], y :: ys, ps, qs, _, hy, e1, e2 => by
    cases e1
    simp only [toPys, Option.bind_eq_some_iff, Option.map_eq_some_iff] at e2
    obtain ⟨q, _, qs', _, rfl⟩ := e2
    simp [PyData.eqvAll]
  | x :: xs, [], ps, qs, hx, _, e1, e2 => by
    cases e2
    simp only [toPys, Option.bind_eq_some_iff, Option.map_eq_some_iff] at e1
    obtain ⟨q, _, qs', _, rfl⟩ := e1
    simp [PyData.eqvAll]
  | x :: xs, y :: ys, ps, qs, hx, hy, e1, e2 => by
    simp only [toPys, Option.bind_eq_some_iff, Option.map_eq_some_iff] at e1 e2
    obtain ⟨p, a1, ps', a2, rfl⟩ := e1
    obtain ⟨q, b1, qs', b2, rfl⟩ := e2
    rw [okC.okCs, Bool.and_eq_true] at hx hy
    rw [PyData.eqvAll, Bool.and_eq_true, okC_eqv x y p q hx.1 hy.1 a1 b1, okCs_eqv xs ys ps' qs' hx.2 hy.2 a2 b2, List.cons.injEq]
end
theorem pyOf_okC {st : Sto} {x : D} {p : PyData} (h : okC x = true) (e : toPy x = some p) : pyOf st x = some p := by
  cases x <;> first | exact e | cases h
open Classical in
theorem oEq_dat {x y : D} {st : Sto} {Q : DK} (hx : okC x = true) (hy : okC y = true) (dx : depC x ≤ 64) (dy : depC y ≤ 64) (q : Q (.bl (decide (x = y))) st) : oEq x y st Q := by
  obtain ⟨p, a1, a2, a3⟩ := okC_py x hx
  obtain ⟨r, b1, b2, b3⟩ := okC_py y hy
  refine .inr ⟨p, r, pyOf_okC hx a1, pyOf_okC hy b1, by unfold SeqAt.shaped; rw [a2, a3]; simpa using dx, by unfold SeqAt.shaped; rw [b2, b3]; simpa using dy, ?_⟩
  have e : p.eqv r = decide (x = y) := by
    rw [Bool.eq_iff_iff, okC_eqv x y p r hx hy a1 b1, decide_eq_true_eq]
  rw [e]
  exact q
open Classical in
theorem oNe_dat {x y : D} {st : Sto} {Q : DK} (hx : okC x = true) (hy : okC y = true) (dx : depC x ≤ 64) (dy : depC y ≤ 64) (q : Q (.bl (!decide (x = y))) st) : oNe x y st Q := by
  obtain ⟨p, a1, a2, a3⟩ := okC_py x hx
  obtain ⟨r, b1, b2, b3⟩ := okC_py y hy
  refine .inr ⟨p, r, pyOf_okC hx a1, pyOf_okC hy b1, by unfold SeqAt.shaped; rw [a2, a3]; simpa using dx, by unfold SeqAt.shaped; rw [b2, b3]; simpa using dy, ?_⟩
  have e : p.eqv r = decide (x = y) := by
    rw [Bool.eq_iff_iff, okC_eqv x y p r hx hy a1 b1, decide_eq_true_eq]
  rw [e]
  exact q
theorem nmOk_str {x : Str} (h : nmOk x) : PyData.strOk x = true := by
  have h := h.1
  unfold azOk at h
  unfold PyData.strOk
  rw [← Array.all_toList]
  rw [List.all_eq_true] at h ⊢
  intro c hc
  have := h c hc
  simp at this ⊢
  omega
theorem signD_inj {a b : Sign} (h : signD a = signD b) : a = b := by
  unfold signD at h
  simp only [D.tup.injEq, List.cons.injEq, D.str.injEq, D.int.injEq, and_true] at h
  exact Prod.ext h.1 h.2
theorem map_inj {α β : Type} {f : α → β} (hf : ∀ a b, f a = f b → a = b) : ∀ {l m : List α}, l.map f = m.map f → l = m
  | [], [], _ => rfl
  | [], _ :: _, h => by cases h
  | _ :: _, [], h => by cases h
  | a :: l, b :: m, h => by
    simp only [List.map_cons, List.cons.injEq] at h
    rw [hf _ _ h.1, map_inj hf h.2]
theorem termD_inj {a b : Term} (h : termD a = termD b) : a = b := map_inj (fun _ _ => signD_inj) (D.tup.inj h)
theorem okC_term {t : Term} (h : ∀ s ∈ t, nmOk s.1) : okC (termD t) = true ∧ depC (termD t) ≤ 2 := by
  have key : okC.okCs (t.map signD) = true ∧ depC.depCs (t.map signD) ≤ 1 := by
    induction t with
    | nil => exact ⟨rfl, by decide⟩
    | cons s t ih =>
      obtain ⟨i1, i2⟩ := ih fun s hs => h s (List.mem_cons_of_mem _ hs)
      have h1 := nmOk_str (h s (List.mem_cons_self ..))
      refine ⟨?_, ?_⟩
      · rw [List.map_cons, okC.okCs, i1, signD]
        simp [okC, okC.okCs, h1]
      · rw [List.map_cons, depC.depCs, signD]
        simp only [depC, depC.depCs]
        omega
  exact ⟨key.1, by unfold termD; rw [depC]; omega⟩
theorem oNe_term {a b : Term} {st : Sto} {Q : DK} (ha : ∀ s ∈ a, nmOk s.1) (hb : ∀ s ∈ b, nmOk s.1) (q : Q (.bl (decide (a ≠ b))) st) : oNe (termD a) (termD b) st Q := by
  obtain ⟨a1, a2⟩ := okC_term ha
  obtain ⟨b1, b2⟩ := okC_term hb
  refine oNe_dat a1 b1 (by omega) (by omega) ?_
  have e : (!@decide (termD a = termD b) (Classical.propDecidable _)) = decide (a ≠ b) := by
    by_cases h : a = b
    · subst h; simp
    · have : termD a ≠ termD b := fun e => h (termD_inj e)
      simp [h, this]
  rw [e]
  exact q
theorem datD_term (t : Term) : datD (termD t) = true := datDs_of fun d hd => by
  obtain ⟨s, _, rfl⟩ := List.mem_map.mp hd
  rfl
theorem wD_term (t : Term) : wD (termD t) = 1 + 3 * t.length := by
  have : wD.wDs (t.map signD) = 3 * t.length := by
    induction t with
    | nil => rfl
    | cons s t ih =>
      rw [List.map_cons, wD.wDs, ih, List.length_cons]
      have : wD (signD s) = 3 := rfl
      omega
  unfold termD
  rw [wD, this]
end L2.DL

namespace L2.DL
open PySem PySem.Spec PyProof.Rows
local macro_rules | `(tactic| walk_at "s") => `(tactic| try simp only [sqAsg_a, sqDrop_a, sqPar_a, sqPar3_a, sqRet_a, sqNext_a, sqSeq_a, sNext_a, sBreak_a, sCont_a, sDrop_a, sRet_a, sRetN_a, sIf_a, sAsg_a, sPar_a, sPar3_a, mVar_a, vAt_a, mC_a, mBin_a, mTest_a, bAt_a, mAnd_a, mOr_a, mNot_a, mYes_a, mAndV_a, mOrV_a, mNotV_a, mIf_a, mNil_a, mCons_a, mTup_a, mLst_a, mCall_a, mCallK_a, mMeth_a, mSl_a, mNoPart_a, iAt_a, mPart_a, mIsi_b, tysO_some, List.any_cons, List.any_nil, Bool.or_false, Bool.false_or, Bool.or_true, Bool.true_or, Int.natCast_pos, gN_a, gTup_a, gCons_a, gNil_a, gSub_a, sFor_a, mLc_a, mDc_a, wSeq_a, sqO_tup, sqO_str, sqO_ref, wRng1_a, mRev_a, revO_ref, List.getD_cons_zero, List.getD_cons_succ, ite_self, List.set_cons_zero, List.set_cons_succ, List.getElem?_cons_zero, List.getElem?_cons_succ, oAdd_int, oAdd_str, oAdd_tup, oAdd_ref, oSub_int, oMul_int, oDiv_int, oMod_int, oPow_int, oLt_int, oLe_int, oGt_int, oGe_int, oIs_nn, oIs_bn, oIs_in, oIs_sn, oIs_tn, oIs_rn, oIs_bb, oIs_nb, oIs_ib, oIs_sb, oIs_tb, oIs_rb, oIsi_int, oIsi_str, oIsi_bool, oIsi_tuple, oIsi_list, oIsi_dict, tyO_some, tyD_non, tyD_bl, tyD_int, tyD_str, tyD_tup, isi_facts, oEq_int, oNe_int, oEq_str, oNe_str, oSl_tup, oSl_str, oSl_ref, oLen_tup, oLen_str, oLen_ref, oAbs_int, oInt_int, oInt_bl, oMax_int, oMin_int, oTuple_tup, oTuple_ref, oList_tup, oList_str, oList_ref, oIx_tupE, oIx_ref, oAppend_ref, oPop_ref, oExtend_tupE, oSet_ref, isL_ref, isS_str, vO_some, ixO_lst, ixO_dicI, ixO_dicS, ixO_rodI, ixO_rodS, lsO_lst, rdO_lst, rdO_rol, lenO_lst, lenO_dic, lenO_rol, addO_lst, setO_lst, setO_dicI, setO_dicS, atI_zero, atI_one, atI_two, atI_end, startE, wipeE, List.map_cons, List.map_nil, List.length_cons, List.length_nil, List.replicate, List.cons_append, List.nil_append, Nat.reduceAdd, Nat.reduceSub, List.replicate_succ, List.replicate_zero, put_same, Nat.zero_le, Int.reduceLT, Int.reduceLE, Nat.reduceLT, Nat.reduceLeDiff, and_true, true_and, Bool.false_eq_true, ↓reduceIte, Bool.not_true, Bool.not_false, decide_true, decide_false, *])
local macro_rules | `(tactic| walk_at "i") => `(tactic| try simp only [sqIf_a, sqAsg_a, sqDrop_a, sqPar_a, sqPar3_a, sqRet_a, sqNext_a, sqSeq_a, sNext_a, sBreak_a, sCont_a, sDrop_a, sRet_a, sRetN_a, sIf_a, sAsg_a, sPar_a, sPar3_a, mVar_a, vAt_a, mC_a, mBin_a, mTest_a, bAt_a, mAnd_a, mOr_a, mNot_a, mYes_a, mAndV_a, mOrV_a, mNotV_a, mIf_a, mNil_a, mCons_a, mTup_a, mLst_a, mCall_a, mCallK_a, mMeth_a, mSl_a, mNoPart_a, iAt_a, mPart_a, mIsi_b, tysO_some, List.any_cons, List.any_nil, Bool.or_false, Bool.false_or, Bool.or_true, Bool.true_or, Int.natCast_pos, gN_a, gTup_a, gCons_a, gNil_a, gSub_a, sFor_a, mLc_a, mDc_a, wSeq_a, sqO_tup, sqO_str, sqO_ref, wRng1_a, mRev_a, revO_ref, List.getD_cons_zero, List.getD_cons_succ, ite_self, List.set_cons_zero, List.set_cons_succ, List.getElem?_cons_zero, List.getElem?_cons_succ, oAdd_int, oAdd_str, oAdd_tup, oAdd_ref, oSub_int, oMul_int, oDiv_int, oMod_int, oPow_int, oLt_int, oLe_int, oGt_int, oGe_int, oIs_nn, oIs_bn, oIs_in, oIs_sn, oIs_tn, oIs_rn, oIs_bb, oIs_nb, oIs_ib, oIs_sb, oIs_tb, oIs_rb, oIsi_int, oIsi_str, oIsi_bool, oIsi_tuple, oIsi_list, oIsi_dict, tyO_some, tyD_non, tyD_bl, tyD_int, tyD_str, tyD_tup, isi_facts, oEq_int, oNe_int, oEq_str, oNe_str, oSl_tup, oSl_str, oSl_ref, oLen_tup, oLen_str, oLen_ref, oAbs_int, oInt_int, oInt_bl, oMax_int, oMin_int, oTuple_tup, oTuple_ref, oList_tup, oList_str, oList_ref, oIx_tupE, oIx_ref, oAppend_ref, oPop_ref, oExtend_tupE, oSet_ref, isL_ref, isS_str, vO_some, ixO_lst, ixO_dicI, ixO_dicS, ixO_rodI, ixO_rodS, lsO_lst, rdO_lst, rdO_rol, lenO_lst, lenO_dic, lenO_rol, addO_lst, setO_lst, setO_dicI, setO_dicS, atI_zero, atI_one, atI_two, atI_end, startE, wipeE, List.map_cons, List.map_nil, List.length_cons, List.length_nil, List.replicate, List.cons_append, List.nil_append, Nat.reduceAdd, Nat.reduceSub, List.replicate_succ, List.replicate_zero, put_same, Nat.zero_le, Int.reduceLT, Int.reduceLE, Nat.reduceLT, Nat.reduceLeDiff, and_true, true_and, Bool.false_eq_true, ↓reduceIte, Bool.not_true, Bool.not_false, decide_true, decide_false, *])
theorem cutL_ints (ns : List Int) (lo hi : Option Int) : cutL (ns.map D.int) lo hi = (cutL ns lo hi).map D.int := by
  unfold cutL
  rw [List.length_map, ← List.map_drop, ← List.map_take]
theorem cutL_strs (ns : List Str) (lo hi : Option Int) : cutL (ns.map D.str) lo hi = (cutL ns lo hi).map D.str := by
  unfold cutL
  rw [List.length_map, ← List.map_drop, ← List.map_take]
theorem cutL_to {α : Type} (xs : List α) (k : Nat) : cutL xs none (some k) = xs.take k := by
  unfold cutL
  rw [HT.sIx_none, HT.sIx_nat, Nat.sub_zero, List.drop_zero]
  rw [← List.take_eq_take_min]
theorem cutL_from {α : Type} (xs : List α) (k : Nat) : cutL xs (some k) none = xs.drop k := by
  unfold cutL
  rw [HT.sIx_none, HT.sIx_nat]
  by_cases h : k ≤ xs.length
  · rw [Nat.min_eq_left h, List.take_of_length_le (by rw [List.length_drop]; omega)]
  · rw [Nat.min_eq_right (by omega), List.drop_of_length_le (by omega), List.drop_of_length_le (by omega)]
    simp
theorem kp_law_deal : Keeps 2 6 S_law_deal t_law_deal := by
  refine ⟨fun ds st Q ⟨a, ns, s, e, _⟩ => by rw [e]; rfl, fun ds st Q ⟨a, ns, s, e, la, s0, s1, q⟩ => ?_⟩
  subst e
  have z2 : 2 ≤ sizeLine := by decide
  have c1 : CPow 10 64 := by unfold CPow; decide
  have c2 : CPow 10 18 := by unfold CPow; decide
  have p64 : (10 : Int) ^ Int.toNat 64 = 10000000000000000000000000000000000000000000000000000000000000000 := by decide +kernel
  unfold t_law_deal
  walk_at "s"
  refine ⟨by unfold CMulW; decide +kernel, by unfold CMulW; decide +kernel, by unfold CMulW; decide +kernel, by unfold CMulW; decide +kernel, by unfold CMulW; decide +kernel, fun p hp => ?_⟩
  have mpos : (0 : Int) < 10000000000000000000000000000000000000000000000000000000000000000 *
                                      10000000000000000000000000000000000000000000000000000000000000000 *
                                    10000000000000000000000000000000000000000000000000000000000000000 *
                                  10000000000000000000000000000000000000000000000000000000000000000 *
                                10000000000000000000000000000000000000000000000000000000000000000 *
                              10000000000000000000000000000000000000000000000000000000000000000 := by decide +kernel
  generalize (10000000000000000000000000000000000000000000000000000000000000000 : Int) *
                                      10000000000000000000000000000000000000000000000000000000000000000 *
                                    10000000000000000000000000000000000000000000000000000000000000000 *
                                  10000000000000000000000000000000000000000000000000000000000000000 *
                                10000000000000000000000000000000000000000000000000000000000000000 *
                              10000000000000000000000000000000000000000000000000000000000000000 = most at *
  rw [cutL_ints]
  have hl63 : (cutL ns none (some 63)).length ≤ 63 := by
    have := cutL_to ns 63
    rw [show ((63 : Nat) : Int) = 63 from rfl] at this
    rw [this, List.length_take]
    omega
  generalize cutL ns none (some 63) = cs at *
  have lp : put st p (.lst (cs.map D.int)) p = some (.lst (cs.map D.int)) := put_same
  generalize put st p (.lst (cs.map D.int)) = st1 at *
  clear la p64 hp
  refine lc_keep (onI fun c => some (.int ((if c < 0 then -c else c) % most))) (fun st' u => by rw [u.l lp]; rfl) (by rw [List.length_map, szL]; omega) (fun y hy st2 u2 P N hP hN => ?_) fun p2 st2 hp2 u2 lp2 => ?_
  · obtain ⟨c, hc, rfl⟩ := List.mem_map.mp hy
    have h1 := hP _ st2 rfl .refl
    clear hP hN lp
    walk_at "s"
  · rw [onI_map, fm_some] at lp2
    obtain ⟨ds, hds, hl, hn⟩ : ∃ ds : List Int, (cs.map fun c => D.int ((if c < 0 then -c else c) % most)) = ds.map D.int ∧ ds.length ≤ 63 ∧ ∀ d ∈ ds, 0 ≤ d := by
      refine ⟨cs.map fun c => (if c < 0 then -c else c) % most, by rw [List.map_map]; rfl, by rw [List.length_map]; exact hl63, fun d hd => ?_⟩
      obtain ⟨c, _, rfl⟩ := List.mem_map.mp hd
      exact Int.emod_nonneg _ (by omega)
    rw [hds] at lp2
    clear hds lp u2 hp2 hl63
    have cm : CMulW 7919 s := wide_mul (a := 20) (b := 20) (by omega) (by omega) (by omega) (by omega) (by omega)
    walk_at "s"
    refine sSeq_i (fun env st' => ∃ mix x, env = [some (.ref a), some (.int s), some (.int most), some (.ref p2), some (.int mix), x] ∧ 0 ≤ mix ∧ mix < 2147483647 ∧ st' p2 = some (.lst (ds.map D.int))) (fun nx hnx => ?_) ?_
    · walk_at "s"
      refine ⟨fun i env st' => ∃ mix x, env = [some (.ref a), some (.int s), some (.int most), some (.ref p2), some (.int mix), x] ∧ 0 ≤ mix ∧ mix < 2147483647 ∧ st' p2 = some (.lst (ds.map D.int)), ⟨_, none, rfl, by omega, by omega, lp2⟩, ?_, ?_, ?_⟩
      · rintro i env st' _ ⟨_, _, _, _, _, l⟩
        rw [l]; rfl
      · rintro i y env st' hy ⟨mix, x, rfl, m0, m1, l⟩
        clear hnx lp2 q
        rw [List.getElem?_map, Option.map_eq_some_iff] at hy
        obtain ⟨c, hc, rfl⟩ := hy
        have cm2 : CMulW mix 69621 := wide_mul (a := 31) (b := 20) (by omega) (by omega) (by omega) (by omega) (by omega)
        walk_at "s"
        exact ⟨_, _, rfl, Int.emod_nonneg _ (by omega), Int.emod_lt_of_pos _ (by omega)⟩
      · rintro env st' ⟨mix, x, rfl, m0, m1, l⟩
        exact hnx _ _ ⟨mix, x, rfl, m0, m1, l⟩
    · rintro env st' ⟨mix, x, rfl, m0, m1, l⟩
      clear lp2
      walk_at "s"
      refine lc_keep (onI fun c => if (10 : Int) ^ Int.toNat 18 ≤ c then some (.int c) else none) (fun st' u => by rw [u.l l]; rfl) (by rw [List.length_map, szL]; omega) (fun y hy st2 u2 P N hP hN => ?_) fun p3 st3 hp3 u3 lp3 => ?_
      · obtain ⟨c, hc, rfl⟩ := List.mem_map.mp hy
        clear l
        walk_at "s"
        by_cases h : (10 : Int) ^ Int.toNat 18 ≤ c
        · rw [if_pos (by simpa using h)]
          have h1 := hP (.int c) st2 (by rw [onI]; rw [if_pos h]) .refl
          clear hP hN
          walk_at "s"
        · rw [if_neg (by simpa using h)]
          exact hN st2 (by rw [onI]; rw [if_neg h]) .refl
      · rw [onI_map] at lp3
        have e : (ds.filterMap fun c => if (10 : Int) ^ Int.toNat 18 ≤ c then some (D.int c) else none) = (ds.filter fun c => decide ((10 : Int) ^ Int.toNat 18 ≤ c)).map D.int := by
          clear lp3 l hl hn
          induction ds with
          | nil => rfl
          | cons c ds ih =>
            by_cases h : (10 : Int) ^ Int.toNat 18 ≤ c
            · rw [List.filterMap_cons_some (b := .int c) (by rw [if_pos h]), ih, List.filter_cons_of_pos (by simpa using h), List.map_cons]
            · rw [List.filterMap_cons_none (by rw [if_neg h]), ih, List.filter_cons_of_neg (by simpa using h)]
        rw [e] at lp3
        clear l
        walk_at "s"
        rw [← List.map_reverse]
        have hfl := List.length_filter_le (fun c => decide ((10 : Int) ^ Int.toNat 18 ≤ c)) ds
        have hfn : ∀ c ∈ ds.filter (fun c => decide ((10 : Int) ^ Int.toNat 18 ≤ c)), 0 ≤ c := fun c hc => hn c (List.mem_filter.mp hc).1
        generalize ds.filter (fun c => decide ((10 : Int) ^ Int.toNat 18 ≤ c)) = fs at *
        intro m hm n hn2
        have nm : n ≠ m := hn2.ne put_same
        refine endsOf_i (q n m _ ⟨fs.reverse, mix, put_same, by rw [put_ne nm.symm]; exact put_same, fun c hc => hfn c (List.mem_reverse.mp hc), m0, m1, by rw [List.length_reverse]; omega⟩)
end L2.DL

namespace L2.DL
open PySem PySem.Spec PyProof.Rows
/-! ### numbers as octets: plain -/
def enc (n : Nat) : List Int := if h : n < 128 then [(n : Int)] else ((128 + n % 128 : Nat) : Int) :: enc (n / 128)
decreasing_by omega
/-- the number of figures, the least first -/
def valB (b : Int) : List Int → Int
  | [] => 0
  | x :: xs => x + b * valB b xs
/-- the run of octets that go on -/
def runAt (l : List Int) : List Int := l.takeWhile fun x => decide (128 ≤ x)
def numL (l : List Int) : Option (Int × Nat) :=
  match (l.drop (runAt l).length) with
  | [] => none
  | x :: _ => if 0 < (runAt l).length ∧ x = 0 then none else some (valB 128 ((runAt l).map (fun y => y - 128) ++ [x]), (runAt l).length + 1)
def numAt (l : List Int) (at_ : Int) : Option (Int × Int) := if at_ < 0 then none else (numL (l.drop at_.toNat)).map fun p => (p.1, at_ + p.2)
theorem enc_small {n : Nat} (h : n < 128) : enc n = [(n : Int)] := by rw [enc, dif_pos h]
theorem enc_big {n : Nat} (h : ¬ n < 128) : enc n = ((128 + n % 128 : Nat) : Int) :: enc (n / 128) := by rw [enc, dif_neg h]
theorem enc_shape : ∀ n : Nat, ∃ r x, enc n = r ++ [x] ∧ (∀ y ∈ r, 128 ≤ y ∧ y < 256) ∧ 0 ≤ x ∧ x < 128 ∧ (0 < r.length → x ≠ 0) ∧ valB 128 (r.map (fun y => y - 128) ++ [x]) = n := by
  intro n
  induction n using Nat.strongRecOn with
  | _ n ih =>
    by_cases h : n < 128
    · refine ⟨[], n, enc_small h, (fun y hy => by cases hy), by omega, by omega, (fun c => by simp at c), ?_⟩
      simp [valB]
    · obtain ⟨r, x, e, h1, h2, h3, h4, h5⟩ := ih (n / 128) (by omega)
      refine ⟨((128 + n % 128 : Nat) : Int) :: r, x, by rw [enc_big h, e]; rfl, fun y hy => ?_, h2, h3, fun _ => ?_, ?_⟩
      · rcases List.mem_cons.mp hy with rfl | hy
        · omega
        · exact h1 y hy
      · by_cases hr : 0 < r.length
        · exact h4 hr
        · have : r = [] := List.eq_nil_of_length_eq_zero (by omega)
          subst this
          simp [valB] at h5
          omega
      · rw [List.map_cons, List.cons_append, valB, h5]
        omega
theorem run_app {r : List Int} {x : Int} {t : List Int} (h : ∀ y ∈ r, 128 ≤ y) (hx : x < 128) : runAt (r ++ x :: t) = r := by
  unfold runAt
  induction r with
  | nil => simp [List.takeWhile_cons]; omega
  | cons y r ih =>
    rw [List.cons_append, List.takeWhile_cons, if_pos (by simpa using h y (List.mem_cons_self ..)), ih fun z hz => h z (List.mem_cons_of_mem _ hz)]
/-- a number's octets, whatever stands behind -/
theorem numL_enc (n : Nat) (t : List Int) : numL (enc n ++ t) = some ((n : Int), (enc n).length) := by
  obtain ⟨r, x, e, h1, h2, h3, h4, h5⟩ := enc_shape n
  have hr : runAt (enc n ++ t) = r := by
    rw [e, List.append_assoc]
    exact run_app (fun y hy => (h1 y hy).1) h3
  unfold numL
  rw [hr, e]
  have e2 : (r ++ [x] ++ t).drop r.length = x :: t := by rw [List.append_assoc, List.drop_left]; rfl
  rw [e2]
  show (if 0 < r.length ∧ x = 0 then none else _) = _
  rw [if_neg (fun c => h4 c.1 c.2), h5, List.length_append]
  rfl
theorem enc_len (n : Nat) : 0 < (enc n).length := by
  obtain ⟨r, x, e, _⟩ := enc_shape n
  rw [e]; simp
/-- a number's octets cut short -/
theorem numL_cut (n k : Nat) (h : k < (enc n).length) : numL ((enc n).take k) = none := by
  obtain ⟨r, x, e, h1, h2, h3, h4, h5⟩ := enc_shape n
  rw [e, List.length_append, List.length_singleton] at h
  have e1 : (enc n).take k = r.take k := by rw [e, List.take_append_of_le_length (by omega)]
  have e2 : runAt (r.take k) = r.take k := by
    unfold runAt
    have go : ∀ l : List Int, (∀ y ∈ l, 128 ≤ y) → l.takeWhile (fun x => decide (128 ≤ x)) = l := by
      intro l
      induction l with
      | nil => intro _; rfl
      | cons y l ih => intro hl; rw [List.takeWhile_cons, if_pos (by simpa using hl y (List.mem_cons_self ..)), ih fun z hz => hl z (List.mem_cons_of_mem _ hz)]
    exact go _ fun y hy => (h1 y (List.mem_of_mem_take hy)).1
  unfold numL
  rw [e1, e2, List.drop_length]
end L2.DL

namespace L2.DL
open PySem PySem.Spec PyProof.Rows
local macro_rules | `(tactic| walk_at "s") => `(tactic| try simp only [sqAsg_a, sqDrop_a, sqPar_a, sqPar3_a, sqRet_a, sqNext_a, sqSeq_a, sNext_a, sBreak_a, sCont_a, sDrop_a, sRet_a, sRetN_a, sIf_a, sAsg_a, sPar_a, sPar3_a, mVar_a, vAt_a, mC_a, mBin_a, mTest_a, bAt_a, mAnd_a, mOr_a, mNot_a, mYes_a, mAndV_a, mOrV_a, mNotV_a, mIf_a, mNil_a, mCons_a, mTup_a, mLst_a, mCall_a, mCallK_a, mMeth_a, mSl_a, mNoPart_a, iAt_a, mPart_a, mIsi_b, tysO_some, List.any_cons, List.any_nil, Bool.or_false, Bool.false_or, Bool.or_true, Bool.true_or, Int.natCast_pos, gN_a, gTup_a, gCons_a, gNil_a, gSub_a, sFor_a, mLc_a, mDc_a, wSeq_a, sqO_tup, sqO_str, sqO_ref, wRng1_a, wRng2_b, wRng3_b, wEnum_a, enO_tup, enO_ref, mRev_a, revO_ref, List.getD_cons_zero, List.getD_cons_succ, ite_self, List.set_cons_zero, List.set_cons_succ, List.getElem?_cons_zero, List.getElem?_cons_succ, oAdd_int, oAdd_str, oAdd_tup, oAdd_ref, oSub_int, oMul_int, oDiv_int, oMod_int, oPow_int, oLt_int, oLe_int, oGt_int, oGe_int, oIs_nn, oIs_bn, oIs_in, oIs_sn, oIs_tn, oIs_rn, oIs_bb, oIs_nb, oIs_ib, oIs_sb, oIs_tb, oIs_rb, oIsi_int, oIsi_str, oIsi_bool, oIsi_tuple, oIsi_list, oIsi_dict, tyO_some, tyD_non, tyD_bl, tyD_int, tyD_str, tyD_tup, isi_facts, oEq_int, oNe_int, oEq_str, oNe_str, oSl_tup, oSl_str, oSl_ref, oLen_tup, oLen_str, oLen_ref, oAbs_int, oInt_int, oInt_bl, oMax_int, oMin_int, oTuple_tup, oTuple_ref, oList_tup, oList_str, oList_ref, oIx_tupE, oIx_ref, oAppend_ref, oPop_ref, oExtend_tupE, oSet_ref, isL_ref, isS_str, vO_some, ixO_lst, ixO_dicI, ixO_dicS, ixO_rodI, ixO_rodS, lsO_lst, rdO_lst, rdO_rol, lenO_lst, lenO_dic, lenO_rol, addO_lst, setO_lst, setO_dicI, setO_dicS, atI_zero, atI_one, atI_two, atI_end, startE, wipeE, List.map_cons, List.map_nil, List.length_cons, List.length_nil, List.replicate, List.cons_append, List.nil_append, Nat.reduceAdd, Nat.reduceSub, List.replicate_succ, List.replicate_zero, put_same, Nat.zero_le, Int.reduceLT, Int.reduceLE, Nat.reduceLT, Nat.reduceLeDiff, and_true, true_and, Bool.false_eq_true, ↓reduceIte, Bool.not_true, Bool.not_false, decide_true, decide_false, *])
local macro_rules | `(tactic| walk_at "i") => `(tactic| try simp only [sqIf_a, sqAsg_a, sqDrop_a, sqPar_a, sqPar3_a, sqRet_a, sqNext_a, sqSeq_a, sNext_a, sBreak_a, sCont_a, sDrop_a, sRet_a, sRetN_a, sIf_a, sAsg_a, sPar_a, sPar3_a, mVar_a, vAt_a, mC_a, mBin_a, mTest_a, bAt_a, mAnd_a, mOr_a, mNot_a, mYes_a, mAndV_a, mOrV_a, mNotV_a, mIf_a, mNil_a, mCons_a, mTup_a, mLst_a, mCall_a, mCallK_a, mMeth_a, mSl_a, mNoPart_a, iAt_a, mPart_a, mIsi_b, tysO_some, List.any_cons, List.any_nil, Bool.or_false, Bool.false_or, Bool.or_true, Bool.true_or, Int.natCast_pos, gN_a, gTup_a, gCons_a, gNil_a, gSub_a, sFor_a, mLc_a, mDc_a, wSeq_a, sqO_tup, sqO_str, sqO_ref, wRng1_a, wRng2_b, wRng3_b, wEnum_a, enO_tup, enO_ref, mRev_a, revO_ref, List.getD_cons_zero, List.getD_cons_succ, ite_self, List.set_cons_zero, List.set_cons_succ, List.getElem?_cons_zero, List.getElem?_cons_succ, oAdd_int, oAdd_str, oAdd_tup, oAdd_ref, oSub_int, oMul_int, oDiv_int, oMod_int, oPow_int, oLt_int, oLe_int, oGt_int, oGe_int, oIs_nn, oIs_bn, oIs_in, oIs_sn, oIs_tn, oIs_rn, oIs_bb, oIs_nb, oIs_ib, oIs_sb, oIs_tb, oIs_rb, oIsi_int, oIsi_str, oIsi_bool, oIsi_tuple, oIsi_list, oIsi_dict, tyO_some, tyD_non, tyD_bl, tyD_int, tyD_str, tyD_tup, isi_facts, oEq_int, oNe_int, oEq_str, oNe_str, oSl_tup, oSl_str, oSl_ref, oLen_tup, oLen_str, oLen_ref, oAbs_int, oInt_int, oInt_bl, oMax_int, oMin_int, oTuple_tup, oTuple_ref, oList_tup, oList_str, oList_ref, oIx_tupE, oIx_ref, oAppend_ref, oPop_ref, oExtend_tupE, oSet_ref, isL_ref, isS_str, vO_some, ixO_lst, ixO_dicI, ixO_dicS, ixO_rodI, ixO_rodS, lsO_lst, rdO_lst, rdO_rol, lenO_lst, lenO_dic, lenO_rol, addO_lst, setO_lst, setO_dicI, setO_dicS, atI_zero, atI_one, atI_two, atI_end, startE, wipeE, List.map_cons, List.map_nil, List.length_cons, List.length_nil, List.replicate, List.cons_append, List.nil_append, Nat.reduceAdd, Nat.reduceSub, List.replicate_succ, List.replicate_zero, put_same, Nat.zero_le, Int.reduceLT, Int.reduceLE, Nat.reduceLT, Nat.reduceLeDiff, and_true, true_and, Bool.false_eq_true, ↓reduceIte, Bool.not_true, Bool.not_false, decide_true, decide_false, *])
/-- numbers of a bounded breadth -/
def nbit (n : Nat) : Prop := n < 2 ^ 40000
theorem enc_len_le : ∀ (k n : Nat), n < 128 ^ (k + 1) → (enc n).length ≤ k + 1
  | 0, n, h => by rw [enc_small (by simpa using h)]; simp
  | k + 1, n, h => by
    by_cases hn : n < 128
    · rw [enc_small hn]; simp
    · rw [enc_big hn, List.length_cons]
      have : n / 128 < 128 ^ (k + 1) := by
        rw [Nat.div_lt_iff_lt_mul (by omega)]
        rw [Nat.pow_succ] at h
        exact h
      have := enc_len_le k _ this
      omega
def S_octets_of_number : DSp := fun vs st Q => ∃ n : Nat, vs = [.int n] ∧ (enc n).length ≤ 1000000 ∧ ∀ st', Keep st st' → Q (.tup ((enc n).map D.int)) st'
/-- octets_of_number(number): 0 number 1 found 2 rest -/
def t_octets_of_number : MS := sSeq (sAsg (mLst (mNil)) (gN 1))
    (sSeq (sAsg (mVar 0) (gN 2))
    (sSeq (sWhile (mTest (mBin oGe (mVar 2) (mC (.int (128))))) (sSeq (sDrop (mMeth isL oAppend (mVar 1) (mCons (mBin oAdd (mC (.int (128))) (mBin oMod (mVar 2) (mC (.int (128))))) (mNil))))
    (sAsg (mBin oDiv (mVar 2) (mC (.int (128)))) (gN 2))))
    (sSeq (sDrop (mMeth isL oAppend (mVar 1) (mCons (mVar 2) (mNil))))
    (sRet (mCall oTuple (mCons (mVar 1) (mNil)))))))
theorem kp_octets_of_number : Keeps 1 3 S_octets_of_number t_octets_of_number := by
  refine ⟨fun ds st Q ⟨n, e, _⟩ => by rw [e]; rfl, fun ds st Q ⟨n, e, hl, q⟩ => ?_⟩
  subst e
  unfold t_octets_of_number
  walk_at "s"
  intro p hp
  refine sSeq_i (fun env st' => ∃ (a : Option D) (f : List Int) (r : Nat), env = [a, some (.ref p), some (.int r)] ∧ Keep st st' ∧ st' p = some (.lst (f.map D.int)) ∧ f ++ [(r : Int)] = enc n) (fun nx hnx => ?_) ?_
  · refine ⟨fun j env st' => ∃ (a : Option D) (f : List Int) (r : Nat), env = [a, some (.ref p), some (.int r)] ∧ Keep st st' ∧ st' p = some (.lst (f.map D.int)) ∧ f ++ enc r = enc n ∧ j = r, ⟨n, _, [], n, rfl, Keep.put hp, put_same, rfl, rfl⟩, ?_⟩
    rintro j env st1 ⟨a, f, r, rfl, u, l, he, rfl⟩
    by_cases hr : j < 128
    · have hx := hnx [a, some (.ref p), some (.int j)] st1 ⟨a, f, j, rfl, u, l, by rw [← he, enc_small hr]⟩
      clear hnx
      walk_at "s"
      rw [if_neg (by simp; omega)]
      trivial
    · clear hnx q
      have w1 : CDivW j 128 := wide_div (b := 8) (by omega) (by omega) (by omega) (by omega)
      have hlf : (f.map D.int).length < sizeLine := by
        have h1 := congrArg List.length he
        have h2 := enc_len j
        rw [List.length_append] at h1
        rw [List.length_map, szL]
        omega
      walk_at "s"
      rw [if_pos (by simp; omega)]
      refine ⟨j / 128, by omega, a, f ++ [((128 + j % 128 : Nat) : Int)], j / 128, ?_, u.mut hp, ?_, ?_, rfl⟩
      · congr 4
      · rw [List.map_append]; rfl
      · rw [List.append_assoc, ← he, enc_big hr]; rfl
  · rintro env st' ⟨a, f, r, rfl, u, l, he⟩
    have hlf : (f.map D.int).length < sizeLine := by
      have h1 := congrArg List.length he
      rw [List.length_append] at h1
      rw [List.length_map, szL]
      omega
    walk_at "s"
    have e2 : f.map D.int ++ [D.int r] = (enc n).map D.int := by rw [← he, List.map_append]; rfl
    rw [e2]
    exact endsOf_i (q _ (u.mut hp))
end L2.DL

namespace L2.DL
open PySem PySem.Spec PyProof.Rows
local macro_rules | `(tactic| walk_at "s") => `(tactic| try simp only [sqAsg_a, sqDrop_a, sqPar_a, sqPar3_a, sqRet_a, sqNext_a, sqSeq_a, sNext_a, sBreak_a, sCont_a, sDrop_a, sRet_a, sRetN_a, sIf_a, sAsg_a, sPar_a, sPar3_a, mVar_a, vAt_a, mC_a, mBin_a, mTest_a, bAt_a, mAnd_a, mOr_a, mNot_a, mYes_a, mAndV_a, mOrV_a, mNotV_a, mIf_a, mNil_a, mCons_a, mTup_a, mLst_a, mCall_a, mCallK_a, mMeth_a, mSl_a, mNoPart_a, iAt_a, mPart_a, mIsi_b, tysO_some, List.any_cons, List.any_nil, Bool.or_false, Bool.false_or, Bool.or_true, Bool.true_or, Int.natCast_pos, gN_a, gTup_a, gCons_a, gNil_a, gSub_a, sFor_a, mLc_a, mDc_a, wSeq_a, sqO_tup, sqO_str, sqO_ref, wRng1_a, wRng2_b, wRng3_b, wEnum_a, enO_tup, enO_ref, mRev_a, revO_ref, List.getD_cons_zero, List.getD_cons_succ, ite_self, List.set_cons_zero, List.set_cons_succ, List.getElem?_cons_zero, List.getElem?_cons_succ, oAdd_int, oAdd_str, oAdd_tup, oAdd_ref, oSub_int, oMul_int, oDiv_int, oMod_int, oPow_int, oLt_int, oLe_int, oGt_int, oGe_int, oIs_nn, oIs_bn, oIs_in, oIs_sn, oIs_tn, oIs_rn, oIs_bb, oIs_nb, oIs_ib, oIs_sb, oIs_tb, oIs_rb, oIsi_int, oIsi_str, oIsi_bool, oIsi_tuple, oIsi_list, oIsi_dict, tyO_some, tyD_non, tyD_bl, tyD_int, tyD_str, tyD_tup, isi_facts, oEq_int, oNe_int, oEq_str, oNe_str, oSl_tup, oSl_str, oSl_ref, oLen_tup, oLen_str, oLen_ref, oAbs_int, oInt_int, oInt_bl, oMax_int, oMin_int, oTuple_tup, oTuple_ref, oList_tup, oList_str, oList_ref, oIx_tupE, oIx_ref, oAppend_ref, oPop_ref, oExtend_tupE, oSet_ref, isL_ref, isS_str, vO_some, ixO_lst, ixO_dicI, ixO_dicS, ixO_rodI, ixO_rodS, lsO_lst, rdO_lst, rdO_rol, lenO_lst, lenO_dic, lenO_rol, addO_lst, setO_lst, setO_dicI, setO_dicS, atI_zero, atI_one, atI_two, atI_end, startE, wipeE, List.map_cons, List.map_nil, List.length_cons, List.length_nil, List.replicate, List.cons_append, List.nil_append, Nat.reduceAdd, Nat.reduceSub, List.replicate_succ, List.replicate_zero, put_same, Nat.zero_le, Int.reduceLT, Int.reduceLE, Nat.reduceLT, Nat.reduceLeDiff, and_true, true_and, Bool.false_eq_true, ↓reduceIte, Bool.not_true, Bool.not_false, decide_true, decide_false, *])
local macro_rules | `(tactic| walk_at "i") => `(tactic| try simp only [sqIf_a, sqAsg_a, sqDrop_a, sqPar_a, sqPar3_a, sqRet_a, sqNext_a, sqSeq_a, sNext_a, sBreak_a, sCont_a, sDrop_a, sRet_a, sRetN_a, sIf_a, sAsg_a, sPar_a, sPar3_a, mVar_a, vAt_a, mC_a, mBin_a, mTest_a, bAt_a, mAnd_a, mOr_a, mNot_a, mYes_a, mAndV_a, mOrV_a, mNotV_a, mIf_a, mNil_a, mCons_a, mTup_a, mLst_a, mCall_a, mCallK_a, mMeth_a, mSl_a, mNoPart_a, iAt_a, mPart_a, mIsi_b, tysO_some, List.any_cons, List.any_nil, Bool.or_false, Bool.false_or, Bool.or_true, Bool.true_or, Int.natCast_pos, gN_a, gTup_a, gCons_a, gNil_a, gSub_a, sFor_a, mLc_a, mDc_a, wSeq_a, sqO_tup, sqO_str, sqO_ref, wRng1_a, wRng2_b, wRng3_b, wEnum_a, enO_tup, enO_ref, mRev_a, revO_ref, List.getD_cons_zero, List.getD_cons_succ, ite_self, List.set_cons_zero, List.set_cons_succ, List.getElem?_cons_zero, List.getElem?_cons_succ, oAdd_int, oAdd_str, oAdd_tup, oAdd_ref, oSub_int, oMul_int, oDiv_int, oMod_int, oPow_int, oLt_int, oLe_int, oGt_int, oGe_int, oIs_nn, oIs_bn, oIs_in, oIs_sn, oIs_tn, oIs_rn, oIs_bb, oIs_nb, oIs_ib, oIs_sb, oIs_tb, oIs_rb, oIsi_int, oIsi_str, oIsi_bool, oIsi_tuple, oIsi_list, oIsi_dict, tyO_some, tyD_non, tyD_bl, tyD_int, tyD_str, tyD_tup, isi_facts, oEq_int, oNe_int, oEq_str, oNe_str, oSl_tup, oSl_str, oSl_ref, oLen_tup, oLen_str, oLen_ref, oAbs_int, oInt_int, oInt_bl, oMax_int, oMin_int, oTuple_tup, oTuple_ref, oList_tup, oList_str, oList_ref, oIx_tupE, oIx_ref, oAppend_ref, oPop_ref, oExtend_tupE, oSet_ref, isL_ref, isS_str, vO_some, ixO_lst, ixO_dicI, ixO_dicS, ixO_rodI, ixO_rodS, lsO_lst, rdO_lst, rdO_rol, lenO_lst, lenO_dic, lenO_rol, addO_lst, setO_lst, setO_dicI, setO_dicS, atI_zero, atI_one, atI_two, atI_end, startE, wipeE, List.map_cons, List.map_nil, List.length_cons, List.length_nil, List.replicate, List.cons_append, List.nil_append, Nat.reduceAdd, Nat.reduceSub, List.replicate_succ, List.replicate_zero, put_same, Nat.zero_le, Int.reduceLT, Int.reduceLE, Nat.reduceLT, Nat.reduceLeDiff, and_true, true_and, Bool.false_eq_true, ↓reduceIte, Bool.not_true, Bool.not_false, decide_true, decide_false, *])

/-! ### the number of figures, neighbours put together -/
def pairUp (b : Int) : List Int → List Int
  | x :: y :: t => (x + b * y) :: pairUp b t
  | [x] => [x]
  | [] => []
theorem pairUp_val (b : Int) : ∀ l : List Int, valB (b * b) (pairUp b l) = valB b l
  | x :: y :: t => by
    rw [pairUp, valB, pairUp_val b t, valB, valB, Int.mul_add, Int.mul_assoc, Int.add_assoc]
  | [x] => by simp [pairUp, valB]
  | [] => rfl
theorem pairUp_len (b : Int) : ∀ l : List Int, (pairUp b l).length = (l.length + 1) / 2
  | x :: y :: t => by rw [pairUp, List.length_cons, pairUp_len b t, List.length_cons, List.length_cons]; omega
  | [x] => by simp [pairUp]
  | [] => rfl
theorem pairUp_bd {b : Int} (h1 : 1 ≤ b) : ∀ l : List Int, (∀ x ∈ l, 0 ≤ x ∧ x < b) → ∀ x ∈ pairUp b l, 0 ≤ x ∧ x < b * b
  | x :: y :: t, h, z, hz => by
    have hx := h x (by simp)
    have hy := h y (by simp)
    rw [pairUp] at hz
    rcases List.mem_cons.mp hz with rfl | hz
    · have e1 : b * y ≤ b * (b - 1) := Int.mul_le_mul_of_nonneg_left (by omega) (by omega)
      rw [Int.mul_sub, Int.mul_one] at e1
      have e2 : 0 ≤ b * y := Int.mul_nonneg (by omega) hy.1
      omega
    · exact pairUp_bd h1 t (fun x hx => h x (by simp [hx])) z hz
  | [x], h, z, hz => by
    have hx := h x (by simp)
    rw [pairUp, List.mem_singleton] at hz
    subst hz
    have e1 : b * 1 ≤ b * b := Int.mul_le_mul_of_nonneg_left h1 (by omega)
    omega
  | [], h, z, hz => by cases hz
/-- the pairs by their places, and the odd one -/
theorem pairUp_eq (b : Int) : ∀ l : List Int, pairUp b l = (List.range (l.length / 2)).map (fun i => l.getD (2 * i) 0 + b * l.getD (2 * i + 1) 0) ++ (if l.length % 2 = 1 then [l.getD (l.length - 1) 0] else [])
  | x :: y :: t => by
    rw [pairUp, pairUp_eq b t]
    have e1 : (x :: y :: t).length / 2 = t.length / 2 + 1 := by simp; omega
    have e2 : (x :: y :: t).length % 2 = t.length % 2 := by simp only [List.length_cons]; omega
    rw [e1, e2, List.range_succ_eq_map, List.map_cons, List.map_map, List.cons_append]
    congr 1
    congr 1
    by_cases h : t.length % 2 = 1
    · rw [if_pos h, if_pos h]
      have e3 : (x :: y :: t).length - 1 = (t.length - 1) + 2 := by simp; omega
      rw [e3]
      rfl
    · rw [if_neg h, if_neg h]
  | [x] => by simp [pairUp]
  | [] => by simp [pairUp]
theorem rgc_two {n : Nat} (h : n < 1000000000) (h2 : 2 ≤ n) : RgC 0 ((n : Int) - 1) 2 (n / 2) := by
  refine ⟨by decide, by decide, ?_, ?_⟩
  · unfold Builtin.Range.small
    rw [PyProof.Rows.rangeSize_pos (by omega) (by omega)]
    rw [show (n : Int) - 1 + 2 - 1 = (n : Int) by omega]
    simp only [Builtin.Range.rangeFitsLong, Bool.and_eq_true, Bool.or_eq_true, decide_eq_true_eq, beq_iff_eq, show ((2 : Int) > 0) by decide, if_true]
    omega
  · rw [PyProof.Rows.rangeSize_pos (by omega) (by omega)]
    omega
theorem getD_map_int {l : List Int} {i : Nat} (h : i < l.length) : atI (l.map D.int) (i : Int) = some (.int (l.getD i 0)) := by
  rw [atI_ofNat, List.getElem?_map, List.getElem?_eq_getElem h]
  simp [List.getD_eq_getElem?_getD, h]
def S_number_of : DSp := fun vs st Q => ∃ (a : Addr) (ns : List Int), vs = [.ref a] ∧ st a = some (.lst (ns.map D.int)) ∧ 0 < ns.length ∧ ns.length ≤ 16384 ∧ (∀ x ∈ ns, 0 ≤ x ∧ x < 128) ∧ ∀ st', Keep st st' → Q (.int (valB 128 ns)) st'
/-- number_of(figures): 0 figures 1 row 2 base 3 pairs 4 at -/
def t_number_of : MS := sSeq (sAsg (mTup (mCons (mCall oList (mCons (mVar 0) (mNil))) (mCons (mC (.int (128))) (mNil)))) (gTup 2 (gCons (gN 1) (gCons (gN 2) (gNil)))))
    (sSeq (sWhile (mTest (mBin oGt (mCall oLen (mCons (mVar 1) (mNil))) (mC (.int 1)))) (sSeq (sAsg (mLc (wRng3 (mC (.int 0)) (mBin oSub (mCall oLen (mCons (mVar 1) (mNil))) (mC (.int 1))) (mC (.int 2))) (gN 4) (mYes) (mBin oAdd (mBin oIx (mVar 1) (mVar 4)) (mBin oMul (mVar 2) (mBin oIx (mVar 1) (mBin oAdd (mVar 4) (mC (.int 1)))))) [4]) (gN 3))
    (sSeq (sIf (mTest (mBin oEq (mBin oMod (mCall oLen (mCons (mVar 1) (mNil))) (mC (.int 2))) (mC (.int 1)))) (sDrop (mMeth isL oAppend (mVar 3) (mCons (mBin oIx (mVar 1) (mBin oSub (mCall oLen (mCons (mVar 1) (mNil))) (mC (.int 1)))) (mNil)))) (sNext))
    (sSeq (sAsg (mVar 3) (gN 1))
    (sAsg (mBin oMul (mVar 2) (mVar 2)) (gN 2))))))
    (sRet (mBin oIx (mVar 1) (mC (.int 0)))))

theorem kp_number_of : Keeps 1 5 S_number_of t_number_of := by
  refine ⟨fun ds st Q ⟨a, ns, e, _⟩ => by rw [e]; rfl, fun ds st Q ⟨a, ns, e, la, l0, l1, hb, q⟩ => ?_⟩
  subst e
  have z2 : 2 ≤ sizeLine := by decide
  unfold t_number_of
  walk_at "s"
  intro p hp
  refine sSeq_i (fun env st' => ∃ r b g3 g4, env = [some (.ref a), some (.ref r), some (.int b), g3, g4] ∧ Keep st st' ∧ st' r = some (.lst [.int (valB 128 ns)])) (fun nx hnx => ?_) ?_
  · refine ⟨fun m env st' => ∃ (r : Addr) (j : Nat) (row : List Int) (g3 g4 : Option D), env = [some (.ref a), some (.ref r), some (.int ((2 ^ (7 * 2 ^ j) : Nat) : Int)), g3, g4] ∧ Keep st st' ∧ st' r = some (.lst (row.map D.int)) ∧ (row.length - 1) * 2 ^ j < 16384 ∧ 0 < row.length ∧ (∀ x ∈ row, 0 ≤ x ∧ x < ((2 ^ (7 * 2 ^ j) : Nat) : Int)) ∧ valB ((2 ^ (7 * 2 ^ j) : Nat) : Int) row = valB 128 ns ∧ m = row.length, ⟨ns.length, p, 0, ns, none, none, rfl, Keep.put hp, put_same, by omega, l0, hb, rfl, rfl⟩, ?_⟩
    rintro m env st1 ⟨r, j, row, g3, g4, rfl, u, l, hj, h0, hr, hv, rfl⟩
    by_cases h2 : row.length = 1
    · have hx := hnx [some (.ref a), some (.ref r), some (.int ((2 ^ (7 * 2 ^ j) : Nat) : Int)), g3, g4] st1 ⟨r, _, g3, g4, rfl, u, by
        match row, h2, hv, l with
        | [x], _, hv, l => simp only [valB, Int.mul_zero, Int.add_zero] at hv; rw [l, ← hv]; rfl⟩
      clear hnx
      walk_at "s"
      rw [if_neg (by simp; omega)]
      trivial
    · clear hnx q hp la
      have hj11 : j < 14 := by
        have e1 : 2 ^ j ≤ (row.length - 1) * 2 ^ j := Nat.le_mul_of_pos_left _ (by omega)
        exact (Nat.pow_lt_pow_iff_right (a := 2) (by omega)).mp (Nat.lt_of_le_of_lt e1 hj)
      have hlen : row.length ≤ 16384 := by
        have e1 : (row.length - 1) * 1 ≤ (row.length - 1) * 2 ^ j := Nat.mul_le_mul_left _ Nat.one_le_two_pow
        omega
      have hp2 : 2 ^ j ≤ 8192 := Nat.pow_le_pow_right (n := 2) (by omega) (show j ≤ 13 by omega)
      have hpos : 1 ≤ 2 ^ j := Nat.one_le_two_pow
      have hbb : ((2 ^ (7 * 2 ^ j) : Nat) : Int) * ((2 ^ (7 * 2 ^ j) : Nat) : Int) = ((2 ^ (7 * 2 ^ (j + 1)) : Nat) : Int) := by
        rw [← Int.natCast_mul, ← Nat.pow_add, Nat.pow_succ]
        congr 2
        omega
      have b1 : (1 : Int) ≤ ((2 ^ (7 * 2 ^ j) : Nat) : Int) := by
        have := Nat.one_le_two_pow (n := 7 * 2 ^ j)
        omega
      have hbl : ((2 ^ (7 * 2 ^ j) : Nat) : Int).natAbs < 2 ^ (7 * 2 ^ j + 1) := by
        rw [Int.natAbs_natCast]
        exact Nat.pow_lt_pow_right (by omega) (by omega)
      generalize hB : ((2 ^ (7 * 2 ^ j) : Nat) : Int) = B at *
      have hpv := pairUp_val B row
      have hpb := pairUp_bd b1 row hr
      have hpl := pairUp_len B row
      have hpe := pairUp_eq B row
      have cb : CMulW B B := wide_mul hbl hbl (by omega) (by omega) (by omega)
      walk_at "s"
      rw [if_pos (by simp; omega)]
      refine ⟨row.length / 2, by rw [List.length_map]; exact rgc_two (by omega) (by omega), ?_⟩
      refine lc_keep (onI fun c => some (.int (row.getD c.toNat 0 + B * row.getD (c.toNat + 1) 0))) (fun _ _ => trivial) (by simp only [stepD, List.length_map, List.length_range]; rw [szL]; omega) (fun y hy st2 u2 P N hP hN => ?_) fun p3 st3 hp3 u3 lp3 => ?_
      · obtain ⟨i, hi, rfl⟩ := List.mem_map.mp hy
        rw [List.mem_range] at hi
        have ei : (0 : Int) + (i : Int) * 2 = ((2 * i : Nat) : Int) := by omega
        rw [ei] at hP ⊢
        have h1 := hP _ st2 rfl .refl
        rw [Int.toNat_natCast] at h1
        have a1 := getD_map_int (l := row) (i := 2 * i) (by omega)
        have a2 : atI (row.map D.int) (((2 * i : Nat) : Int) + 1) = some (.int (row.getD (2 * i + 1) 0)) := getD_map_int (l := row) (i := 2 * i + 1) (by omega)
        have l2 := u2.l l
        have hm : row.getD (2 * i + 1) 0 ∈ row := by
          rw [List.getD_eq_getElem?_getD, List.getElem?_eq_getElem (show 2 * i + 1 < row.length by omega)]
          exact List.getElem_mem ..
        have cm : CMulW B (row.getD (2 * i + 1) 0) := wide_mul hbl (wide_le (hr _ hm).1 (Int.le_of_lt (hr _ hm).2) hbl) (by omega) (by omega) (by omega)
        clear hP hN ei l u hv hpv hpb hpl hpe hr hm
        walk_at "s"
      · have el : (stepD 0 2 (row.length / 2)).filterMap (onI fun c => some (.int (row.getD c.toNat 0 + B * row.getD (c.toNat + 1) 0))) = ((List.range (row.length / 2)).map (fun i => row.getD (2 * i) 0 + B * row.getD (2 * i + 1) 0)).map D.int := by
          unfold stepD
          rw [List.filterMap_map, List.map_map]
          have : (fun (i : Nat) => (onI fun c => some (D.int (row.getD c.toNat 0 + B * row.getD (c.toNat + 1) 0))) (D.int (0 + (i : Int) * 2))) = fun i => some ((D.int ∘ fun i => row.getD (2 * i) 0 + B * row.getD (2 * i + 1) 0) i) := by
            funext i
            have ei : (0 : Int) + (i : Int) * 2 = ((2 * i : Nat) : Int) := by omega
            simp only [onI, Function.comp_apply, ei, Int.toNat_natCast]
          exact (congrArg (fun f => List.filterMap f _) this).trans (fm_some _ _)
        rw [el] at lp3
        have l3 := u3.l l
        have fin : ∀ st4 g4, Keep st st4 → st4 p3 = some (.lst ((pairUp B row).map D.int)) → ∃ j', j' < row.length ∧ ∃ (r : Addr) (j : Nat) (row' : List Int) (g3 g4' : Option D), [some (.ref a), some (.ref p3), some (D.int (B * B)), some (.ref p3), g4] = [some (.ref a), some (.ref r), some (.int ((2 ^ (7 * 2 ^ j) : Nat) : Int)), g3, g4'] ∧ Keep st st4 ∧ st4 r = some (.lst (row'.map D.int)) ∧ (row'.length - 1) * 2 ^ j < 16384 ∧ 0 < row'.length ∧ (∀ x ∈ row', 0 ≤ x ∧ x < ((2 ^ (7 * 2 ^ j) : Nat) : Int)) ∧ valB ((2 ^ (7 * 2 ^ j) : Nat) : Int) row' = valB 128 ns ∧ j' = row'.length := fun st4 g4 u4 l4 => by
          refine ⟨(pairUp B row).length, by rw [hpl]; omega, p3, j + 1, pairUp B row, _, g4, by rw [hbb], u4, l4, ?_, by rw [hpl]; omega, by rw [← hbb]; exact hpb, by rw [← hbb, hpv, hv], rfl⟩
          rw [hpl, Nat.pow_succ, Nat.mul_comm (2 ^ j) 2, ← Nat.mul_assoc]
          refine Nat.lt_of_le_of_lt (Nat.mul_le_mul_right _ ?_) hj
          omega
        clear hv hpv hpb hr el
        by_cases ho : row.length % 2 = 1
        · have hlast : atI (row.map D.int) ((row.length : Int) - 1) = some (.int (row.getD (row.length - 1) 0)) := by
            have := getD_map_int (l := row) (i := row.length - 1) (by omega)
            rw [show ((row.length - 1 : Nat) : Int) = (row.length : Int) - 1 by omega] at this
            exact this
          have hl3 : (((List.range (row.length / 2)).map (fun i => row.getD (2 * i) 0 + B * row.getD (2 * i + 1) 0)).map D.int).length < sizeLine := by
            simp only [List.length_map, List.length_range]; rw [szL]; omega
          rw [if_pos ho] at hpe
          have ho2 : ((row.length : Int) % 2 = 1) = True := by simp; omega
          generalize (List.range (row.length / 2)).map (fun i => row.getD (2 * i) 0 + B * row.getD (2 * i + 1) 0) = ps at *
          simp only [List.length_map] at hl3
          have f := fin (put st3 p3 (.lst ((pairUp B row).map D.int)))
          clear fin hpl
          rw [hpe, List.map_append] at f
          clear hpe
          simp only [sSeq_a]
          walk_at "s"
          simp only [List.length_map]
          walk_at "s"
          exact ⟨by rw [List.length_map]; exact hl3, by rw [← hbb]; exact f g4 (u.trans (u3.mut hp3)) put_same⟩
        · rw [if_neg ho, List.append_nil] at hpe
          have ho2 : ((row.length : Int) % 2 = 1) = False := by simp; omega
          rw [← hpe] at lp3
          have f := fin st3
          clear fin hpl hpe
          simp only [sSeq_a]
          walk_at "s"
          simp only [List.length_map]
          walk_at "s"
          rw [← hbb]; exact f g4 (u.trans u3) lp3
  · rintro env st' ⟨r, b, g3, g4, rfl, u, l⟩
    walk_at "s"
    exact endsOf_i (q _ u)
end L2.DL

namespace L2.DL
open PySem PySem.Spec PyProof.Rows
local macro_rules | `(tactic| walk_at "s") => `(tactic| try simp only [sqAsg_a, sqDrop_a, sqPar_a, sqPar3_a, sqRet_a, sqNext_a, sqSeq_a, sNext_a, sBreak_a, sCont_a, sDrop_a, sRet_a, sRetN_a, sIf_a, sAsg_a, sPar_a, sPar3_a, mVar_a, vAt_a, mC_a, mBin_a, mTest_a, bAt_a, mAnd_a, mOr_a, mNot_a, mYes_a, mAndV_a, mOrV_a, mNotV_a, mIf_a, mNil_a, mCons_a, mTup_a, mLst_a, mCall_a, mCallK_a, mMeth_a, mSl_a, mNoPart_a, iAt_a, mPart_a, mIsi_b, tysO_some, List.any_cons, List.any_nil, Bool.or_false, Bool.false_or, Bool.or_true, Bool.true_or, Int.natCast_pos, gN_a, gTup_a, gCons_a, gNil_a, gSub_a, sFor_a, mLc_a, mDc_a, wSeq_a, sqO_tup, sqO_str, sqO_ref, wRng1_a, wRng2_b, wRng3_b, wEnum_a, enO_tup, enO_ref, mRev_a, revO_ref, List.getD_cons_zero, List.getD_cons_succ, ite_self, List.set_cons_zero, List.set_cons_succ, List.getElem?_cons_zero, List.getElem?_cons_succ, oAdd_int, oAdd_str, oAdd_tup, oAdd_ref, oSub_int, oMul_int, oDiv_int, oMod_int, oPow_int, oLt_int, oLe_int, oGt_int, oGe_int, oIs_nn, oIs_bn, oIs_in, oIs_sn, oIs_tn, oIs_rn, oIs_bb, oIs_nb, oIs_ib, oIs_sb, oIs_tb, oIs_rb, oIsi_int, oIsi_str, oIsi_bool, oIsi_tuple, oIsi_list, oIsi_dict, tyO_some, tyD_non, tyD_bl, tyD_int, tyD_str, tyD_tup, isi_facts, oEq_int, oNe_int, oEq_str, oNe_str, oSl_tup, oSl_str, oSl_ref, oLen_tup, oLen_str, oLen_ref, oAbs_int, oInt_int, oInt_bl, oMax_int, oMin_int, oTuple_tup, oTuple_ref, oList_tup, oList_str, oList_ref, oIx_tupE, oIx_ref, oAppend_ref, oPop_ref, oExtend_tupE, oSet_ref, isL_ref, isS_str, vO_some, ixO_lst, ixO_dicI, ixO_dicS, ixO_rodI, ixO_rodS, lsO_lst, rdO_lst, rdO_rol, lenO_lst, lenO_dic, lenO_rol, addO_lst, setO_lst, setO_dicI, setO_dicS, atI_zero, atI_one, atI_two, atI_end, startE, wipeE, List.map_cons, List.map_nil, List.length_cons, List.length_nil, List.replicate, List.cons_append, List.nil_append, Nat.reduceAdd, Nat.reduceSub, List.replicate_succ, List.replicate_zero, put_same, Nat.zero_le, Int.reduceLT, Int.reduceLE, Nat.reduceLT, Nat.reduceLeDiff, and_true, true_and, Bool.false_eq_true, ↓reduceIte, Bool.not_true, Bool.not_false, decide_true, decide_false, *])
local macro_rules | `(tactic| walk_at "i") => `(tactic| try simp only [sqIf_a, sqAsg_a, sqDrop_a, sqPar_a, sqPar3_a, sqRet_a, sqNext_a, sqSeq_a, sNext_a, sBreak_a, sCont_a, sDrop_a, sRet_a, sRetN_a, sIf_a, sAsg_a, sPar_a, sPar3_a, mVar_a, vAt_a, mC_a, mBin_a, mTest_a, bAt_a, mAnd_a, mOr_a, mNot_a, mYes_a, mAndV_a, mOrV_a, mNotV_a, mIf_a, mNil_a, mCons_a, mTup_a, mLst_a, mCall_a, mCallK_a, mMeth_a, mSl_a, mNoPart_a, iAt_a, mPart_a, mIsi_b, tysO_some, List.any_cons, List.any_nil, Bool.or_false, Bool.false_or, Bool.or_true, Bool.true_or, Int.natCast_pos, gN_a, gTup_a, gCons_a, gNil_a, gSub_a, sFor_a, mLc_a, mDc_a, wSeq_a, sqO_tup, sqO_str, sqO_ref, wRng1_a, wRng2_b, wRng3_b, wEnum_a, enO_tup, enO_ref, mRev_a, revO_ref, List.getD_cons_zero, List.getD_cons_succ, ite_self, List.set_cons_zero, List.set_cons_succ, List.getElem?_cons_zero, List.getElem?_cons_succ, oAdd_int, oAdd_str, oAdd_tup, oAdd_ref, oSub_int, oMul_int, oDiv_int, oMod_int, oPow_int, oLt_int, oLe_int, oGt_int, oGe_int, oIs_nn, oIs_bn, oIs_in, oIs_sn, oIs_tn, oIs_rn, oIs_bb, oIs_nb, oIs_ib, oIs_sb, oIs_tb, oIs_rb, oIsi_int, oIsi_str, oIsi_bool, oIsi_tuple, oIsi_list, oIsi_dict, tyO_some, tyD_non, tyD_bl, tyD_int, tyD_str, tyD_tup, isi_facts, oEq_int, oNe_int, oEq_str, oNe_str, oSl_tup, oSl_str, oSl_ref, oLen_tup, oLen_str, oLen_ref, oAbs_int, oInt_int, oInt_bl, oMax_int, oMin_int, oTuple_tup, oTuple_ref, oList_tup, oList_str, oList_ref, oIx_tupE, oIx_ref, oAppend_ref, oPop_ref, oExtend_tupE, oSet_ref, isL_ref, isS_str, vO_some, ixO_lst, ixO_dicI, ixO_dicS, ixO_rodI, ixO_rodS, lsO_lst, rdO_lst, rdO_rol, lenO_lst, lenO_dic, lenO_rol, addO_lst, setO_lst, setO_dicI, setO_dicS, atI_zero, atI_one, atI_two, atI_end, startE, wipeE, List.map_cons, List.map_nil, List.length_cons, List.length_nil, List.replicate, List.cons_append, List.nil_append, Nat.reduceAdd, Nat.reduceSub, List.replicate_succ, List.replicate_zero, put_same, Nat.zero_le, Int.reduceLT, Int.reduceLE, Nat.reduceLT, Nat.reduceLeDiff, and_true, true_and, Bool.false_eq_true, ↓reduceIte, Bool.not_true, Bool.not_false, decide_true, decide_false, *])

theorem oIAdd_int {i j : Int} {st : Sto} {Q : DK} : oIAdd (.int i) (.int j) st Q = Q (.int (i + j)) st := rfl
theorem oIsNot_tn {b : List D} {st : Sto} {Q : DK} : oIsNot (.tup b) .non st Q = Q (.bl true) st := rfl
theorem oIsNot_nn {st : Sto} {Q : DK} : oIsNot .non .non st Q = Q (.bl false) st := rfl
/-- octets that are walked -/
def OctOk (ns : List Int) : Prop := ns.length ≤ 16000 ∧ ∀ x ∈ ns, 0 ≤ x ∧ x < 256
theorem OctOk.drop {ns : List Int} (h : OctOk ns) (k : Nat) : OctOk (ns.drop k) := ⟨by rw [List.length_drop]; have := h.1; omega, fun x hx => h.2 x (List.mem_of_mem_drop hx)⟩
theorem OctOk.take {ns : List Int} (h : OctOk ns) (k : Nat) : OctOk (ns.take k) := ⟨by rw [List.length_take]; have := h.1; omega, fun x hx => h.2 x (List.mem_of_mem_take hx)⟩
theorem run_all {l : List Int} (h : ∀ y ∈ l, 128 ≤ y) : runAt l = l := by
  unfold runAt
  induction l with
  | nil => rfl
  | cons y l ih => rw [List.takeWhile_cons, if_pos (by simpa using h y (List.mem_cons_self ..)), ih fun z hz => h z (List.mem_cons_of_mem _ hz)]
theorem run_pre (l : List Int) : ∃ t, l = runAt l ++ t ∧ (∀ y ∈ runAt l, 128 ≤ y) ∧ ∀ x t', t = x :: t' → x < 128 := by
  induction l with
  | nil => exact ⟨[], rfl, (fun y hy => by cases hy), fun x t' e => by cases e⟩
  | cons y l ih =>
    unfold runAt at *
    by_cases h : 128 ≤ y
    · obtain ⟨t, e, h1, h2⟩ := ih
      rw [List.takeWhile_cons, if_pos (by simpa using h)]
      refine ⟨t, by rw [List.cons_append, ← e], fun z hz => ?_, h2⟩
      rcases List.mem_cons.mp hz with rfl | hz
      · exact h
      · exact h1 z hz
    · rw [List.takeWhile_cons, if_neg (by simpa using h)]
      exact ⟨y :: l, rfl, (fun z hz => by cases hz), fun x t' e => by cases e; omega⟩
/-- where the number's last octet stands -/
def endL (l : List Int) : Option Nat := if (runAt l).length < l.length then some ((runAt l).length + 1) else none
def behindD (ns : List Int) (i : Int) : D := if i < 0 then .non else match endL (ns.drop i.toNat) with
  | none => .non
  | some k => .int (i + k)
def S_behind_number : DSp := fun vs st Q => ∃ (ns : List Int) (i : Int), vs = [.tup (ns.map D.int), .int i] ∧ ns.length ≤ 1000000 ∧ i < 2 ^ 62 ∧ ∀ st', Keep st st' → Q (behindD ns i) st'
/-- behind_number(octets, at): 0 octets 1 at 2 place -/
def t_behind_number : MS := sSeq (sIf (mTest (mBin oLt (mVar 1) (mC (.int 0)))) (sRet (mC .non)) (sNext))
    (sSeq (sFor (wRng2 (mVar 1) (mCall oLen (mCons (mVar 0) (mNil)))) (gN 2) (sIf (mTest (mBin oLt (mBin oIx (mVar 0) (mVar 2)) (mC (.int (128))))) (sRet (mBin oAdd (mVar 2) (mC (.int 1)))) (sNext)))
    (sRet (mC .non)))

theorem rangeD_get {i : Int} {n k : Nat} {x : D} (h : (rangeD i n)[k]? = some x) : k < n ∧ x = .int (i + k) := by
  unfold rangeD at h
  rw [List.getElem?_map, Option.map_eq_some_iff] at h
  obtain ⟨j, hj, rfl⟩ := h
  obtain ⟨h1, h2⟩ := List.getElem?_eq_some_iff.mp hj
  simp at h1 h2
  subst h2
  exact ⟨h1, rfl⟩
theorem rangeD_len {i : Int} {n : Nat} : (rangeD i n).length = n := by simp [rangeD]
theorem kp_behind_number : Keeps 2 3 S_behind_number t_behind_number := by
  refine ⟨fun ds st Q ⟨ns, i, e, _⟩ => by rw [e]; rfl, fun ds st Q ⟨ns, i, e, hl, hi, q⟩ => ?_⟩
  subst e
  unfold t_behind_number
  by_cases h0 : i < 0
  · have q1 := q st .refl
    unfold behindD at q1
    rw [if_pos h0] at q1
    walk_at "i"
    exact endsOf_i q1
  · have h0' : (0 : Int) ≤ i := by omega
    unfold behindD at q
    rw [if_neg h0] at q
    have hn : (ns.length : Int) - i ≤ ((ns.drop i.toNat).length : Int) := by rw [List.length_drop]; omega
    have hm : ((ns.length : Int) - i).toNat = (ns.drop i.toNat).length := by rw [List.length_drop]; omega
    walk_at "i"
    rw [sSeq_a]
    walk_at "s"
    simp only [List.length_map]
    refine ⟨⟨by omega, by omega, by omega⟩, fun k env st' => ∃ g, env = [some (.tup (ns.map D.int)), some (.int i), g] ∧ Keep st st' ∧ ∀ y ∈ (ns.drop i.toNat).take k, 128 ≤ y, ⟨none, rfl, .refl, by simp⟩, fun _ _ _ _ _ => trivial, ?_, ?_⟩
    · rintro k x env st' hx ⟨g, rfl, u, hy⟩
      obtain ⟨hk, rfl⟩ := rangeD_get hx
      rw [hm] at hk
      have e1 := List.getElem?_eq_getElem hk
      generalize hy0 : (ns.drop i.toNat)[k] = y0 at e1
      have a1 : atI (ns.map D.int) (i + k) = some (.int y0) := by
        have : i + (k : Int) = ((i.toNat + k : Nat) : Int) := by omega
        rw [this, atI_ofNat, List.getElem?_map, ← List.getElem?_drop, e1]
        rfl
      by_cases h1 : y0 < 128
      · have hr : runAt (ns.drop i.toNat) = (ns.drop i.toNat).take k := by
          have hd : ns.drop i.toNat = (ns.drop i.toNat).take k ++ y0 :: (ns.drop i.toNat).drop (k + 1) := by
            rw [← hy0, ← List.drop_eq_getElem_cons, List.take_append_drop]
          have := run_app (t := (ns.drop i.toNat).drop (k + 1)) hy h1
          rw [← hd] at this
          exact this
        have q1 := q st' u
        unfold endL at q1
        have hl : ((ns.drop i.toNat).take k).length = k := by rw [List.length_take]; omega
        rw [hr, hl, if_pos hk] at q1
        clear hx hn hm q hr e1 hy0 hk hl hy
        walk_at "s"
        refine endsOf_i ?_
        rw [Int.add_assoc]
        exact q1
      · clear hx hn hm q hy0 hk
        walk_at "s"
        refine ⟨_, rfl, ?_⟩
        rw [take_snoc e1]
        intro y hy2
        rcases List.mem_append.mp hy2 with h | h
        · exact hy y h
        · rw [List.mem_singleton.mp h]; omega
    · rintro env st' ⟨g, rfl, u, hy⟩
      rw [rangeD_len, hm, List.take_length] at hy
      have hr := run_all hy
      have q1 := q st' u
      unfold endL at q1
      rw [hr, if_neg (by omega)] at q1
      walk_at "s"
      exact endsOf_i q1
end L2.DL

namespace L2.DL
open PySem PySem.Spec PyProof.Rows
local macro_rules | `(tactic| walk_at "s") => `(tactic| try simp only [sqAsg_a, sqDrop_a, sqPar_a, sqPar3_a, sqRet_a, sqNext_a, sqSeq_a, sNext_a, sBreak_a, sCont_a, sDrop_a, sRet_a, sRetN_a, sIf_a, sAsg_a, sPar_a, sPar3_a, mVar_a, vAt_a, mC_a, mBin_a, mTest_a, bAt_a, mAnd_a, mOr_a, mNot_a, mYes_a, mAndV_a, mOrV_a, mNotV_a, mIf_a, mNil_a, mCons_a, mTup_a, mLst_a, mCall_a, mCallK_a, mMeth_a, mSl_a, mNoPart_a, iAt_a, mPart_a, mIsi_b, tysO_some, List.any_cons, List.any_nil, Bool.or_false, Bool.false_or, Bool.or_true, Bool.true_or, Int.natCast_pos, gN_a, gTup_a, gCons_a, gNil_a, gSub_a, sFor_a, mLc_a, mDc_a, wSeq_a, sqO_tup, sqO_str, sqO_ref, wRng1_a, wRng2_b, wRng3_b, wEnum_a, enO_tup, enO_ref, mRev_a, revO_ref, List.getD_cons_zero, List.getD_cons_succ, ite_self, List.set_cons_zero, List.set_cons_succ, List.getElem?_cons_zero, List.getElem?_cons_succ, oAdd_int, oAdd_str, oAdd_tup, oAdd_ref, oSub_int, oMul_int, oDiv_int, oMod_int, oPow_int, oLt_int, oLe_int, oGt_int, oGe_int, oIs_nn, oIs_bn, oIs_in, oIs_sn, oIs_tn, oIs_rn, oIs_bb, oIs_nb, oIs_ib, oIs_sb, oIs_tb, oIs_rb, oIsi_int, oIsi_str, oIsi_bool, oIsi_tuple, oIsi_list, oIsi_dict, tyO_some, tyD_non, tyD_bl, tyD_int, tyD_str, tyD_tup, isi_facts, oEq_int, oNe_int, oEq_str, oNe_str, oSl_tup, oSl_str, oSl_ref, oLen_tup, oLen_str, oLen_ref, oAbs_int, oInt_int, oInt_bl, oMax_int, oMin_int, oTuple_tup, oTuple_ref, oList_tup, oList_str, oList_ref, oIx_tupE, oIx_ref, oAppend_ref, oPop_ref, oExtend_tupE, oSet_ref, isL_ref, isS_str, vO_some, ixO_lst, ixO_dicI, ixO_dicS, ixO_rodI, ixO_rodS, lsO_lst, rdO_lst, rdO_rol, lenO_lst, lenO_dic, lenO_rol, addO_lst, setO_lst, setO_dicI, setO_dicS, atI_zero, atI_one, atI_two, atI_end, startE, wipeE, List.map_cons, List.map_nil, List.length_cons, List.length_nil, List.replicate, List.cons_append, List.nil_append, Nat.reduceAdd, Nat.reduceSub, List.replicate_succ, List.replicate_zero, put_same, Nat.zero_le, Int.reduceLT, Int.reduceLE, Nat.reduceLT, Nat.reduceLeDiff, and_true, true_and, Bool.false_eq_true, ↓reduceIte, Bool.not_true, Bool.not_false, decide_true, decide_false, *])
local macro_rules | `(tactic| walk_at "i") => `(tactic| try simp only [sqIf_a, sqAsg_a, sqDrop_a, sqPar_a, sqPar3_a, sqRet_a, sqNext_a, sqSeq_a, sNext_a, sBreak_a, sCont_a, sDrop_a, sRet_a, sRetN_a, sIf_a, sAsg_a, sPar_a, sPar3_a, mVar_a, vAt_a, mC_a, mBin_a, mTest_a, bAt_a, mAnd_a, mOr_a, mNot_a, mYes_a, mAndV_a, mOrV_a, mNotV_a, mIf_a, mNil_a, mCons_a, mTup_a, mLst_a, mCall_a, mCallK_a, mMeth_a, mSl_a, mNoPart_a, iAt_a, mPart_a, mIsi_b, tysO_some, List.any_cons, List.any_nil, Bool.or_false, Bool.false_or, Bool.or_true, Bool.true_or, Int.natCast_pos, gN_a, gTup_a, gCons_a, gNil_a, gSub_a, sFor_a, mLc_a, mDc_a, wSeq_a, sqO_tup, sqO_str, sqO_ref, wRng1_a, wRng2_b, wRng3_b, wEnum_a, enO_tup, enO_ref, mRev_a, revO_ref, List.getD_cons_zero, List.getD_cons_succ, ite_self, List.set_cons_zero, List.set_cons_succ, List.getElem?_cons_zero, List.getElem?_cons_succ, oAdd_int, oAdd_str, oAdd_tup, oAdd_ref, oSub_int, oMul_int, oDiv_int, oMod_int, oPow_int, oLt_int, oLe_int, oGt_int, oGe_int, oIs_nn, oIs_bn, oIs_in, oIs_sn, oIs_tn, oIs_rn, oIs_bb, oIs_nb, oIs_ib, oIs_sb, oIs_tb, oIs_rb, oIsi_int, oIsi_str, oIsi_bool, oIsi_tuple, oIsi_list, oIsi_dict, tyO_some, tyD_non, tyD_bl, tyD_int, tyD_str, tyD_tup, isi_facts, oEq_int, oNe_int, oEq_str, oNe_str, oSl_tup, oSl_str, oSl_ref, oLen_tup, oLen_str, oLen_ref, oAbs_int, oInt_int, oInt_bl, oMax_int, oMin_int, oTuple_tup, oTuple_ref, oList_tup, oList_str, oList_ref, oIx_tupE, oIx_ref, oAppend_ref, oPop_ref, oExtend_tupE, oSet_ref, isL_ref, isS_str, vO_some, ixO_lst, ixO_dicI, ixO_dicS, ixO_rodI, ixO_rodS, lsO_lst, rdO_lst, rdO_rol, lenO_lst, lenO_dic, lenO_rol, addO_lst, setO_lst, setO_dicI, setO_dicS, atI_zero, atI_one, atI_two, atI_end, startE, wipeE, List.map_cons, List.map_nil, List.length_cons, List.length_nil, List.replicate, List.cons_append, List.nil_append, Nat.reduceAdd, Nat.reduceSub, List.replicate_succ, List.replicate_zero, put_same, Nat.zero_le, Int.reduceLT, Int.reduceLE, Nat.reduceLT, Nat.reduceLeDiff, and_true, true_and, Bool.false_eq_true, ↓reduceIte, Bool.not_true, Bool.not_false, decide_true, decide_false, *])

def numD : Option (Int × Int) → D
  | none => .non
  | some p => .tup [.int p.1, .int p.2]
theorem cutL_mid {α : Type} (xs : List α) (a b : Nat) : cutL xs (some (a : Int)) (some (b : Int)) = (xs.drop a).take (b - a) := by
  unfold cutL
  rw [HT.sIx_nat, HT.sIx_nat]
  by_cases h : a ≤ xs.length
  · rw [Nat.min_eq_left h, List.take_eq_take_min (i := b - a), List.length_drop]
    congr 1
    omega
  · rw [List.drop_of_length_le (by omega), List.drop_of_length_le (by omega)]
    simp
theorem num_cases (ns : List Int) (i : Int) : (behindD ns i = .non ∧ numAt ns i = none) ∨ (0 ≤ i ∧ ∃ r x t, ns.drop i.toNat = r ++ x :: t ∧ behindD ns i = .int (i + ((r.length + 1 : Nat) : Int)) ∧ (∀ y ∈ r, 128 ≤ y) ∧ x < 128 ∧ numAt ns i = if 0 < r.length ∧ x = 0 then none else some (valB 128 (r.map (fun y => y - 128) ++ [x]), i + ((r.length + 1 : Nat) : Int))) := by
  by_cases h0 : i < 0
  · exact .inl ⟨by unfold behindD; rw [if_pos h0], by unfold numAt; rw [if_pos h0]⟩
  · obtain ⟨t, e, h1, h2⟩ := run_pre (ns.drop i.toNat)
    cases t with
    | nil =>
      rw [List.append_nil] at e
      refine .inl ⟨?_, ?_⟩
      · unfold behindD endL
        rw [if_neg h0, ← e, if_neg (by omega)]
      · unfold numAt numL
        rw [if_neg h0, ← e, List.drop_length]
        rfl
    | cons x t =>
      have hx := h2 x t rfl
      generalize hr : runAt (ns.drop i.toNat) = r at *
      refine .inr ⟨by omega, r, x, t, e, ?_, h1, hx, ?_⟩
      · unfold behindD endL
        rw [if_neg h0, hr, if_pos (by rw [e]; simp)]
      · unfold numAt numL
        rw [if_neg h0, hr, e, List.drop_left]
        show Option.map _ (if 0 < r.length ∧ x = 0 then none else _) = _
        split <;> rfl
theorem num_facts {ns : List Int} {i v e : Int} (ho : OctOk ns) (h : numAt ns i = some (v, e)) : 0 ≤ i ∧ i < e ∧ e ≤ ns.length ∧ 0 ≤ v := by
  rcases num_cases ns i with ⟨_, h2⟩ | ⟨h0, r, x, t, ed, _, h1, hx, h2⟩
  · rw [h2] at h; cases h
  · rw [h2] at h
    by_cases c : 0 < r.length ∧ x = 0
    · rw [if_pos c] at h; cases h
    · rw [if_neg c] at h
      cases h
      have hl := congrArg List.length ed
      rw [List.length_drop, List.length_append, List.length_cons] at hl
      refine ⟨h0, by omega, by omega, ?_⟩
      have go : ∀ l : List Int, (∀ y ∈ l, 0 ≤ y) → 0 ≤ valB 128 l := by
        intro l
        induction l with
        | nil => intro _; exact Int.le_refl _
        | cons y l ih =>
          intro hl
          have a := ih fun z hz => hl z (List.mem_cons_of_mem _ hz)
          have b := hl y (List.mem_cons_self ..)
          rw [valB]; omega
      refine go _ fun y hy => ?_
      rcases List.mem_append.mp hy with hy | hy
      · obtain ⟨z, hz, rfl⟩ := List.mem_map.mp hy
        have := h1 z hz
        omega
      · rw [List.mem_singleton.mp hy]
        have : x ∈ ns.drop i.toNat := by rw [ed]; simp
        exact (ho.2 x (List.mem_of_mem_drop this)).1
def S_number_in : DSp := fun vs st Q => ∃ (ns : List Int) (i : Int), vs = [.tup (ns.map D.int), .int i] ∧ OctOk ns ∧ i < 2 ^ 62 ∧ ∀ st', Keep st st' → Q (numD (numAt ns i)) st'
/-- number_in(octets, at): 0 octets 1 at 2 end 3 figures 4 octet -/
def t_number_in : MS := sSeq (sAsg (mCall S_behind_number (mCons (mVar 0) (mCons (mVar 1) (mNil)))) (gN 2))
    (sSeq (sIf (mOr (mTest (mBin oIs (mVar 2) (mC .non))) (mAnd (mTest (mBin oGt (mBin oSub (mVar 2) (mVar 1)) (mC (.int 1)))) (mTest (mBin oEq (mBin oIx (mVar 0) (mBin oSub (mVar 2) (mC (.int 1)))) (mC (.int 0)))))) (sRet (mC .non)) (sNext))
    (sSeq (sAsg (mBin oAdd (mLc (wSeq (mSl (mVar 0) (mPart (mVar 1)) (mPart (mBin oSub (mVar 2) (mC (.int 1)))))) (gN 4) (mYes) (mBin oSub (mVar 4) (mC (.int (128)))) [4]) (mLst (mCons (mBin oIx (mVar 0) (mBin oSub (mVar 2) (mC (.int 1)))) (mNil)))) (gN 3))
    (sRet (mTup (mCons (mCall S_number_of (mCons (mVar 3) (mNil))) (mCons (mVar 2) (mNil)))))))
theorem kp_number_in : Keeps 2 5 S_number_in t_number_in := by
  refine ⟨fun ds st Q ⟨ns, i, e, _⟩ => by rw [e]; rfl, fun ds st Q ⟨ns, i, e, ho, hi, q⟩ => ?_⟩
  subst e
  have hz := szL
  have ho1 := ho.1
  unfold t_number_in
  rcases num_cases ns i with ⟨hb, hn⟩ | ⟨h0, r, x, t, ed, hb, h1, hx, hn⟩
  · rw [hn] at q
    clear hz
    walk_at "s"
    refine ⟨ns, i, rfl, by omega, hi, fun st1 u => ?_⟩
    rw [hb]
    have q1 := q st1 u
    clear q hb hn
    walk_at "i"
    exact endsOf_i q1
  · rw [hn] at q
    have hl := congrArg List.length ed
    rw [List.length_drop, List.length_append, List.length_cons] at hl
    have a1 : atI (ns.map D.int) (i + ((r.length + 1 : Nat) : Int) - 1) = some (.int x) := by
      rw [show i + ((r.length + 1 : Nat) : Int) - 1 = ((i.toNat + r.length : Nat) : Int) by omega, atI_ofNat, List.getElem?_map, ← List.getElem?_drop, ed]
      simp
    have c1 : cutL (ns.map D.int) (some i) (some (i + ((r.length + 1 : Nat) : Int) - 1)) = r.map D.int := by
      rw [show i + ((r.length + 1 : Nat) : Int) - 1 = ((i.toNat + r.length : Nat) : Int) by omega, show i = ((i.toNat : Nat) : Int) by omega, cutL_mid, ← List.map_drop, ← List.map_take]
      rw [show (((i.toNat : Nat) : Int)).toNat = i.toNat by omega, ed, show i.toNat + r.length - i.toNat = r.length by omega, List.take_left]
    have hmem : ∀ y ∈ r ++ x :: t, 0 ≤ y ∧ y < 256 := fun y hy => ho.2 y (List.mem_of_mem_drop (i := i.toNat) (by rw [ed]; exact hy))
    have hx0 := hmem x (by simp)
    refine sSeq_t fun T hT => ?_
    clear hz
    walk_at "s"
    refine ⟨ns, i, rfl, by omega, hi, fun st1 u => ?_⟩
    rw [hb]
    subst hT
    have e2 : i + ((r.length + 1 : Nat) : Int) - i = ((r.length + 1 : Nat) : Int) := by omega
    by_cases c : 0 < r.length ∧ x = 0
    · rw [if_pos c] at q
      have q1 := q st1 u
      obtain ⟨c1', rfl⟩ := c
      have c3 : (1 : Int) < ((r.length + 1 : Nat) : Int) := by omega
      clear q hb hn ed hmem hx0 hx h1
      walk_at "i"
      exact endsOf_i q1
    · rw [if_neg c] at q
      have z2 : 2 ≤ sizeLine := by decide
      refine sSeq_t fun T hT => ?_
      suffices h : T (endsOf Q) [some (.tup (ns.map D.int)), some (.int i), some (.int (i + ((r.length + 1 : Nat) : Int))), none, none] st1 by
        clear hb hn ed hmem h1 hT
        by_cases hr : 0 < r.length
        · have c3 : (1 : Int) < ((r.length + 1 : Nat) : Int) := by omega
          have c4 : ¬ x = 0 := fun hx => c ⟨hr, hx⟩
          clear c
          walk_at "i"
        · have c3 : ¬ (1 : Int) < ((r.length + 1 : Nat) : Int) := by omega
          clear c a1
          walk_at "i"
      subst hT
      clear hb hn ed c e2
      have hfl : ∀ y ∈ r.map (fun y => y - 128) ++ [x], 0 ≤ y ∧ y < 128 := fun y hy => by
        rcases List.mem_append.mp hy with hy | hy
        · obtain ⟨z, hz, rfl⟩ := List.mem_map.mp hy
          have a := h1 z hz
          have b := hmem z (List.mem_append.mpr (.inl hz))
          omega
        · rw [List.mem_singleton.mp hy]; exact ⟨hx0.1, hx⟩
      clear hx
      walk_at "s"
      refine lc_keep (onI fun c => some (.int (c - 128))) (fun _ _ => trivial) (by rw [List.length_map, szL]; omega) (fun y hy st3 u3 P N hP hN => ?_) fun p3 st3 hp3 u3 lp3 => ?_
      · obtain ⟨d, hd, rfl⟩ := List.mem_map.mp hy
        have h1 := hP _ st3 rfl .refl
        clear hP hN a1 c1
        walk_at "s"
      · rw [onI_map, fm_some] at lp3
        have u4 := u.trans u3
        clear u3 hp3
        have z1 : 1 ≤ sizeLine := by decide
        walk_at "s"
        intro p4 hp4
        have l4 := (Keep.put (o := .lst [.int x]) hp4).l lp3
        have l5 : put st3 p4 (.lst [.int x]) p4 = some (.lst [.int x]) := put_same
        have u5 := u4.new (o := .lst [.int x]) hp4
        generalize put st3 p4 (.lst [.int x]) = st4 at *
        clear u4 hp4 lp3
        have hlr : (List.map (fun x => D.int (x - 128)) r).length + (0 + 1) ≤ sizeLine := by rw [List.length_map, szL]; omega
        walk_at "s"
        intro p5 hp5
        refine ⟨p5, r.map (fun y => y - 128) ++ [x], rfl, by rw [put_same, List.map_append, List.map_map]; rfl, by simp, by rw [List.length_append, List.length_map, List.length_singleton]; omega, hfl, fun st6 u6 => ?_⟩
        exact endsOf_i (q st6 ((u5.new hp5).trans u6))

/-! ### sums -/
def sumR : Int → List Int → Int
  | _, [] => 0
  | k, x :: t => (k + 1) * x + sumR (k + 1) t
def sumO (ns : List Int) : Int := sumR 0 ns % 65521
def pairS (ns : List Int) : List Int := [sumO ns % 256, sumO ns / 256]
def frameL (b : List Int) : List Int := enc b.length ++ b ++ pairS b
def S_number_octets : DSp := fun vs st Q => ∃ n : Nat, vs = [.int n] ∧ (enc n).length ≤ 1000000 ∧ ∀ st', Keep st st' → Q (.tup ((enc n).map D.int)) st'
/-- number_octets(number): 0 number -/
def t_number_octets : MS := sRet (mCall S_octets_of_number (mCons (mVar 0) (mNil)))
theorem kp_number_octets : Keeps 1 1 S_number_octets t_number_octets := by
  refine ⟨fun ds st Q ⟨n, e, _⟩ => by rw [e]; rfl, fun ds st Q ⟨n, e, hl, q⟩ => ?_⟩
  subst e
  unfold t_number_octets
  walk_at "s"
  exact ⟨n, rfl, hl, fun st' u => endsOf_i (q st' u)⟩
def S_sum_of_octets : DSp := fun vs st Q => ∃ ns : List Int, vs = [.tup (ns.map D.int)] ∧ OctOk ns ∧ ∀ st', Keep st st' → Q (.int (sumO ns)) st'
/-- sum_of_octets(octets): 0 octets 1 found 2 at 3 octet -/
def t_sum_of_octets : MS := sSeq (sAsg (mC (.int 0)) (gN 1))
    (sSeq (sFor (wEnum (mVar 0)) (gTup 2 (gCons (gN 2) (gCons (gN 3) (gNil)))) (sAug 1 (mBin oMul (mBin oAdd (mVar 2) (mC (.int 1))) (mVar 3)) oIAdd))
    (sRet (mBin oMod (mVar 1) (mC (.int (65521))))))
theorem kp_sum_of_octets : Keeps 1 4 S_sum_of_octets t_sum_of_octets := by
  refine ⟨fun ds st Q ⟨n, e, _⟩ => by rw [e]; rfl, fun ds st Q ⟨ns, e, ho, q⟩ => ?_⟩
  subst e
  have h0 := ho.1
  unfold t_sum_of_octets
  walk_at "s"
  rw [sSeq_a]
  walk_at "s"
  refine ⟨fun k env st' => ∃ f g2 g3, env = [some (.tup (ns.map D.int)), some (.int f), g2, g3] ∧ Keep st st' ∧ f + sumR k (ns.drop k) = sumR 0 ns, ⟨0, none, none, rfl, .refl, by simp⟩, fun _ _ _ _ _ => trivial, ?_, ?_⟩
  · rintro k x env st' hx ⟨f, g2, g3, rfl, u, hf⟩
    clear q
    obtain ⟨hk, _⟩ := List.getElem?_eq_some_iff.mp hx
    rw [enumD_len, List.length_map] at hk
    have e1 := List.getElem?_eq_getElem hk
    have hm := ho.2 _ (List.getElem_mem hk)
    rw [List.drop_eq_getElem_cons hk, sumR] at hf
    generalize ns[k] = y at *
    have e2 : (ns.map D.int)[k]? = some (.int y) := by rw [List.getElem?_map, e1]; rfl
    rw [enumD_get e2] at hx
    cases hx
    have cm : CMulW ((k : Int) + 1) y := wide_mul (a := 20) (b := 20) (by omega) (by omega) (by omega) (by omega) (by omega)
    clear e1 e2
    walk_at "s"
    rw [sAug_a rfl]
    walk_at "s"
    rw [oIAdd_int]
    refine ⟨_, _, _, rfl, u, ?_⟩
    rw [show ((k + 1 : Nat) : Int) = (k : Int) + 1 by omega]
    omega
  · rintro env st' ⟨f, g2, g3, rfl, u, hf⟩
    rw [enumD_len, List.length_map, List.drop_length, sumR] at hf
    have q1 := q st' u
    unfold sumO at q1
    rw [← hf, Int.add_zero] at q1
    clear hf q
    walk_at "s"
    exact endsOf_i q1
theorem sumO_bd (ns : List Int) : 0 ≤ sumO ns ∧ sumO ns < 65521 := by unfold sumO; omega
def S_sum_pair : DSp := fun vs st Q => ∃ ns : List Int, vs = [.tup (ns.map D.int)] ∧ OctOk ns ∧ ∀ st', Keep st st' → Q (.tup ((pairS ns).map D.int)) st'
/-- sum_pair(body): 0 body 1 found -/
def t_sum_pair : MS := sSeq (sAsg (mCall S_sum_of_octets (mCons (mVar 0) (mNil))) (gN 1))
    (sRet (mTup (mCons (mBin oMod (mVar 1) (mC (.int (256)))) (mCons (mBin oDiv (mVar 1) (mC (.int (256)))) (mNil)))))
theorem kp_sum_pair : Keeps 1 2 S_sum_pair t_sum_pair := by
  refine ⟨fun ds st Q ⟨n, e, _⟩ => by rw [e]; rfl, fun ds st Q ⟨ns, e, ho, q⟩ => ?_⟩
  subst e
  have z2 : 2 ≤ sizeLine := by decide
  have cd : CDivW (sumO ns) 256 := wide_div (b := 9) (by omega) (by omega) (by omega) (by omega)
  unfold t_sum_pair
  walk_at "s"
  refine ⟨ns, rfl, ho, fun st1 u => ?_⟩
  have q1 := q st1 u
  clear q
  walk_at "s"
  exact endsOf_i q1
def S_frame : DSp := fun vs st Q => ∃ ns : List Int, vs = [.tup (ns.map D.int)] ∧ OctOk ns ∧ ∀ st', Keep st st' → Q (.tup ((frameL ns).map D.int)) st'
/-- frame(body): 0 body -/
def t_frame : MS := sRet (mBin oAdd (mBin oAdd (mCall S_number_octets (mCons (mCall oLen (mCons (mVar 0) (mNil))) (mNil))) (mCall oTuple (mCons (mVar 0) (mNil)))) (mCall S_sum_pair (mCons (mVar 0) (mNil))))
theorem enc_short {n : Nat} (h : n ≤ 16000) : (enc n).length ≤ 2 := enc_len_le 1 n (by omega)
theorem kp_frame : Keeps 1 1 S_frame t_frame := by
  refine ⟨fun ds st Q ⟨n, e, _⟩ => by rw [e]; rfl, fun ds st Q ⟨ns, e, ho, q⟩ => ?_⟩
  subst e
  have h0 := ho.1
  have h1 := enc_short h0
  unfold t_frame
  walk_at "s"
  refine ⟨ns.length, by rw [List.length_map], by omega, fun st1 u => ?_⟩
  walk_at "s"
  refine ⟨by simp only [List.length_map]; rw [szL]; omega, ns, rfl, ho, fun st2 u2 => ?_⟩
  have q1 := q st2 (u.trans u2)
  walk_at "s"
  refine ⟨by simp only [List.length_append, List.length_map, pairS, List.length_cons, List.length_nil]; rw [szL]; omega, ?_⟩
  unfold frameL at q1
  rw [List.map_append, List.map_append] at q1
  exact endsOf_i q1
end L2.DL

namespace L2.DL
open PySem PySem.Spec PyProof.Rows
local macro_rules | `(tactic| walk_at "s") => `(tactic| try simp only [sqAsg_a, sqDrop_a, sqPar_a, sqPar3_a, sqRet_a, sqNext_a, sqSeq_a, sNext_a, sBreak_a, sCont_a, sDrop_a, sRet_a, sRetN_a, sIf_a, sAsg_a, sPar_a, sPar3_a, mVar_a, vAt_a, mC_a, mBin_a, mTest_a, bAt_a, mAnd_a, mOr_a, mNot_a, mYes_a, mAndV_a, mOrV_a, mNotV_a, mIf_a, mNil_a, mCons_a, mTup_a, mLst_a, mCall_a, mCallK_a, mMeth_a, mSl_a, mNoPart_a, iAt_a, mPart_a, mIsi_b, tysO_some, List.any_cons, List.any_nil, Bool.or_false, Bool.false_or, Bool.or_true, Bool.true_or, Int.natCast_pos, gN_a, gTup_a, gCons_a, gNil_a, gSub_a, sFor_a, mLc_a, mDc_a, wSeq_a, sqO_tup, sqO_str, sqO_ref, wRng1_a, wRng2_b, wRng3_b, wEnum_a, enO_tup, enO_ref, mRev_a, revO_ref, List.getD_cons_zero, List.getD_cons_succ, ite_self, List.set_cons_zero, List.set_cons_succ, List.getElem?_cons_zero, List.getElem?_cons_succ, oAdd_int, oAdd_str, oAdd_tup, oAdd_ref, oSub_int, oMul_int, oDiv_int, oMod_int, oPow_int, oLt_int, oLe_int, oGt_int, oGe_int, oIs_nn, oIs_bn, oIs_in, oIs_sn, oIs_tn, oIs_rn, oIs_bb, oIs_nb, oIs_ib, oIs_sb, oIs_tb, oIs_rb, oIsi_int, oIsi_str, oIsi_bool, oIsi_tuple, oIsi_list, oIsi_dict, tyO_some, tyD_non, tyD_bl, tyD_int, tyD_str, tyD_tup, isi_facts, oEq_int, oNe_int, oEq_str, oNe_str, oSl_tup, oSl_str, oSl_ref, oLen_tup, oLen_str, oLen_ref, oAbs_int, oInt_int, oInt_bl, oMax_int, oMin_int, oTuple_tup, oTuple_ref, oList_tup, oList_str, oList_ref, oIx_tupE, oIx_ref, oAppend_ref, oPop_ref, oExtend_tupE, oSet_ref, isL_ref, isS_str, vO_some, ixO_lst, ixO_dicI, ixO_dicS, ixO_rodI, ixO_rodS, lsO_lst, rdO_lst, rdO_rol, lenO_lst, lenO_dic, lenO_rol, addO_lst, setO_lst, setO_dicI, setO_dicS, atI_zero, atI_one, atI_two, atI_end, startE, wipeE, List.map_cons, List.map_nil, List.length_cons, List.length_nil, List.replicate, List.cons_append, List.nil_append, Nat.reduceAdd, Nat.reduceSub, List.replicate_succ, List.replicate_zero, put_same, Nat.zero_le, Int.reduceLT, Int.reduceLE, Nat.reduceLT, Nat.reduceLeDiff, and_true, true_and, Bool.false_eq_true, ↓reduceIte, Bool.not_true, Bool.not_false, decide_true, decide_false, *])
local macro_rules | `(tactic| walk_at "i") => `(tactic| try simp only [sqIf_a, sqAsg_a, sqDrop_a, sqPar_a, sqPar3_a, sqRet_a, sqNext_a, sqSeq_a, sNext_a, sBreak_a, sCont_a, sDrop_a, sRet_a, sRetN_a, sIf_a, sAsg_a, sPar_a, sPar3_a, mVar_a, vAt_a, mC_a, mBin_a, mTest_a, bAt_a, mAnd_a, mOr_a, mNot_a, mYes_a, mAndV_a, mOrV_a, mNotV_a, mIf_a, mNil_a, mCons_a, mTup_a, mLst_a, mCall_a, mCallK_a, mMeth_a, mSl_a, mNoPart_a, iAt_a, mPart_a, mIsi_b, tysO_some, List.any_cons, List.any_nil, Bool.or_false, Bool.false_or, Bool.or_true, Bool.true_or, Int.natCast_pos, gN_a, gTup_a, gCons_a, gNil_a, gSub_a, sFor_a, mLc_a, mDc_a, wSeq_a, sqO_tup, sqO_str, sqO_ref, wRng1_a, wRng2_b, wRng3_b, wEnum_a, enO_tup, enO_ref, mRev_a, revO_ref, List.getD_cons_zero, List.getD_cons_succ, ite_self, List.set_cons_zero, List.set_cons_succ, List.getElem?_cons_zero, List.getElem?_cons_succ, oAdd_int, oAdd_str, oAdd_tup, oAdd_ref, oSub_int, oMul_int, oDiv_int, oMod_int, oPow_int, oLt_int, oLe_int, oGt_int, oGe_int, oIs_nn, oIs_bn, oIs_in, oIs_sn, oIs_tn, oIs_rn, oIs_bb, oIs_nb, oIs_ib, oIs_sb, oIs_tb, oIs_rb, oIsi_int, oIsi_str, oIsi_bool, oIsi_tuple, oIsi_list, oIsi_dict, tyO_some, tyD_non, tyD_bl, tyD_int, tyD_str, tyD_tup, isi_facts, oEq_int, oNe_int, oEq_str, oNe_str, oSl_tup, oSl_str, oSl_ref, oLen_tup, oLen_str, oLen_ref, oAbs_int, oInt_int, oInt_bl, oMax_int, oMin_int, oTuple_tup, oTuple_ref, oList_tup, oList_str, oList_ref, oIx_tupE, oIx_ref, oAppend_ref, oPop_ref, oExtend_tupE, oSet_ref, isL_ref, isS_str, vO_some, ixO_lst, ixO_dicI, ixO_dicS, ixO_rodI, ixO_rodS, lsO_lst, rdO_lst, rdO_rol, lenO_lst, lenO_dic, lenO_rol, addO_lst, setO_lst, setO_dicI, setO_dicS, atI_zero, atI_one, atI_two, atI_end, startE, wipeE, List.map_cons, List.map_nil, List.length_cons, List.length_nil, List.replicate, List.cons_append, List.nil_append, Nat.reduceAdd, Nat.reduceSub, List.replicate_succ, List.replicate_zero, put_same, Nat.zero_le, Int.reduceLT, Int.reduceLE, Nat.reduceLT, Nat.reduceLeDiff, and_true, true_and, Bool.false_eq_true, ↓reduceIte, Bool.not_true, Bool.not_false, decide_true, decide_false, *])
/-! ### frames -/
def frameAt (ns : List Int) (i : Int) : Option (List Int × Int) := match numAt ns i with
  | none => none
  | some (v, e) => if v + 2 > ns.length - e then none else if cutL ns (some (v + e)) (some (v + e + 2)) = pairS (cutL ns (some e) (some (v + e))) then some (cutL ns (some e) (some (v + e)), v + e + 2) else none
def frD : Option (List Int × Int) → D
  | none => .non
  | some p => .tup [.tup (p.1.map D.int), .int p.2]
theorem OctOk.cut {ns : List Int} (h : OctOk ns) (lo hi : Option Int) : OctOk (cutL ns lo hi) := (h.drop _).take _
theorem frame_facts {ns : List Int} {i e : Int} {b : List Int} (ho : OctOk ns) (h : frameAt ns i = some (b, e)) : 0 ≤ i ∧ i + 3 ≤ e ∧ e ≤ ns.length ∧ OctOk b := by
  unfold frameAt at h
  cases hn : numAt ns i with
  | none => rw [hn] at h; cases h
  | some p =>
    obtain ⟨v, f⟩ := p
    rw [hn] at h
    obtain ⟨h1, h2, h3, h4⟩ := num_facts ho hn
    simp only at h
    split at h
    · cases h
    · split at h
      · cases h
        exact ⟨h1, by omega, by omega, ho.cut _ _⟩
      · cases h
theorem okC_ints (l : List Int) : okC (.tup (l.map D.int)) = true := by
  show okC.okCs _ = true
  induction l with
  | nil => rfl
  | cons x l ih => simp only [List.map_cons, okC.okCs, ih, okC, Bool.and_self]
theorem depC_ints (l : List Int) : depC (.tup (l.map D.int)) ≤ 2 := by
  have : depC.depCs (l.map D.int) ≤ 1 := by
    induction l with
    | nil => decide
    | cons x l ih => simp only [List.map_cons, depC.depCs, depC]; omega
  simp only [depC]; omega
theorem intD_inj {a b : List Int} : (D.tup (a.map D.int) = D.tup (b.map D.int)) ↔ a = b := ⟨fun h => map_inj (fun _ _ h => D.int.inj h) (D.tup.inj h), fun h => by rw [h]⟩
def S_frame_at : DSp := fun vs st Q => ∃ (ns : List Int) (i : Int), vs = [.tup (ns.map D.int), .int i] ∧ OctOk ns ∧ i < 2 ^ 62 ∧ ∀ st', Keep st st' → Q (frD (frameAt ns i)) st'
/-- frame_at(octets, at): 0 octets 1 at 2 told 3 end 4 body -/
def t_frame_at : MS := sSeq (sAsg (mCall S_number_in (mCons (mVar 0) (mCons (mVar 1) (mNil)))) (gN 2))
    (sSeq (sIf (mOr (mTest (mBin oIs (mVar 2) (mC .non))) (mTest (mBin oGt (mBin oAdd (mBin oIx (mVar 2) (mC (.int 0))) (mC (.int (2)))) (mBin oSub (mCall oLen (mCons (mVar 0) (mNil))) (mBin oIx (mVar 2) (mC (.int 1))))))) (sRet (mC .non)) (sNext))
    (sSeq (sAsg (mBin oAdd (mBin oIx (mVar 2) (mC (.int 0))) (mBin oIx (mVar 2) (mC (.int 1)))) (gN 3))
    (sSeq (sAsg (mSl (mVar 0) (mPart (mBin oIx (mVar 2) (mC (.int 1)))) (mPart (mVar 3))) (gN 4))
    (sSeq (sIf (mTest (mBin oNe (mSl (mVar 0) (mPart (mVar 3)) (mPart (mBin oAdd (mVar 3) (mC (.int (2)))))) (mCall S_sum_pair (mCons (mVar 4) (mNil))))) (sRet (mC .non)) (sNext))
    (sRet (mTup (mCons (mVar 4) (mCons (mBin oAdd (mVar 3) (mC (.int (2)))) (mNil)))))))))
theorem kp_frame_at : Keeps 2 5 S_frame_at t_frame_at := by
  refine ⟨fun ds st Q ⟨ns, i, e, _⟩ => by rw [e]; rfl, fun ds st Q ⟨ns, i, e, ho, hi, q⟩ => ?_⟩
  subst e
  have z2 : 2 ≤ sizeLine := by decide
  unfold t_frame_at
  refine sSeq_t fun T hT => ?_
  walk_at "s"
  refine ⟨ns, i, rfl, ho, hi, fun st1 u => ?_⟩
  subst hT
  unfold frameAt at q
  cases hn : numAt ns i with
  | none =>
    rw [hn] at q
    have q1 := q st1 u
    clear q hn
    unfold numD
    walk_at "i"
    exact endsOf_i q1
  | some p =>
    obtain ⟨v, e⟩ := p
    rw [hn] at q
    obtain ⟨h1, h2, h3, h4⟩ := num_facts ho hn
    clear hn
    simp only at q
    unfold numD
    by_cases c : v + 2 > ns.length - e
    · rw [if_pos c] at q
      have q1 := q st1 u
      clear q
      have c' : (ns.length : Int) - e < v + 2 := c
      walk_at "i"
      rw [List.length_map]
      walk_at "i"
      exact endsOf_i q1
    · rw [if_neg c] at q
      have c' : ¬ ((ns.map D.int).length : Int) - e < v + 2 := by rw [List.length_map]; exact c
      clear c
      have e1 := cutL_ints ns (some e) (some (v + e))
      have e2 := cutL_ints ns (some (v + e)) (some (v + e + 2))
      have hc := ho.cut (some e) (some (v + e))
      generalize cutL ns (some e) (some (v + e)) = b at *
      generalize cutL ns (some (v + e)) (some (v + e + 2)) = b2 at *
      refine sSeq_t fun T hT => ?_
      walk_at "i"
      subst hT
      refine sSeq_t fun T hT => ?_
      walk_at "i"
      subst hT
      refine sSeq_t fun T hT => ?_
      walk_at "i"
      subst hT
      refine sSeq_t fun T hT => ?_
      walk_at "i"
      refine ⟨b, rfl, hc, fun st2 u2 => oNe_dat (okC_ints _) (okC_ints _) (by have := depC_ints b2; omega) (by have := depC_ints (pairS b); omega) ?_⟩
      subst hT
      have q1 := q st2 (u.trans u2)
      clear q e1 e2
      by_cases h : b2 = pairS b
      · rw [if_pos h] at q1
        simp only [intD_inj, h, decide_true]
        clear h
        walk_at "i"
        exact endsOf_i q1
      · rw [if_neg h] at q1
        simp only [intD_inj, h, decide_false]
        clear h
        walk_at "i"
        exact endsOf_i q1
/-- frames one behind another up to the first that is none -/
inductive Frs (ns : List Int) : Int → List (List Int) → Int → Prop
  | stop {i : Int} : frameAt ns i = none → Frs ns i [] i
  | more {i e p : Int} {b : List Int} {bs : List (List Int)} : frameAt ns i = some (b, e) → Frs ns e bs p → Frs ns i (b :: bs) p
theorem Frs.all {ns : List Int} (ho : OctOk ns) : ∀ (k : Nat) (i : Int), (ns.length : Int) - i ≤ k → ∃ bs p, Frs ns i bs p
  | 0, i, h => by
    cases hf : frameAt ns i with
    | none => exact ⟨_, _, .stop hf⟩
    | some q =>
      obtain ⟨b, e⟩ := q
      have := frame_facts ho hf
      omega
  | k + 1, i, h => by
    cases hf : frameAt ns i with
    | none => exact ⟨_, _, .stop hf⟩
    | some q =>
      obtain ⟨b, e⟩ := q
      have := frame_facts ho hf
      obtain ⟨bs, p, hb⟩ := Frs.all ho k e (by omega)
      exact ⟨_, _, .more hf hb⟩
theorem Frs.facts {ns : List Int} (ho : OctOk ns) {i p : Int} {bs : List (List Int)} (h : Frs ns i bs p) (hi : i ≤ ns.length) : i + 3 * bs.length ≤ p ∧ p ≤ ns.length ∧ ∀ b ∈ bs, OctOk b := by
  induction h with
  | stop _ => exact ⟨by simp, hi, by simp⟩
  | more hf _ ih =>
    obtain ⟨h1, h2, h3, h4⟩ := frame_facts ho hf
    obtain ⟨a, b, c⟩ := ih h3
    refine ⟨by rw [List.length_cons]; omega, b, fun x hx => ?_⟩
    rcases List.mem_cons.mp hx with rfl | hx
    · exact h4
    · exact c x hx
def rowsT (bs : List (List Int)) : List D := bs.map fun b => D.tup (b.map D.int)
def dueD (bs : List (List Int)) (p : Int) : D := .tup [.tup (rowsT bs), .int p]
def S_frames : DSp := fun vs st Q => ∃ (ns : List Int) (bs : List (List Int)) (p : Int), vs = [.tup (ns.map D.int)] ∧ OctOk ns ∧ Frs ns 0 bs p ∧ ∀ st', Keep st st' → Q (dueD bs p) st'
/-- frames(octets): 0 octets 1 bodies 2 place 3 told -/
def t_frames : MS := sSeq (sAsg (mCall oTuple (mCons (mVar 0) (mNil))) (gN 0))
    (sSeq (sPar 1 2 (mCons (mLst (mNil)) (mCons (mC (.int 0)) (mNil))))
    (sSeq (sAsg (mCall S_frame_at (mCons (mVar 0) (mCons (mC (.int 0)) (mNil)))) (gN 3))
    (sSeq (sWhile (mTest (mBin oIsNot (mVar 3) (mC .non))) (sSeq (sDrop (mMeth isL oAppend (mVar 1) (mCons (mBin oIx (mVar 3) (mC (.int 0))) (mNil))))
    (sSeq (sAsg (mBin oIx (mVar 3) (mC (.int 1))) (gN 2))
    (sAsg (mCall S_frame_at (mCons (mVar 0) (mCons (mVar 2) (mNil)))) (gN 3)))))
    (sRet (mTup (mCons (mCall oTuple (mCons (mVar 1) (mNil))) (mCons (mVar 2) (mNil))))))))
theorem kp_frames : Keeps 1 4 S_frames t_frames := by
  refine ⟨fun ds st Q ⟨ns, bs, p, e, _⟩ => by rw [e]; rfl, fun ds st Q ⟨ns, bs, p, e, ho, hf, q⟩ => ?_⟩
  subst e
  have z2 : 2 ≤ sizeLine := by decide
  obtain ⟨f1, f2, _⟩ := hf.facts ho (by omega)
  have ho1 := ho.1
  unfold t_frames
  refine sSeq_t fun T hT => ?_
  walk_at "s"
  subst hT
  refine sSeq_t fun T hT => ?_
  walk_at "s"
  intro l hl
  subst hT
  refine sSeq_t fun T hT => ?_
  walk_at "s"
  refine ⟨ns, 0, rfl, ho, by omega, fun st1 u => ?_⟩
  subst hT
  have l1 := u.l (put_same (st := st) (a := l) (o := .lst []))
  have u1 := (Keep.put (o := .lst []) hl).trans u
  refine sSeq_i (fun env st' => ∃ g, env = [some (.tup (ns.map D.int)), some (.ref l), some (.int p), g] ∧ Keep st st' ∧ st' l = some (.lst (rowsT bs))) (fun nx hnx => ?_) ?_
  · refine ⟨fun m env st' => ∃ (i : Int) (done rest : List (List Int)), env = [some (.tup (ns.map D.int)), some (.ref l), some (.int i), some (frD (frameAt ns i))] ∧ Keep st st' ∧ st' l = some (.lst (rowsT done)) ∧ Frs ns i rest p ∧ done ++ rest = bs ∧ m = rest.length, ⟨bs.length, 0, [], bs, rfl, u1, l1, hf, rfl, rfl⟩, ?_⟩
    rintro m env st2 ⟨i, done, rest, rfl, u2, l2, hr, he, rfl⟩
    clear q
    cases hr with
    | stop h =>
      have hx := hnx _ st2 ⟨some (frD (frameAt ns p)), rfl, u2, by rw [l2, ← he, List.append_nil]⟩
      clear hnx
      rw [h] at hx ⊢
      unfold frD at hx ⊢
      walk_at "s"
      rw [oIsNot_nn]
      walk_at "s"
    | more h hm =>
      rename_i e b rest
      clear hnx
      have hd : done.length ≤ 16000 := by
        have := congrArg List.length he
        rw [List.length_append] at this
        omega
      have hl2 : (rowsT done).length < sizeLine := by unfold rowsT; rw [List.length_map, szL]; omega
      have fe := frame_facts ho h
      rw [h]
      unfold frD
      walk_at "s"
      rw [oIsNot_tn]
      walk_at "s"
      refine ⟨ns, e, rfl, ho, by omega, fun st3 u3 => ?_⟩
      refine ⟨rest.length, by omega, e, done ++ [b], rest, rfl, (u2.mut hl).trans u3, ?_, hm, by rw [← he]; simp, rfl⟩
      rw [u3.l put_same]
      unfold rowsT
      rw [List.map_append]
      rfl
  · rintro env st' ⟨g, rfl, u2, l2⟩
    clear l1
    walk_at "s"
    exact endsOf_i (q _ u2)
end L2.DL

namespace L2.DL
open PySem PySem.Spec PyProof.Rows
local macro_rules | `(tactic| walk_at "s") => `(tactic| try simp only [sqAsg_a, sqDrop_a, sqPar_a, sqPar3_a, sqRet_a, sqNext_a, sqSeq_a, sNext_a, sBreak_a, sCont_a, sDrop_a, sRet_a, sRetN_a, sIf_a, sAsg_a, sPar_a, sPar3_a, mVar_a, vAt_a, mC_a, mBin_a, mTest_a, bAt_a, mAnd_a, mOr_a, mNot_a, mYes_a, mAndV_a, mOrV_a, mNotV_a, mIf_a, mNil_a, mCons_a, mTup_a, mLst_a, mCall_a, mCallK_a, mMeth_a, mSl_a, mNoPart_a, iAt_a, mPart_a, mIsi_b, tysO_some, List.any_cons, List.any_nil, Bool.or_false, Bool.false_or, Bool.or_true, Bool.true_or, Int.natCast_pos, gN_a, gTup_a, gCons_a, gNil_a, gSub_a, sFor_a, mLc_a, mDc_a, wSeq_a, sqO_tup, sqO_str, sqO_ref, wRng1_a, wRng2_b, wRng3_b, wEnum_a, enO_tup, enO_ref, mRev_a, revO_ref, List.getD_cons_zero, List.getD_cons_succ, ite_self, List.set_cons_zero, List.set_cons_succ, List.getElem?_cons_zero, List.getElem?_cons_succ, oAdd_int, oAdd_str, oAdd_tup, oAdd_ref, oSub_int, oMul_int, oDiv_int, oMod_int, oPow_int, oLt_int, oLe_int, oGt_int, oGe_int, oIs_nn, oIs_bn, oIs_in, oIs_sn, oIs_tn, oIs_rn, oIs_bb, oIs_nb, oIs_ib, oIs_sb, oIs_tb, oIs_rb, oIsi_int, oIsi_str, oIsi_bool, oIsi_tuple, oIsi_list, oIsi_dict, tyO_some, tyD_non, tyD_bl, tyD_int, tyD_str, tyD_tup, isi_facts, oEq_int, oNe_int, oEq_str, oNe_str, oSl_tup, oSl_str, oSl_ref, oLen_tup, oLen_str, oLen_ref, oAbs_int, oInt_int, oInt_bl, oMax_int, oMin_int, oTuple_tup, oTuple_ref, oList_tup, oList_str, oList_ref, oIx_tupE, oIx_ref, oAppend_ref, oPop_ref, oExtend_tupE, oSet_ref, isL_ref, isS_str, vO_some, ixO_lst, ixO_dicI, ixO_dicS, ixO_rodI, ixO_rodS, lsO_lst, rdO_lst, rdO_rol, lenO_lst, lenO_dic, lenO_rol, addO_lst, setO_lst, setO_dicI, setO_dicS, atI_zero, atI_one, atI_two, atI_end, startE, wipeE, List.map_cons, List.map_nil, List.length_cons, List.length_nil, List.replicate, List.cons_append, List.nil_append, Nat.reduceAdd, Nat.reduceSub, List.replicate_succ, List.replicate_zero, put_same, Nat.zero_le, Int.reduceLT, Int.reduceLE, Nat.reduceLT, Nat.reduceLeDiff, and_true, true_and, Bool.false_eq_true, ↓reduceIte, Bool.not_true, Bool.not_false, decide_true, decide_false, *])
local macro_rules | `(tactic| walk_at "i") => `(tactic| try simp only [sqIf_a, sqAsg_a, sqDrop_a, sqPar_a, sqPar3_a, sqRet_a, sqNext_a, sqSeq_a, sNext_a, sBreak_a, sCont_a, sDrop_a, sRet_a, sRetN_a, sIf_a, sAsg_a, sPar_a, sPar3_a, mVar_a, vAt_a, mC_a, mBin_a, mTest_a, bAt_a, mAnd_a, mOr_a, mNot_a, mYes_a, mAndV_a, mOrV_a, mNotV_a, mIf_a, mNil_a, mCons_a, mTup_a, mLst_a, mCall_a, mCallK_a, mMeth_a, mSl_a, mNoPart_a, iAt_a, mPart_a, mIsi_b, tysO_some, List.any_cons, List.any_nil, Bool.or_false, Bool.false_or, Bool.or_true, Bool.true_or, Int.natCast_pos, gN_a, gTup_a, gCons_a, gNil_a, gSub_a, sFor_a, mLc_a, mDc_a, wSeq_a, sqO_tup, sqO_str, sqO_ref, wRng1_a, wRng2_b, wRng3_b, wEnum_a, enO_tup, enO_ref, mRev_a, revO_ref, List.getD_cons_zero, List.getD_cons_succ, ite_self, List.set_cons_zero, List.set_cons_succ, List.getElem?_cons_zero, List.getElem?_cons_succ, oAdd_int, oAdd_str, oAdd_tup, oAdd_ref, oSub_int, oMul_int, oDiv_int, oMod_int, oPow_int, oLt_int, oLe_int, oGt_int, oGe_int, oIs_nn, oIs_bn, oIs_in, oIs_sn, oIs_tn, oIs_rn, oIs_bb, oIs_nb, oIs_ib, oIs_sb, oIs_tb, oIs_rb, oIsi_int, oIsi_str, oIsi_bool, oIsi_tuple, oIsi_list, oIsi_dict, tyO_some, tyD_non, tyD_bl, tyD_int, tyD_str, tyD_tup, isi_facts, oEq_int, oNe_int, oEq_str, oNe_str, oSl_tup, oSl_str, oSl_ref, oLen_tup, oLen_str, oLen_ref, oAbs_int, oInt_int, oInt_bl, oMax_int, oMin_int, oTuple_tup, oTuple_ref, oList_tup, oList_str, oList_ref, oIx_tupE, oIx_ref, oAppend_ref, oPop_ref, oExtend_tupE, oSet_ref, isL_ref, isS_str, vO_some, ixO_lst, ixO_dicI, ixO_dicS, ixO_rodI, ixO_rodS, lsO_lst, rdO_lst, rdO_rol, lenO_lst, lenO_dic, lenO_rol, addO_lst, setO_lst, setO_dicI, setO_dicS, atI_zero, atI_one, atI_two, atI_end, startE, wipeE, List.map_cons, List.map_nil, List.length_cons, List.length_nil, List.replicate, List.cons_append, List.nil_append, Nat.reduceAdd, Nat.reduceSub, List.replicate_succ, List.replicate_zero, put_same, Nat.zero_le, Int.reduceLT, Int.reduceLE, Nat.reduceLT, Nat.reduceLeDiff, and_true, true_and, Bool.false_eq_true, ↓reduceIte, Bool.not_true, Bool.not_false, decide_true, decide_false, *])
/-! ### the law's own defs -/
def IL (st : Sto) (a : Addr) (l : List Int) : Prop := st a = some (.lst (l.map D.int))
def S_law_number_octets : DSp := fun vs st Q => ∃ n : Nat, vs = [.int n] ∧ (enc n).length ≤ 1000000 ∧ ∀ p st', Nf st p → Keep st st' → IL st' p (enc n) → Q (.ref p) st'
/-- _law_number_octets(number): 0 number 1 found 2 rest -/
def t_law_number_octets : MS := sSeq (sPar 1 2 (mCons (mLst (mNil)) (mCons (mVar 0) (mNil))))
    (sSeq (sWhile (mTest (mBin oGt (mVar 2) (mC (.int 127)))) (sSeq (sDrop (mMeth isL oAppend (mVar 1) (mCons (mBin oAdd (mBin oMod (mCall oInt (mCons (mVar 2) (mNil))) (mC (.int 128))) (mC (.int 128))) (mNil))))
    (sAsg (mBin oDiv (mVar 2) (mC (.int 128))) (gN 2))))
    (sRet (mBin oAdd (mVar 1) (mLst (mCons (mVar 2) (mNil))))))
theorem kp_law_number_octets : Keeps 1 3 S_law_number_octets t_law_number_octets := by
  refine ⟨fun ds st Q ⟨n, e, _⟩ => by rw [e]; rfl, fun ds st Q ⟨n, e, hl, q⟩ => ?_⟩
  subst e
  have z1 : 0 + 1 ≤ sizeLine := by decide
  unfold t_law_number_octets
  walk_at "s"
  intro p hp
  refine sSeq_i (fun env st' => ∃ (a : Option D) (f : List Int) (r : Nat), env = [a, some (.ref p), some (.int r)] ∧ Keep st st' ∧ st' p = some (.lst (f.map D.int)) ∧ f ++ [(r : Int)] = enc n) (fun nx hnx => ?_) ?_
  · refine ⟨fun j env st' => ∃ (a : Option D) (f : List Int) (r : Nat), env = [a, some (.ref p), some (.int r)] ∧ Keep st st' ∧ st' p = some (.lst (f.map D.int)) ∧ f ++ enc r = enc n ∧ j = r, ⟨n, _, [], n, rfl, Keep.put hp, put_same, rfl, rfl⟩, ?_⟩
    rintro j env st1 ⟨a, f, r, rfl, u, l, he, rfl⟩
    by_cases hr : j < 128
    · have hx := hnx [a, some (.ref p), some (.int j)] st1 ⟨a, f, j, rfl, u, l, by rw [← he, enc_small hr]⟩
      clear hnx
      walk_at "s"
      rw [if_neg (by simp; omega)]
      trivial
    · clear hnx q
      have w1 : CDivW j 128 := wide_div (b := 8) (by omega) (by omega) (by omega) (by omega)
      have hlf : (f.map D.int).length < sizeLine := by
        have h1 := congrArg List.length he
        have h2 := enc_len j
        rw [List.length_append] at h1
        rw [List.length_map, szL]
        omega
      walk_at "s"
      rw [if_pos (by simp; omega)]
      refine ⟨j / 128, by omega, a, f ++ [((128 + j % 128 : Nat) : Int)], j / 128, ?_, u.mut hp, ?_, ?_, rfl⟩
      · congr 4
      · rw [List.map_append]
        show some (Ob.lst (_ ++ [D.int ((j : Int) % 128 + 128)])) = _
        rw [Int.add_comm]
        rfl
      · rw [List.append_assoc, ← he, enc_big hr]; rfl
  · rintro env st' ⟨a, f, r, rfl, u, l, he⟩
    walk_at "s"
    intro p2 hp2
    have l2 := (Keep.put (o := .lst [.int r]) hp2).l l
    have l3 : put st' p2 (.lst [.int r]) p2 = some (.lst [.int r]) := put_same
    have u2 := u.new (o := .lst [.int r]) hp2
    generalize put st' p2 (.lst [.int r]) = st2 at *
    have h1 := congrArg List.length he
    rw [List.length_append] at h1
    have hlf : (f.map D.int).length + (0 + 1) ≤ sizeLine := by
      rw [List.length_map, szL]
      omega
    clear l
    walk_at "s"
    intro p3 hp3
    refine endsOf_i (q p3 _ (hp3.backK u2) (u2.new hp3) ?_)
    unfold IL
    rw [put_same, ← he, List.map_append]
    rfl
theorem sumR_map : ∀ (l : List Int) (k : Int), ((List.range l.length).map fun (i : Nat) => l.getD i 0 * (k + i + 1)).sum = sumR k l
  | [], _ => rfl
  | x :: l, k => by
    rw [List.length_cons, List.range_succ_eq_map, List.map_cons, List.sum_cons, List.map_map, sumR, ← sumR_map l (k + 1)]
    congr 1
    · simp [Int.mul_comm]
    · congr 1
      refine List.map_congr_left fun i _ => ?_
      simp only [Function.comp_apply, List.getD_cons_succ]
      congr 1
      omega
def S_law_sum : DSp := fun vs st Q => ∃ (a : Addr) (ns : List Int), vs = [.ref a] ∧ IL st a ns ∧ OctOk ns ∧ ∀ st', Keep st st' → Q (.int (sumO ns)) st'
/-- _law_sum(octets): 0 octets 1 at -/
def t_law_sum : MS := sRet (mBin oMod (mCall oInt (mCons (mCall oSum (mCons (mLc (wRng1 (mCall oLen (mCons (mVar 0) (mNil)))) (gN 1) (mYes) (mBin oMul (mBin oIx (mVar 0) (mVar 1)) (mBin oAdd (mVar 1) (mC (.int 1)))) [1]) (mNil))) (mNil))) (mC (.int 65521)))
theorem kp_law_sum : Keeps 1 2 S_law_sum t_law_sum := by
  refine ⟨fun ds st Q ⟨a, n, e, _⟩ => by rw [e]; rfl, fun ds st Q ⟨a, ns, e, la, ho, q⟩ => ?_⟩
  subst e
  have h0 := ho.1
  unfold IL at la
  unfold t_law_sum
  walk_at "s"
  rw [List.length_map]
  refine ⟨by omega, lc_keep (onI fun c => some (.int (ns.getD c.toNat 0 * (c + 1)))) (fun _ _ => trivial) (by rw [rangeD_len, szL]; omega) (fun y hy st2 u2 P N hP hN => ?_) fun p3 st3 hp3 u3 lp3 => ?_⟩
  · obtain ⟨k, hk, rfl⟩ := List.mem_map.mp hy
    rw [List.mem_range] at hk
    have hk2 : k < ns.length := by omega
    have a1 := getD_map_int hk2
    have hm : ns.getD k 0 ∈ ns := by
      rw [List.getD_eq_getElem?_getD, List.getElem?_eq_getElem hk2]
      exact List.getElem_mem ..
    have hb := ho.2 _ hm
    have h1 := hP (.int (ns.getD k 0 * ((k : Int) + 1))) st2 (by rw [onI]; simp) .refl
    have cm : CMulW (ns.getD k 0) ((k : Int) + 1) := wide_mul (a := 20) (b := 20) (by omega) (by omega) (by omega) (by omega) (by omega)
    have l2 := u2.l la
    have ek : (0 : Int) + (k : Int) = k := by omega
    rw [ek]
    clear hP hN la hm hb q hy
    walk_at "s"
  · have e3 : (rangeD 0 ((ns.length : Int)).toNat).filterMap (onI fun c => some (.int (ns.getD c.toNat 0 * (c + 1)))) = ((List.range ns.length).map fun (i : Nat) => ns.getD i 0 * (0 + (i : Int) + 1)).map D.int := by
      unfold rangeD
      rw [List.filterMap_map, List.map_map]
      have : (fun (i : Nat) => (onI fun c => some (D.int (ns.getD c.toNat 0 * (c + 1)))) (D.int (0 + (i : Int)))) = fun i => some ((D.int ∘ fun (i : Nat) => ns.getD i 0 * (0 + (i : Int) + 1)) i) := by
        funext i
        have ei : (0 : Int) + (i : Int) = (i : Int) := by omega
        simp only [onI, Function.comp_apply, ei, Int.toNat_natCast]
      exact (congrArg (fun f => List.filterMap f _) this).trans (fm_some _ _)
    rw [e3] at lp3
    walk_at "s"
    refine ⟨_, by rw [lp3]; rfl, ?_⟩
    rw [sumR_map]
    walk_at "s"
    exact endsOf_i (q _ u3)
def S_law_framed : DSp := fun vs st Q => ∃ (a : Addr) (ns : List Int), vs = [.ref a] ∧ IL st a ns ∧ OctOk ns ∧ ∀ p st', Nf st p → Keep st st' → IL st' p (frameL ns) → Q (.ref p) st'
/-- _law_framed(body): 0 body 1 total -/
def t_law_framed : MS := sSeq (sAsg (mCall S_law_sum (mCons (mVar 0) (mNil))) (gN 1))
    (sRet (mBin oAdd (mBin oAdd (mCall S_law_number_octets (mCons (mCall oLen (mCons (mVar 0) (mNil))) (mNil))) (mVar 0)) (mLst (mCons (mBin oMod (mCall oInt (mCons (mVar 1) (mNil))) (mC (.int 256))) (mCons (mBin oDiv (mVar 1) (mC (.int 256))) (mNil))))))
theorem kp_law_framed : Keeps 1 2 S_law_framed t_law_framed := by
  refine ⟨fun ds st Q ⟨a, n, e, _⟩ => by rw [e]; rfl, fun ds st Q ⟨a, ns, e, la, ho, q⟩ => ?_⟩
  subst e
  have h0 := ho.1
  have h1 := enc_short h0
  have cd : CDivW (sumO ns) 256 := wide_div (b := 9) (by omega) (by omega) (by omega) (by omega)
  have z2 : 0 + 1 + 1 ≤ sizeLine := by decide
  unfold t_law_framed
  walk_at "s"
  refine ⟨a, ns, rfl, la, ho, fun st1 u1 => ?_⟩
  have la1 : st1 a = some (.lst (ns.map D.int)) := u1.l la
  clear la
  walk_at "s"
  refine ⟨ns.length, by rw [List.length_map], by omega, fun p1 st2 hp1 u2 l1 => ?_⟩
  have la2 := u2.l la1
  unfold IL at l1
  have u12 := u1.trans u2
  clear la1 u2
  have hs1 : ((enc ns.length).map D.int).length + (ns.map D.int).length ≤ sizeLine := by rw [List.length_map, List.length_map, szL]; omega
  walk_at "s"
  intro p2 hp2
  have u3 := u12.new (o := .lst ((enc ns.length).map D.int ++ ns.map D.int)) hp2
  have l2 : put st2 p2 (.lst ((enc ns.length).map D.int ++ ns.map D.int)) p2 = some (.lst ((enc ns.length).map D.int ++ ns.map D.int)) := put_same
  generalize put st2 p2 (.lst ((enc ns.length).map D.int ++ ns.map D.int)) = st3 at *
  clear la2 l1 u12 hp2
  intro p3 hp3
  have u4 := u3.new (o := .lst [.int (sumO ns % 256), .int (sumO ns / 256)]) hp3
  have l3 := (Keep.put (o := .lst [.int (sumO ns % 256), .int (sumO ns / 256)]) hp3).l l2
  have l4 : put st3 p3 (.lst [.int (sumO ns % 256), .int (sumO ns / 256)]) p3 = some (.lst [.int (sumO ns % 256), .int (sumO ns / 256)]) := put_same
  generalize put st3 p3 (.lst [.int (sumO ns % 256), .int (sumO ns / 256)]) = st4 at *
  have hs2 : ((enc ns.length).map D.int ++ ns.map D.int).length + (0 + 1 + 1) ≤ sizeLine := by rw [List.length_append, List.length_map, List.length_map, szL]; omega
  clear l2 u3 hp3 hp1
  walk_at "s"
  intro p5 hp5
  refine endsOf_i (q p5 _ (hp5.backK u4) (u4.new hp5) ?_)
  unfold IL frameL pairS
  rw [put_same, List.map_append, List.map_append]
  simp only [List.append_assoc]
  rfl
end L2.DL

namespace L2.DL
open PySem PySem.Spec PyProof.Rows
local macro_rules | `(tactic| walk_at "s") => `(tactic| try simp only [sqAsg_a, sqDrop_a, sqPar_a, sqPar3_a, sqRet_a, sqNext_a, sqSeq_a, sNext_a, sBreak_a, sCont_a, sDrop_a, sRet_a, sRetN_a, sIf_a, sAsg_a, sPar_a, sPar3_a, mVar_a, vAt_a, mC_a, mBin_a, mTest_a, bAt_a, mAnd_a, mOr_a, mNot_a, mYes_a, mAndV_a, mOrV_a, mNotV_a, mIf_a, mNil_a, mCons_a, mTup_a, mLst_a, mCall_a, mCallK_a, mMeth_a, mSl_a, mNoPart_a, iAt_a, mPart_a, mIsi_b, tysO_some, List.any_cons, List.any_nil, Bool.or_false, Bool.false_or, Bool.or_true, Bool.true_or, Int.natCast_pos, gN_a, gTup_a, gCons_a, gNil_a, gSub_a, sFor_a, mLc_a, mDc_a, wSeq_a, sqO_tup, sqO_str, sqO_ref, wRng1_a, wRng2_b, wRng3_b, wEnum_a, enO_tup, enO_ref, mRev_a, revO_ref, List.getD_cons_zero, List.getD_cons_succ, ite_self, List.set_cons_zero, List.set_cons_succ, List.getElem?_cons_zero, List.getElem?_cons_succ, oAdd_int, oAdd_str, oAdd_tup, oAdd_ref, oSub_int, oMul_int, oDiv_int, oMod_int, oPow_int, oLt_int, oLe_int, oGt_int, oGe_int, oIs_nn, oIs_bn, oIs_in, oIs_sn, oIs_tn, oIs_rn, oIs_bb, oIs_nb, oIs_ib, oIs_sb, oIs_tb, oIs_rb, oIsi_int, oIsi_str, oIsi_bool, oIsi_tuple, oIsi_list, oIsi_dict, tyO_some, tyD_non, tyD_bl, tyD_int, tyD_str, tyD_tup, isi_facts, oEq_int, oNe_int, oEq_str, oNe_str, oSl_tup, oSl_str, oSl_ref, oLen_tup, oLen_str, oLen_ref, oAbs_int, oInt_int, oInt_bl, oMax_int, oMin_int, oTuple_tup, oTuple_ref, oList_tup, oList_str, oList_ref, oIx_tupE, oIx_ref, oAppend_ref, oPop_ref, oExtend_tupE, oSet_ref, isL_ref, isS_str, vO_some, ixO_lst, ixO_dicI, ixO_dicS, ixO_rodI, ixO_rodS, lsO_lst, rdO_lst, rdO_rol, lenO_lst, lenO_dic, lenO_rol, addO_lst, setO_lst, setO_dicI, setO_dicS, atI_zero, atI_one, atI_two, atI_end, startE, wipeE, List.map_cons, List.map_nil, List.length_cons, List.length_nil, List.replicate, List.cons_append, List.nil_append, Nat.reduceAdd, Nat.reduceSub, List.replicate_succ, List.replicate_zero, put_same, Nat.zero_le, Int.reduceLT, Int.reduceLE, Nat.reduceLT, Nat.reduceLeDiff, and_true, true_and, Bool.false_eq_true, ↓reduceIte, Bool.not_true, Bool.not_false, decide_true, decide_false, *])
local macro_rules | `(tactic| walk_at "i") => `(tactic| try simp only [sqIf_a, sqAsg_a, sqDrop_a, sqPar_a, sqPar3_a, sqRet_a, sqNext_a, sqSeq_a, sNext_a, sBreak_a, sCont_a, sDrop_a, sRet_a, sRetN_a, sIf_a, sAsg_a, sPar_a, sPar3_a, mVar_a, vAt_a, mC_a, mBin_a, mTest_a, bAt_a, mAnd_a, mOr_a, mNot_a, mYes_a, mAndV_a, mOrV_a, mNotV_a, mIf_a, mNil_a, mCons_a, mTup_a, mLst_a, mCall_a, mCallK_a, mMeth_a, mSl_a, mNoPart_a, iAt_a, mPart_a, mIsi_b, tysO_some, List.any_cons, List.any_nil, Bool.or_false, Bool.false_or, Bool.or_true, Bool.true_or, Int.natCast_pos, gN_a, gTup_a, gCons_a, gNil_a, gSub_a, sFor_a, mLc_a, mDc_a, wSeq_a, sqO_tup, sqO_str, sqO_ref, wRng1_a, wRng2_b, wRng3_b, wEnum_a, enO_tup, enO_ref, mRev_a, revO_ref, List.getD_cons_zero, List.getD_cons_succ, ite_self, List.set_cons_zero, List.set_cons_succ, List.getElem?_cons_zero, List.getElem?_cons_succ, oAdd_int, oAdd_str, oAdd_tup, oAdd_ref, oSub_int, oMul_int, oDiv_int, oMod_int, oPow_int, oLt_int, oLe_int, oGt_int, oGe_int, oIs_nn, oIs_bn, oIs_in, oIs_sn, oIs_tn, oIs_rn, oIs_bb, oIs_nb, oIs_ib, oIs_sb, oIs_tb, oIs_rb, oIsi_int, oIsi_str, oIsi_bool, oIsi_tuple, oIsi_list, oIsi_dict, tyO_some, tyD_non, tyD_bl, tyD_int, tyD_str, tyD_tup, isi_facts, oEq_int, oNe_int, oEq_str, oNe_str, oSl_tup, oSl_str, oSl_ref, oLen_tup, oLen_str, oLen_ref, oAbs_int, oInt_int, oInt_bl, oMax_int, oMin_int, oTuple_tup, oTuple_ref, oList_tup, oList_str, oList_ref, oIx_tupE, oIx_ref, oAppend_ref, oPop_ref, oExtend_tupE, oSet_ref, isL_ref, isS_str, vO_some, ixO_lst, ixO_dicI, ixO_dicS, ixO_rodI, ixO_rodS, lsO_lst, rdO_lst, rdO_rol, lenO_lst, lenO_dic, lenO_rol, addO_lst, setO_lst, setO_dicI, setO_dicS, atI_zero, atI_one, atI_two, atI_end, startE, wipeE, List.map_cons, List.map_nil, List.length_cons, List.length_nil, List.replicate, List.cons_append, List.nil_append, Nat.reduceAdd, Nat.reduceSub, List.replicate_succ, List.replicate_zero, put_same, Nat.zero_le, Int.reduceLT, Int.reduceLE, Nat.reduceLT, Nat.reduceLeDiff, and_true, true_and, Bool.false_eq_true, ↓reduceIte, Bool.not_true, Bool.not_false, decide_true, decide_false, *])
/-! ### the law's own defs: rows, draws -/
inductive Fa2 {α β : Type} (R : α → β → Prop) : List α → List β → Prop
  | nil : Fa2 R [] []
  | cons {x : α} {y : β} {xs : List α} {ys : List β} : R x y → Fa2 R xs ys → Fa2 R (x :: xs) (y :: ys)
theorem Fa2.len {α β : Type} {R : α → β → Prop} {xs : List α} {ys : List β} (h : Fa2 R xs ys) : xs.length = ys.length := by
  induction h with
  | nil => rfl
  | cons _ _ ih => rw [List.length_cons, List.length_cons, ih]
theorem Fa2.mono {α β : Type} {R S : α → β → Prop} {xs : List α} {ys : List β} (h : Fa2 R xs ys) (k : ∀ x y, R x y → S x y) : Fa2 S xs ys := by
  induction h with
  | nil => exact .nil
  | cons a _ ih => exact .cons (k _ _ a) ih
theorem Fa2.snoc {α β : Type} {R : α → β → Prop} {xs : List α} {ys : List β} {x : α} {y : β} (h : Fa2 R xs ys) (k : R x y) : Fa2 R (xs ++ [x]) (ys ++ [y]) := by
  induction h with
  | nil => exact .cons k .nil
  | cons a _ ih => exact .cons a ih
theorem Fa2.take {α β : Type} {R : α → β → Prop} {xs : List α} {ys : List β} (h : Fa2 R xs ys) : ∀ k, Fa2 R (xs.take k) (ys.take k) := by
  induction h with
  | nil => intro k; simpa using Fa2.nil
  | cons a _ ih =>
    intro k
    cases k with
    | zero => exact .nil
    | succ k => exact .cons a (ih k)
theorem Fa2.get {α β : Type} {R : α → β → Prop} {xs : List α} {ys : List β} (h : Fa2 R xs ys) : ∀ {k : Nat} {x : α}, xs[k]? = some x → ∃ y, ys[k]? = some y ∧ R x y := by
  induction h with
  | nil => intro k x e; simp at e
  | cons a _ ih =>
    intro k x e
    cases k with
    | zero => simp at e; subst e; exact ⟨_, rfl, a⟩
    | succ k => simpa using ih (by simpa using e)
/-- rows named by their addresses -/
def RL (st : Sto) (as : List Addr) (ls : List (List Int)) : Prop := Fa2 (IL st) as ls
theorem RL.keep {st st' : Sto} {as : List Addr} {ls : List (List Int)} (h : RL st as ls) (u : Keep st st') : RL st' as ls := h.mono fun _ _ k => u.l k
def S_law_joined : DSp := fun vs st Q => ∃ (a : Addr) (as : List Addr) (ls : List (List Int)), vs = [.ref a] ∧ st a = some (.lst (as.map D.ref)) ∧ RL st as ls ∧ ls.flatten.length ≤ 1000000 ∧ ∀ p st', Nf st p → Keep st st' → IL st' p ls.flatten → Q (.ref p) st'
/-- _law_joined(rows): 0 rows 1 found 2 row -/
def t_law_joined : MS := sSeq (sAsg (mLst (mNil)) (gN 1))
    (sSeq (sFor (wSeq (mVar 0)) (gN 2) (sAsg (mBin oAdd (mVar 1) (mVar 2)) (gN 1)))
    (sRet (mVar 1)))
theorem kp_law_joined : Keeps 1 3 S_law_joined t_law_joined := by
  refine ⟨fun ds st Q ⟨a, as, n, e, _⟩ => by rw [e]; rfl, fun ds st Q ⟨a, as, ls, e, la, hr, hl, q⟩ => ?_⟩
  subst e
  have z0 : 0 ≤ sizeLine := by decide
  unfold t_law_joined
  walk_at "s"
  intro p0 hp0
  rw [sSeq_a]
  have la0 := (Keep.put (o := .lst []) hp0).l la
  have u0 := Keep.put (o := .lst []) hp0
  have l0 : put st p0 (.lst []) p0 = some (.lst []) := put_same
  generalize put st p0 (.lst []) = st0 at *
  clear la
  walk_at "s"
  refine ⟨fun k env st' => ∃ p g, env = [some (.ref a), some (.ref p), g] ∧ Nf st p ∧ Keep st st' ∧ Keep st0 st' ∧ st' p = some (.lst ((ls.take k).flatten.map D.int)), ⟨p0, none, rfl, hp0, u0, .refl, l0⟩, fun k env st' _ ⟨_, _, _, _, _, u, _⟩ => by show rdL (st' a) = _; rw [u.l la0]; rfl, ?_, ?_⟩
  · rintro k x env st' hx ⟨p, g, rfl, hp, u, u2, l⟩
    rw [List.getElem?_map, Option.map_eq_some_iff] at hx
    obtain ⟨b, hb, rfl⟩ := hx
    obtain ⟨y, hy, lb⟩ := hr.get hb
    have lb2 : st' b = some (.lst (y.map D.int)) := u.l lb
    have hs : ((ls.take k).flatten.map D.int).length + (y.map D.int).length ≤ sizeLine := by
      have e1 : (ls.take (k + 1)).flatten.length ≤ ls.flatten.length := by
        conv => rhs; rw [← List.take_append_drop (k + 1) ls, List.flatten_append, List.length_append]
        omega
      rw [take_snoc hy, List.flatten_append, List.length_append] at e1
      simp only [List.flatten_cons, List.flatten_nil, List.append_nil] at e1
      rw [List.length_map, List.length_map, szL]
      omega
    clear q lb la0 l0
    walk_at "s"
    intro p2 hp2
    refine ⟨p2, _, rfl, hp2.backK u, u.new hp2, u2.new hp2, ?_⟩
    rw [put_same, take_snoc hy, List.flatten_append, List.map_append]
    simp
  · rintro env st' ⟨p, g, rfl, hp, u, u2, l⟩
    rw [List.length_map, hr.len, List.take_length] at l
    clear la0 l0
    walk_at "s"
    exact endsOf_i (q p st' hp u l)
/-- an octet -/
def oct (x : Int) : Prop := 0 ≤ x ∧ x < 256
def S_law_octet : DSp := fun vs st Q => ∃ n m, vs = [.ref n] ∧ Deal st n m ∧ ∀ x st', oct x → Up n m st st' → Q (.int x) st'
/-- _law_octet(deal): 0 deal -/
def t_law_octet : MS := sRet (mCall S_law_of (mCons (mVar 0) (mCons (mLst (mCons (mC (.int 0)) (mCons (mC (.int 1)) (mCons (mC (.int 127)) (mCons (mC (.int 128)) (mCons (mC (.int 255)) (mCons (mCall S_law_any (mCons (mVar 0) (mCons (mC (.int 256)) (mNil)))) (mCons (mCall S_law_any (mCons (mVar 0) (mCons (mC (.int 256)) (mNil)))) (mCons (mCall S_law_any (mCons (mVar 0) (mCons (mC (.int 128)) (mNil)))) (mNil)))))))))) (mNil))))
theorem kp_law_octet : Keeps 1 1 S_law_octet t_law_octet := by
  refine ⟨fun ds st Q ⟨n, m, e, _⟩ => by rw [e]; rfl, fun ds st Q ⟨n, m, e, hd, q⟩ => ?_⟩
  subst e
  have z8 : 0 + 1 + 1 + 1 + 1 + 1 + 1 + 1 + 1 ≤ sizeLine := by decide
  unfold t_law_octet
  walk_at "s"
  refine ⟨n, m, 256, rfl, hd, by omega, by omega, fun k1 st1 a1 b1 u1 => ?_⟩
  refine ⟨n, m, 256, rfl, u1.deal, by omega, by omega, fun k2 st2 a2 b2 u2 => ?_⟩
  refine ⟨n, m, 128, rfl, u2.deal, by omega, by omega, fun k3 st3 a3 b3 u3 => ?_⟩
  walk_at "s"
  intro p hp
  have u4 : Up n m st st3 := (u1.trans u2).trans u3
  have hdl := hp.deal u3.deal
  refine ⟨n, m, .ref p, _, rfl, u3.deal.put hdl.1 hdl.2, ⟨hdl.1, hdl.2, put_same⟩, by simp, by simp, fun d st5 hd5 u5 => ?_⟩
  have u6 := (u4.then (Keep.put hp)).trans u5
  simp only [List.mem_cons, List.not_mem_nil, or_false] at hd5
  rcases hd5 with rfl | rfl | rfl | rfl | rfl | rfl | rfl | rfl
  all_goals exact endsOf_i (q _ st5 (by unfold oct; omega) u6)
theorem Fm.ints {P : Int → Prop} {xs ys : List D} (h : Fm (fun _ o => ∃ s, o = some (.int s) ∧ P s) xs ys) : ∃ cs : List Int, ys = cs.map D.int ∧ cs.length = xs.length ∧ ∀ s ∈ cs, P s := by
  induction h with
  | nil => exact ⟨[], rfl, rfl, fun _ h => by cases h⟩
  | yes a _ ih =>
    obtain ⟨cs, rfl, h1, h2⟩ := ih
    obtain ⟨s, e, p⟩ := a
    cases e
    refine ⟨s :: cs, rfl, by simp [h1], fun t ht => ?_⟩
    rcases List.mem_cons.mp ht with rfl | ht
    · exact p
    · exact h2 t ht
  | no a _ _ =>
    obtain ⟨s, e, _⟩ := a
    cases e
def S_law_some_body : DSp := fun vs st Q => ∃ n m, vs = [.ref n] ∧ Deal st n m ∧ ∀ p st' l, Nf st p → Up n m st st' → IL st' p l → l.length ≤ 300 → (∀ x ∈ l, oct x) → Q (.ref p) st'
/-- _law_some_body(deal): 0 deal 1 many 2 one 3 step 4 turn -/
def t_law_some_body : MS := sSeq (sAsg (mCall S_law_of (mCons (mVar 0) (mCons (mLst (mCons (mC (.int 0)) (mCons (mC (.int 1)) (mCons (mC (.int 2)) (mCons (mC (.int 5)) (mCons (mC (.int 20)) (mCons (mC (.int 126)) (mCons (mC (.int 127)) (mCons (mC (.int 128)) (mCons (mC (.int 129)) (mCons (mC (.int 300)) (mNil)))))))))))) (mNil)))) (gN 1))
    (sSeq (sIf (mTest (mBin oGt (mVar 1) (mC (.int 30)))) (sSeq (sAsg (mTup (mCons (mCall S_law_octet (mCons (mVar 0) (mNil))) (mCons (mCall S_law_of (mCons (mVar 0) (mCons (mLst (mCons (mC (.int 0)) (mCons (mC (.int 1)) (mCons (mC (.int 7)) (mCons (mC (.int 128)) (mNil)))))) (mNil)))) (mNil)))) (gTup 2 (gCons (gN 2) (gCons (gN 3) (gNil)))))
    (sRet (mLc (wRng1 (mVar 1)) (gN 4) (mYes) (mBin oMod (mCall oInt (mCons (mBin oAdd (mVar 2) (mBin oMul (mVar 4) (mVar 3))) (mNil))) (mC (.int 256))) [4]))) (sNext))
    (sRet (mLc (wRng1 (mVar 1)) (gN 4) (mYes) (mCall S_law_octet (mCons (mVar 0) (mNil))) [4])))
theorem kp_law_some_body : Keeps 1 5 S_law_some_body t_law_some_body := by
  refine ⟨fun ds st Q ⟨n, m, e, _⟩ => by rw [e]; rfl, fun ds st Q ⟨n, m, e, hd, q⟩ => ?_⟩
  subst e
  have z8 : 0 + 1 + 1 + 1 + 1 + 1 + 1 + 1 + 1 + 1 + 1 ≤ sizeLine := by decide
  have z4 : 0 + 1 + 1 + 1 + 1 ≤ sizeLine := by decide
  have z2 : 0 + 1 + 1 ≤ sizeLine := by decide
  unfold t_law_some_body
  refine sSeq_t fun T hT => ?_
  walk_at "s"
  intro p hp
  have hdl := hp.deal hd
  refine ⟨n, m, .ref p, _, rfl, hd.put hdl.1 hdl.2, ⟨hdl.1, hdl.2, put_same⟩, by simp, by simp, fun d st1 hd1 u1 => ?_⟩
  have u2 := (Up.of hd (Keep.put hp)).trans u1
  obtain ⟨many, rfl, hm⟩ : ∃ many : Int, d = .int many ∧ 0 ≤ many ∧ many ≤ 300 := by
    simp only [List.mem_cons, List.not_mem_nil, or_false] at hd1
    rcases hd1 with rfl | rfl | rfl | rfl | rfl | rfl | rfl | rfl | rfl | rfl
    all_goals exact ⟨_, rfl, by omega, by omega⟩
  subst hT
  clear hd1 u1 hp
  by_cases h30 : 30 < many
  · refine sSeq_t fun T hT => ?_
    walk_at "i"
    refine ⟨n, m, rfl, u2.deal, fun one st3 h1 u3 => ?_⟩
    have u4 := u2.trans u3
    clear u2 u3
    intro p hp
    have hdl := hp.deal u4.deal
    refine ⟨n, m, .ref p, _, rfl, u4.deal.put hdl.1 hdl.2, ⟨hdl.1, hdl.2, put_same⟩, by simp, by simp, fun d st5 hd5 u5 => ?_⟩
    have u6 := (u4.then (Keep.put hp)).trans u5
    obtain ⟨step, rfl, hst⟩ : ∃ many : Int, d = .int many ∧ 0 ≤ many ∧ many ≤ 300 := by
      simp only [List.mem_cons, List.not_mem_nil, or_false] at hd5
      rcases hd5 with rfl | rfl | rfl | rfl
      all_goals exact ⟨_, rfl, by omega, by omega⟩
    clear hd5 u5 u4 hp hdl
    subst hT
    walk_at "s"
    refine ⟨by omega, lc_keep (onI fun c => some (.int ((one + c * step) % 256))) (fun _ _ => trivial) (by rw [rangeD_len, szL]; omega) (fun y hy st7 u7 P N hP hN => ?_) fun p3 st3 hp3 u3 lp3 => ?_⟩
    · obtain ⟨k, hk, rfl⟩ := List.mem_map.mp hy
      rw [List.mem_range] at hk
      have h1 := hP _ st7 rfl .refl
      have cm : CMulW (0 + (k : Int)) step := wide_mul (a := 10) (b := 10) (by omega) (by omega) (by omega) (by omega) (by omega)
      clear hP hN hy
      walk_at "s"
    · have e3 : (rangeD 0 many.toNat).filterMap (onI fun c => some (.int ((one + c * step) % 256))) = ((List.range many.toNat).map fun (i : Nat) => (one + (0 + (i : Int)) * step) % 256).map D.int := by
        unfold rangeD
        rw [List.filterMap_map, List.map_map]
        exact fm_some (fun (i : Nat) => D.int ((one + (0 + (i : Int)) * step) % 256)) _
      rw [e3] at lp3
      refine endsOf_i (q p3 st3 _ (hp3.back u6 (hp3.deal u6.deal).1 (hp3.deal u6.deal).2) (u6.then u3) lp3 (by rw [List.length_map, List.length_range]; omega) fun x hx => ?_)
      obtain ⟨k, _, rfl⟩ := List.mem_map.mp hx
      unfold oct
      omega
  · refine sSeq_t fun T hT => ?_
    walk_at "i"
    subst hT
    walk_at "s"
    refine ⟨by omega, lc_up (n := n) (m := m) (fun _ o => ∃ s, o = some (.int s) ∧ oct s) u2.deal (fun _ _ => trivial) (by rw [rangeD_len, szL]; omega) (fun y hy st7 u7 P N hP hN => ?_) fun p3 ys st3 hp3 hF u3 lp3 => ?_⟩
    · clear hN hy
      walk_at "s"
      refine ⟨n, m, rfl, u7.deal, fun x st8 hx u8 => ?_⟩
      exact hP _ st8 ⟨x, rfl, hx⟩ u8
    · obtain ⟨cs, rfl, hl, hc⟩ := hF.ints
      exact endsOf_i (q p3 st3 cs (hp3.back u2 (hp3.deal u2.deal).1 (hp3.deal u2.deal).2) (u2.trans u3) lp3 (by rw [hl, rangeD_len]; omega) hc)
end L2.DL

namespace L2.DL
open PySem PySem.Spec PyProof.Rows
local macro_rules | `(tactic| walk_at "s") => `(tactic| try simp only [sqAsg_a, sqDrop_a, sqPar_a, sqPar3_a, sqRet_a, sqNext_a, sqSeq_a, sNext_a, sBreak_a, sCont_a, sDrop_a, sRet_a, sRetN_a, sIf_a, sAsg_a, sPar_a, sPar3_a, mVar_a, vAt_a, mC_a, mBin_a, mTest_a, bAt_a, mAnd_a, mOr_a, mNot_a, mYes_a, mAndV_a, mOrV_a, mNotV_a, mIf_a, mNil_a, mCons_a, mTup_a, mLst_a, mCall_a, mCallK_a, mMeth_a, mSl_a, mNoPart_a, iAt_a, mPart_a, mIsi_b, tysO_some, List.any_cons, List.any_nil, Bool.or_false, Bool.false_or, Bool.or_true, Bool.true_or, Int.natCast_pos, gN_a, gTup_a, gCons_a, gNil_a, gSub_a, sFor_a, mLc_a, mDc_a, wSeq_a, sqO_tup, sqO_str, sqO_ref, wRng1_a, wRng2_b, wRng3_b, wEnum_a, enO_tup, enO_ref, mRev_a, revO_ref, List.getD_cons_zero, List.getD_cons_succ, ite_self, List.set_cons_zero, List.set_cons_succ, List.getElem?_cons_zero, List.getElem?_cons_succ, oAdd_int, oAdd_str, oAdd_tup, oAdd_ref, oSub_int, oMul_int, oDiv_int, oMod_int, oPow_int, oLt_int, oLe_int, oGt_int, oGe_int, oIs_nn, oIs_bn, oIs_in, oIs_sn, oIs_tn, oIs_rn, oIs_bb, oIs_nb, oIs_ib, oIs_sb, oIs_tb, oIs_rb, oIsi_int, oIsi_str, oIsi_bool, oIsi_tuple, oIsi_list, oIsi_dict, tyO_some, tyD_non, tyD_bl, tyD_int, tyD_str, tyD_tup, isi_facts, oEq_int, oNe_int, oEq_str, oNe_str, oSl_tup, oSl_str, oSl_ref, oLen_tup, oLen_str, oLen_ref, oAbs_int, oInt_int, oInt_bl, oMax_int, oMin_int, oTuple_tup, oTuple_ref, oList_tup, oList_str, oList_ref, oIx_tupE, oIx_ref, oAppend_ref, oPop_ref, oExtend_tupE, oSet_ref, isL_ref, isS_str, vO_some, ixO_lst, ixO_dicI, ixO_dicS, ixO_rodI, ixO_rodS, lsO_lst, rdO_lst, rdO_rol, lenO_lst, lenO_dic, lenO_rol, addO_lst, setO_lst, setO_dicI, setO_dicS, atI_zero, atI_one, atI_two, atI_end, startE, wipeE, List.map_cons, List.map_nil, List.length_cons, List.length_nil, List.replicate, List.cons_append, List.nil_append, Nat.reduceAdd, Nat.reduceSub, List.replicate_succ, List.replicate_zero, put_same, Nat.zero_le, Int.reduceLT, Int.reduceLE, Nat.reduceLT, Nat.reduceLeDiff, and_true, true_and, Bool.false_eq_true, ↓reduceIte, Bool.not_true, Bool.not_false, decide_true, decide_false, *])
local macro_rules | `(tactic| walk_at "i") => `(tactic| try simp only [sqIf_a, sqAsg_a, sqDrop_a, sqPar_a, sqPar3_a, sqRet_a, sqNext_a, sqSeq_a, sNext_a, sBreak_a, sCont_a, sDrop_a, sRet_a, sRetN_a, sIf_a, sAsg_a, sPar_a, sPar3_a, mVar_a, vAt_a, mC_a, mBin_a, mTest_a, bAt_a, mAnd_a, mOr_a, mNot_a, mYes_a, mAndV_a, mOrV_a, mNotV_a, mIf_a, mNil_a, mCons_a, mTup_a, mLst_a, mCall_a, mCallK_a, mMeth_a, mSl_a, mNoPart_a, iAt_a, mPart_a, mIsi_b, tysO_some, List.any_cons, List.any_nil, Bool.or_false, Bool.false_or, Bool.or_true, Bool.true_or, Int.natCast_pos, gN_a, gTup_a, gCons_a, gNil_a, gSub_a, sFor_a, mLc_a, mDc_a, wSeq_a, sqO_tup, sqO_str, sqO_ref, wRng1_a, wRng2_b, wRng3_b, wEnum_a, enO_tup, enO_ref, mRev_a, revO_ref, List.getD_cons_zero, List.getD_cons_succ, ite_self, List.set_cons_zero, List.set_cons_succ, List.getElem?_cons_zero, List.getElem?_cons_succ, oAdd_int, oAdd_str, oAdd_tup, oAdd_ref, oSub_int, oMul_int, oDiv_int, oMod_int, oPow_int, oLt_int, oLe_int, oGt_int, oGe_int, oIs_nn, oIs_bn, oIs_in, oIs_sn, oIs_tn, oIs_rn, oIs_bb, oIs_nb, oIs_ib, oIs_sb, oIs_tb, oIs_rb, oIsi_int, oIsi_str, oIsi_bool, oIsi_tuple, oIsi_list, oIsi_dict, tyO_some, tyD_non, tyD_bl, tyD_int, tyD_str, tyD_tup, isi_facts, oEq_int, oNe_int, oEq_str, oNe_str, oSl_tup, oSl_str, oSl_ref, oLen_tup, oLen_str, oLen_ref, oAbs_int, oInt_int, oInt_bl, oMax_int, oMin_int, oTuple_tup, oTuple_ref, oList_tup, oList_str, oList_ref, oIx_tupE, oIx_ref, oAppend_ref, oPop_ref, oExtend_tupE, oSet_ref, isL_ref, isS_str, vO_some, ixO_lst, ixO_dicI, ixO_dicS, ixO_rodI, ixO_rodS, lsO_lst, rdO_lst, rdO_rol, lenO_lst, lenO_dic, lenO_rol, addO_lst, setO_lst, setO_dicI, setO_dicS, atI_zero, atI_one, atI_two, atI_end, startE, wipeE, List.map_cons, List.map_nil, List.length_cons, List.length_nil, List.replicate, List.cons_append, List.nil_append, Nat.reduceAdd, Nat.reduceSub, List.replicate_succ, List.replicate_zero, put_same, Nat.zero_le, Int.reduceLT, Int.reduceLE, Nat.reduceLT, Nat.reduceLeDiff, and_true, true_and, Bool.false_eq_true, ↓reduceIte, Bool.not_true, Bool.not_false, decide_true, decide_false, *])
theorem valB_snoc (b : Int) : ∀ (xs : List Int) (x : Int), valB b (xs ++ [x]) = valB b xs + b ^ xs.length * x
  | [], x => by simp [valB]
  | y :: xs, x => by
    rw [List.cons_append, valB, valB_snoc b xs x, valB, List.length_cons, Int.pow_succ, Int.mul_add, Int.mul_comm (b ^ xs.length) b, Int.mul_assoc, Int.add_assoc]
theorem pow128 (k : Nat) : ((128 : Int)) ^ k = ((2 ^ (7 * k) : Nat) : Int) := by
  rw [Nat.pow_mul]
  exact (Int.natCast_pow 128 k).symm
def S_law_number_at : DSp := fun vs st Q => ∃ (a : Addr) (ns : List Int) (i : Int), vs = [.ref a, .int i] ∧ IL st a ns ∧ OctOk ns ∧ ∀ st', Keep st st' → Q (numD (numAt ns i)) st'
/-- _law_number_at(octets, at): 0 octets 1 at 2 number 3 base 4 place -/
def t_law_number_at : MS := sSeq (sPar3 2 3 4 (mCons (mC (.int 0)) (mCons (mC (.int 1)) (mCons (mVar 1) (mNil)))))
    (sSeq (sIf (mTest (mBin oLt (mVar 1) (mC (.int 0)))) (sRet (mC .non)) (sNext))
    (sSeq (sWhile (mAnd (mTest (mBin oLt (mVar 4) (mCall oLen (mCons (mVar 0) (mNil))))) (mTest (mBin oGt (mBin oIx (mVar 0) (mVar 4)) (mC (.int 127))))) (sPar3 2 3 4 (mCons (mBin oAdd (mVar 2) (mBin oMul (mVar 3) (mBin oSub (mBin oIx (mVar 0) (mVar 4)) (mC (.int 128))))) (mCons (mBin oMul (mVar 3) (mC (.int 128))) (mCons (mBin oAdd (mVar 4) (mC (.int 1))) (mNil))))))
    (sSeq (sIf (mOr (mTest (mBin oGe (mVar 4) (mCall oLen (mCons (mVar 0) (mNil))))) (mAnd (mTest (mBin oGt (mVar 4) (mVar 1))) (mTest (mBin oEq (mBin oIx (mVar 0) (mVar 4)) (mC (.int 0)))))) (sRet (mC .non)) (sNext))
    (sRet (mTup (mCons (mBin oAdd (mVar 2) (mBin oMul (mVar 3) (mBin oIx (mVar 0) (mVar 4)))) (mCons (mBin oAdd (mVar 4) (mC (.int 1))) (mNil))))))))
theorem kp_law_number_at : Keeps 2 5 S_law_number_at t_law_number_at := by
  refine ⟨fun ds st Q ⟨a, ns, i, e, _⟩ => by rw [e]; rfl, fun ds st Q ⟨a, ns, i, e, la, ho, q⟩ => ?_⟩
  subst e
  have z2 : 0 + 1 + 1 ≤ sizeLine := by decide
  have h0 := ho.1
  unfold IL at la
  have q1 := q st .refl
  clear q
  unfold t_law_number_at
  by_cases hi : i < 0
  · have e1 : numAt ns i = none := by unfold numAt; rw [if_pos hi]
    rw [e1] at q1
    unfold numD at q1
    walk_at "i"
    exact endsOf_i q1
  · obtain ⟨t, ed, h1, h2⟩ := run_pre (ns.drop i.toNat)
    have hrun : ∀ x t', t = x :: t' → runAt (ns.drop i.toNat) = runAt (ns.drop i.toNat) := fun _ _ _ => rfl
    generalize hr : runAt (ns.drop i.toNat) = r at *
    have hl := congrArg List.length ed
    rw [List.length_drop, List.length_append] at hl
    have hmem : ∀ y ∈ r ++ t, 0 ≤ y ∧ y < 256 := fun y hy => ho.2 y (List.mem_of_mem_drop (i := i.toNat) (by rw [ed]; exact hy))
    have at_r : ∀ k (hk : k < r.length), atI (ns.map D.int) (i + (k : Nat)) = some (.int (r[k])) := fun k hk => by
      rw [show i + ((k : Nat) : Int) = ((i.toNat + k : Nat) : Int) by omega, atI_ofNat, List.getElem?_map, ← List.getElem?_drop, ed, List.getElem?_append_left hk, List.getElem?_eq_getElem hk]
      rfl
    have at_t : ∀ x t', t = x :: t' → atI (ns.map D.int) (i + (r.length : Nat)) = some (.int x) := fun x t' e => by
      rw [show i + ((r.length : Nat) : Int) = ((i.toNat + r.length : Nat) : Int) by omega, atI_ofNat, List.getElem?_map, ← List.getElem?_drop, ed, e, List.getElem?_append_right (by omega)]
      simp
    refine sSeq_t fun T hT => ?_
    walk_at "s"
    subst hT
    refine sSeq_t fun T hT => ?_
    walk_at "i"
    subst hT
    refine sSeq_i (fun env st' => env = [some (.ref a), some (.int i), some (.int (valB 128 (r.map fun y => y - 128))), some (.int ((2 ^ (7 * r.length) : Nat) : Int)), some (.int (i + (r.length : Nat)))] ∧ st' = st) (fun nx hnx => ?_) ?_
    · refine ⟨fun m env st' => ∃ k : Nat, k ≤ r.length ∧ env = [some (.ref a), some (.int i), some (.int (valB 128 ((r.take k).map fun y => y - 128))), some (.int ((2 ^ (7 * k) : Nat) : Int)), some (.int (i + (k : Nat)))] ∧ st' = st ∧ m = r.length - k, ⟨r.length, 0, by omega, by simp [valB], rfl, rfl⟩, ?_⟩
      rintro m env st1 ⟨k, hk, rfl, rfl, rfl⟩
      by_cases hkr : k = r.length
      · have hx := hnx _ _ ⟨rfl, rfl⟩
        clear hnx q1
        subst hkr
        rw [List.take_length]
        cases t with
        | nil =>
          have c : ¬ i + ((r.length : Nat) : Int) < (ns.length : Int) := by
            rw [List.length_nil] at hl
            omega
          clear at_t at_r h2 hrun hr ed
          walk_at "s"
          rw [List.length_map]
          walk_at "s"
        | cons x t =>
          have hx128 := h2 x t rfl
          have a1 := at_t x t rfl
          have c : i + ((r.length : Nat) : Int) < ((ns.map D.int).length : Int) := by
            rw [List.length_cons] at hl
            rw [List.length_map]
            omega
          have c2 : ¬ (127 : Int) < x := by omega
          clear at_t at_r h2 hrun hr ed hx128
          walk_at "s"
      · have hk' : k < r.length := by omega
        have a1 := at_r k hk'
        have hg := List.getElem_mem hk'
        have hb1 := h1 _ hg
        have hb2 := (hmem _ (List.mem_append.mpr (.inl hg))).2
        have hs : r.take (k + 1) = r.take k ++ [r[k]] := take_snoc (List.getElem?_eq_getElem hk')
        generalize r[k] = y at *
        have c : i + ((k : Nat) : Int) < ((ns.map D.int).length : Int) := by
          rw [List.length_map]
          omega
        have c2 : (127 : Int) < y := by omega
        have hbl : ((2 ^ (7 * k) : Nat) : Int).natAbs < 2 ^ (7 * k + 1) := by
          rw [Int.natAbs_natCast]
          exact Nat.pow_lt_pow_right (by omega) (by omega)
        have cm1 : CMulW ((2 ^ (7 * k) : Nat) : Int) (y - 128) := wide_mul hbl (b := 9) (by omega) (by omega) (by omega) (by omega)
        have cm2 : CMulW ((2 ^ (7 * k) : Nat) : Int) 128 := wide_mul hbl (b := 9) (by omega) (by omega) (by omega) (by omega)
        have ev : valB 128 ((r.take (k + 1)).map fun y => y - 128) = valB 128 ((r.take k).map fun y => y - 128) + ((2 ^ (7 * k) : Nat) : Int) * (y - 128) := by
          rw [hs, List.map_append, List.map_singleton, valB_snoc, List.length_map, List.length_take, Nat.min_eq_left hk, pow128]
        have eb : ((2 ^ (7 * (k + 1)) : Nat) : Int) = ((2 ^ (7 * k) : Nat) : Int) * 128 := by
          rw [← pow128, ← pow128, Int.pow_succ]
        have ep : i + ((k + 1 : Nat) : Int) = i + ((k : Nat) : Int) + 1 := by omega
        have goal : ∃ m', m' < r.length - k ∧ ∃ k' : Nat, k' ≤ r.length ∧ [some (D.ref a), some (.int i), some (.int (valB 128 ((r.take k).map fun y => y - 128) + ((2 ^ (7 * k) : Nat) : Int) * (y - 128))), some (.int (((2 ^ (7 * k) : Nat) : Int) * 128)), some (.int (i + ((k : Nat) : Int) + 1))] = [some (D.ref a), some (.int i), some (.int (valB 128 ((r.take k').map fun y => y - 128))), some (.int ((2 ^ (7 * k') : Nat) : Int)), some (.int (i + (k' : Nat)))] ∧ m' = r.length - k' :=
          ⟨r.length - (k + 1), by omega, k + 1, by omega, by rw [ev, eb, ep], rfl⟩
        clear hnx q1 at_t at_r h2 hrun hr ed hs ev eb ep hbl hmem h1 hl
        generalize ((2 ^ (7 * k) : Nat) : Int) = B at *
        generalize valB 128 ((r.take k).map fun y => y - 128) = V at *
        walk_at "s"
    · rintro env st' ⟨rfl, rfl⟩
      cases t with
      | nil =>
        have c : ((ns.map D.int).length : Int) ≤ i + ((r.length : Nat) : Int) := by
          rw [List.length_nil] at hl
          rw [List.length_map]
          omega
        have e1 : numAt ns i = none := by
          unfold numAt numL
          rw [if_neg hi, hr, ed, List.append_nil, List.drop_length]
          rfl
        rw [e1] at q1
        unfold numD at q1
        clear at_t at_r h2 hrun hr ed hl
        walk_at "i"
        exact endsOf_i q1
      | cons x t =>
        have hx128 := h2 x t rfl
        have a1 := at_t x t rfl
        have c : ¬ ((ns.map D.int).length : Int) ≤ i + ((r.length : Nat) : Int) := by
          rw [List.length_cons] at hl
          rw [List.length_map]
          omega
        have hx0 := hmem x (by simp)
        have e1 : numAt ns i = if 0 < r.length ∧ x = 0 then none else some (valB 128 (r.map (fun y => y - 128) ++ [x]), i + ((r.length + 1 : Nat) : Int)) := by
          unfold numAt numL
          rw [if_neg hi, hr, ed, List.drop_left]
          show Option.map _ (if 0 < r.length ∧ x = 0 then none else _) = _
          split <;> rfl
        rw [e1] at q1
        have hrl : r.length ≤ 16000 := by omega
        clear at_t at_r h2 hrun hr ed e1 hmem h1 hl
        by_cases cz : 0 < r.length ∧ x = 0
        · rw [if_pos cz] at q1
          unfold numD at q1
          obtain ⟨c1, rfl⟩ := cz
          have c3 : i < i + ((r.length : Nat) : Int) := by omega
          clear c1
          walk_at "i"
          exact endsOf_i q1
        · rw [if_neg cz, valB_snoc, List.length_map, pow128] at q1
          unfold numD at q1
          have hbl : ((2 ^ (7 * r.length) : Nat) : Int).natAbs < 2 ^ (7 * r.length + 1) := by
            rw [Int.natAbs_natCast]
            exact Nat.pow_lt_pow_right (by omega) (by omega)
          have cm1 : CMulW ((2 ^ (7 * r.length) : Nat) : Int) x := wide_mul hbl (b := 9) (by omega) (by omega) (by omega) (by omega)
          have ep : i + ((r.length + 1 : Nat) : Int) = i + ((r.length : Nat) : Int) + 1 := by omega
          simp only [ep] at q1
          clear hbl ep
          generalize ((2 ^ (7 * r.length) : Nat) : Int) = B at *
          generalize valB 128 (r.map fun y => y - 128) = V at *
          by_cases c1 : 0 < r.length
          · have c3 : i < i + ((r.length : Nat) : Int) := by omega
            have c4 : ¬ x = 0 := fun h => cz ⟨c1, h⟩
            clear cz c1
            walk_at "i"
            exact endsOf_i q1
          · have c3 : ¬ i < i + ((r.length : Nat) : Int) := by omega
            clear cz c1
            walk_at "i"
            exact endsOf_i q1

/-- named lists in a list -/
def LL (st : Sto) (l : Addr) (ls : List (List Int)) : Prop := ∃ as : List Addr, st l = some (.lst (as.map D.ref)) ∧ RL st as ls
theorem LL.keep {st st' : Sto} {l : Addr} {ls : List (List Int)} (h : LL st l ls) (u : Keep st st') : LL st' l ls := by
  obtain ⟨as, h1, h2⟩ := h
  exact ⟨as, u.l h1, h2.keep u⟩
def S_law_frames_in : DSp := fun vs st Q => ∃ (a : Addr) (ns : List Int) (bs : List (List Int)) (p : Int), vs = [.ref a] ∧ IL st a ns ∧ OctOk ns ∧ Frs ns 0 bs p ∧ ∀ l st', Keep st st' → LL st' l bs → Q (.tup [.ref l, .int p]) st'
/-- _law_frames_in(octets): 0 octets 1 bodies 2 place 3 turn 4 told 5 body 6 behind 7 total -/
def t_law_frames_in : MS := sSeq (sPar 1 2 (mCons (mLst (mNil)) (mCons (mC (.int 0)) (mNil))))
    (sSeq (sFor (wRng1 (mBin oAdd (mCall oLen (mCons (mVar 0) (mNil))) (mC (.int 1)))) (gN 3) (sSeq (sAsg (mCall S_law_number_at (mCons (mVar 0) (mCons (mVar 2) (mNil)))) (gN 4))
    (sSeq (sIf (mOr (mTest (mBin oIs (mVar 4) (mC .non))) (mTest (mBin oGt (mBin oAdd (mBin oIx (mVar 4) (mC (.int 0))) (mC (.int 2))) (mBin oSub (mCall oLen (mCons (mVar 0) (mNil))) (mBin oIx (mVar 4) (mC (.int 1))))))) (sRet (mTup (mCons (mVar 1) (mCons (mVar 2) (mNil))))) (sNext))
    (sSeq (sPar 5 6 (mCons (mSl (mVar 0) (mPart (mBin oIx (mVar 4) (mC (.int 1)))) (mPart (mBin oAdd (mBin oIx (mVar 4) (mC (.int 1))) (mBin oIx (mVar 4) (mC (.int 0)))))) (mCons (mBin oAdd (mBin oIx (mVar 4) (mC (.int 1))) (mBin oIx (mVar 4) (mC (.int 0)))) (mNil))))
    (sSeq (sAsg (mCall S_law_sum (mCons (mVar 5) (mNil))) (gN 7))
    (sSeq (sIf (mOr (mTest (mBin oNe (mBin oIx (mVar 0) (mVar 6)) (mBin oMod (mCall oInt (mCons (mVar 7) (mNil))) (mC (.int 256))))) (mTest (mBin oNe (mBin oIx (mVar 0) (mBin oAdd (mVar 6) (mC (.int 1)))) (mBin oDiv (mVar 7) (mC (.int 256)))))) (sRet (mTup (mCons (mVar 1) (mCons (mVar 2) (mNil))))) (sNext))
    (sPar 1 2 (mCons (mBin oAdd (mVar 1) (mLst (mCons (mVar 5) (mNil)))) (mCons (mBin oAdd (mVar 6) (mC (.int 2))) (mNil))))))))))
    (sRet (mTup (mCons (mVar 1) (mCons (mVar 2) (mNil))))))
theorem ints_cut2 {ns : List Int} {b : Int} {x y : Int} (h0 : 0 ≤ b) (hx : atI (ns.map D.int) b = some (.int x)) (hy : atI (ns.map D.int) (b + 1) = some (.int y)) : cutL ns (some b) (some (b + 2)) = [x, y] := by
  rw [show b = ((b.toNat : Nat) : Int) by omega] at hx ⊢
  rw [atI_ofNat, List.getElem?_map] at hx
  rw [show b + 1 = ((b.toNat + 1 : Nat) : Int) by omega, atI_ofNat, List.getElem?_map] at hy
  rw [show ((b.toNat : Nat) : Int) + 2 = ((b.toNat + 2 : Nat) : Int) by omega, cutL_mid]
  obtain ⟨u, hu, e⟩ := Option.map_eq_some_iff.mp hx
  cases e
  obtain ⟨v, hv, e⟩ := Option.map_eq_some_iff.mp hy
  cases e
  obtain ⟨p1, e1⟩ := List.getElem?_eq_some_iff.mp hu
  obtain ⟨p2, e2⟩ := List.getElem?_eq_some_iff.mp hv
  rw [show b.toNat + 2 - b.toNat = 2 by omega, List.drop_eq_getElem_cons p1, List.drop_eq_getElem_cons p2, e1, e2]
  rfl
theorem kp_law_frames_in : Keeps 1 8 S_law_frames_in t_law_frames_in := by
  refine ⟨fun ds st Q ⟨a, ns, bs, p, e, _⟩ => by rw [e]; rfl, fun ds st Q ⟨a, ns, bs, p, e, la, ho, hf, q⟩ => ?_⟩
  subst e
  have z2 : 0 + 1 + 1 ≤ sizeLine := by decide
  have z1 : 0 + 1 ≤ sizeLine := by decide
  have z0 : 0 ≤ sizeLine := by decide
  have h0 := ho.1
  obtain ⟨f1, f2, f3⟩ := hf.facts ho (by omega)
  unfold IL at la
  unfold t_law_frames_in
  refine sSeq_t fun T hT => ?_
  walk_at "s"
  intro l0 hl0
  subst hT
  have la0 := (Keep.put (o := .lst []) hl0).l la
  have u0 := Keep.put (o := .lst []) hl0
  have ll0 : put st l0 (.lst []) l0 = some (.lst []) := put_same
  generalize put st l0 (.lst []) = st0 at *
  rw [sSeq_a]
  walk_at "s"
  rw [List.length_map]
  refine ⟨⟨by omega, by omega⟩, fun k env st' => ∃ (i : Int) (done rest : List (List Int)) (l : Addr) (g3 g4 g5 g6 g7 : Option D), env = [some (.ref a), some (.ref l), some (.int i), g3, g4, g5, g6, g7] ∧ Keep st st' ∧ LL st' l done ∧ Frs ns i rest p ∧ done ++ rest = bs ∧ done.length = k, ⟨0, [], bs, l0, none, none, none, none, none, rfl, u0, ⟨[], ll0, .nil⟩, hf, rfl, rfl⟩, fun _ _ _ _ _ => trivial, ?_, ?_⟩
  · rintro k x env st1 hx ⟨i, done, rest, l, g3, g4, g5, g6, g7, rfl, u, hL, hr, he, rfl⟩
    obtain ⟨hk, rfl⟩ := rangeD_get hx
    have la1 := u.l la
    clear la0 la ll0 u0 hl0 hx
    rw [gN_a]
    refine sSeq_t fun T hT => ?_
    walk_at "s"
    refine ⟨a, ns, i, rfl, la1, ho, fun st2 u2 => ?_⟩
    have la2 := u2.l la1
    have hL2 := hL.keep u2
    have u12 := u.trans u2
    clear la1 hL u2 u
    subst hT
    have stop : Frs ns i rest p → frameAt ns i = none → i = p ∧ rest = [] := fun h hn => by
      cases h with
      | stop _ => exact ⟨rfl, rfl⟩
      | more h _ => rw [hn] at h; cases h
    have fin : frameAt ns i = none → (endsOf Q).rt (.tup [.ref l, .int i]) st2 := fun hn => by
      obtain ⟨rfl, rfl⟩ := stop hr hn
      rw [List.append_nil] at he
      subst he
      exact endsOf_i (q l st2 u12 hL2)
    cases hn : numAt ns i with
    | none =>
      have fin := fin (by unfold frameAt; rw [hn])
      clear q hn stop hr
      unfold numD
      walk_at "i"
    | some pr =>
      obtain ⟨v, e⟩ := pr
      obtain ⟨h1, h2, h3, h4⟩ := num_facts ho hn
      unfold numD
      by_cases c : (ns.length : Int) - e < v + 2
      · have fin := fin (by unfold frameAt; rw [hn]; exact if_pos c)
        clear q hn stop hr
        walk_at "i"
        rw [List.length_map]
        walk_at "i"
      · have c' : ¬ ((ns.map D.int).length : Int) - e < v + 2 := by rw [List.length_map]; exact c
        have hfa : frameAt ns i = if cutL ns (some (v + e)) (some (v + e + 2)) = pairS (cutL ns (some e) (some (v + e))) then some (cutL ns (some e) (some (v + e)), v + e + 2) else none := by
          unfold frameAt
          rw [hn]
          exact if_neg c
        have hc := ho.cut (some e) (some (v + e))
        have e1 := cutL_ints ns (some e) (some (v + e))
        rw [Int.add_comm v e] at hfa hc e1
        generalize cutL ns (some e) (some (e + v)) = b at *
        have g1 : (e + v).toNat < ns.length := by omega
        have g2 : (e + v).toNat + 1 < ns.length := by omega
        have a1 : atI (ns.map D.int) (e + v) = some (.int (ns[(e + v).toNat])) := by
          have : e + v = (((e + v).toNat : Nat) : Int) := by omega
          conv => lhs; rw [this]
          rw [atI_ofNat, List.getElem?_map, List.getElem?_eq_getElem g1]; rfl
        have a2 : atI (ns.map D.int) (e + v + 1) = some (.int (ns[(e + v).toNat + 1])) := by
          have : e + v + 1 = (((e + v).toNat + 1 : Nat) : Int) := by omega
          conv => lhs; rw [this]
          rw [atI_ofNat, List.getElem?_map, List.getElem?_eq_getElem g2]; rfl
        have ec := ints_cut2 (by omega) a1 a2
        rw [ec] at hfa
        generalize ns[(e + v).toNat] = x at *
        generalize ns[(e + v).toNat + 1] = y at *
        clear ec g1 g2 hn
        refine sSeq_t fun T hT => ?_
        walk_at "i"
        subst hT
        refine sSeq_t fun T hT => ?_
        walk_at "s"
        intro p5 hp5
        have la3 := (Keep.put (o := .lst (b.map D.int)) hp5).l la2
        have hL3 := hL2.keep (Keep.put (o := .lst (b.map D.int)) hp5)
        have u13 := u12.new (o := .lst (b.map D.int)) hp5
        have l5 : put st2 p5 (.lst (b.map D.int)) p5 = some (.lst (b.map D.int)) := put_same
        have fin : frameAt ns i = none → (endsOf Q).rt (.tup [.ref l, .int i]) (put st2 p5 (.lst (b.map D.int))) := fun hn => by
          obtain ⟨rfl, rfl⟩ := stop hr hn
          rw [List.append_nil] at he
          subst he
          exact endsOf_i (q l _ u13 hL3)
        generalize put st2 p5 (.lst (b.map D.int)) = st3 at *
        clear la2 hL2 u12 hp5 e1 c c'
        subst hT
        refine sSeq_t fun T hT => ?_
        walk_at "s"
        refine ⟨p5, b, rfl, l5, hc, fun st4 u4 => ?_⟩
        have la4 := u4.l la3
        have hL4 := hL3.keep u4
        have u14 := u13.trans u4
        have l54 : st4 p5 = some (.lst (b.map D.int)) := u4.l l5
        have fin : frameAt ns i = none → (endsOf Q).rt (.tup [.ref l, .int i]) st4 := fun hn => by
          obtain ⟨rfl, rfl⟩ := stop hr hn
          rw [List.append_nil] at he
          subst he
          exact endsOf_i (q l _ u14 hL4)
        clear la3 hL3 u13 u4 l5 stop q
        subst hT
        have cd : CDivW (sumO b) 256 := by
          have := sumO_bd b
          exact wide_div (b := 9) (by omega) (by omega) (by omega) (by omega)
        have hp : [x, y] = pairS b ↔ x = sumO b % 256 ∧ y = sumO b / 256 := by
          unfold pairS
          simp
        by_cases hx : x = sumO b % 256
        · by_cases hy : y = sumO b / 256
          · rw [if_pos (hp.mpr ⟨hx, hy⟩)] at hfa
            clear fin hp
            cases hr with
            | stop h => rw [h] at hfa; cases hfa
            | more h hm =>
              rw [hfa] at h
              cases h
              subst hx hy
              refine sSeq_t fun T hT => ?_
              walk_at "i"
              subst hT
              walk_at "s"
              intro p6 hp6
              obtain ⟨as, ll, hrl⟩ := hL4
              have hlen := hrl.len
              have hbl := congrArg List.length he
              rw [List.length_append] at hbl
              have ll6 := (Keep.put (o := .lst [.ref p5]) hp6).l ll
              have hr6 := hrl.keep (Keep.put (o := .lst [.ref p5]) hp6)
              have l56 := (Keep.put (o := .lst [.ref p5]) hp6).l l54
              have u16 := u14.new (o := .lst [.ref p5]) hp6
              have l6 : put st4 p6 (.lst [.ref p5]) p6 = some (.lst [.ref p5]) := put_same
              generalize put st4 p6 (.lst [.ref p5]) = st6 at *
              have hs : (as.map D.ref).length + (0 + 1) ≤ sizeLine := by rw [List.length_map, szL]; omega
              clear la4 l54 ll hrl hp6 u14 a1 a2 hfa
              walk_at "s"
              intro p7 hp7
              refine ⟨_, done ++ [b], _, p7, _, _, _, _, _, rfl, u16.new hp7, ⟨as ++ [p5], by rw [put_same, List.map_append]; rfl, (hr6.keep (Keep.put hp7)).snoc ?_⟩, ?_, by rw [List.append_assoc]; exact he, by rw [List.length_append]; rfl⟩
              · exact (Keep.put hp7).l l56
              · first | exact hm | (rw [show v + e + 2 = e + v + 2 by omega]; exact hm)
          · rw [if_neg (fun c => hy (hp.mp c).2)] at hfa
            have fin := fin hfa
            clear hp hfa hr he
            subst hx
            walk_at "i"
        · rw [if_neg (fun c => hx (hp.mp c).1)] at hfa
          have fin := fin hfa
          clear hp hfa hr he
          walk_at "i"
  · rintro env st' ⟨i, done, rest, l, g3, g4, g5, g6, g7, rfl, u, hL, hr, he, hd⟩
    rw [rangeD_len] at hd
    have := congrArg List.length he
    rw [List.length_append] at this
    omega

open Classical in
noncomputable def tupOf (st : Sto) : D → Option D
  | .ref a => match st a with
    | some (.lst xs) => some (.tup xs)
    | _ => none
  | _ => none
theorem tupOf_rows {st : Sto} {as : List Addr} {ls : List (List Int)} (h : RL st as ls) : (as.map D.ref).filterMap (tupOf st) = rowsT ls := by
  unfold RL at h
  induction h with
  | nil => rfl
  | @cons x y xs ys a _ ih =>
    have e : tupOf st (.ref x) = some (.tup (y.map D.int)) := by
      unfold tupOf
      unfold IL at a
      simp only [a]
    rw [List.map_cons, List.filterMap_cons_some e, ih]
    rfl
def S_law_due : DSp := fun vs st Q => ∃ (a : Addr) (ns : List Int) (bs : List (List Int)) (p : Int), vs = [.ref a] ∧ IL st a ns ∧ OctOk ns ∧ Frs ns 0 bs p ∧ ∀ st', Keep st st' → Q (dueD bs p) st'
/-- _law_due(octets): 0 octets 1 bodies 2 place 3 body -/
def t_law_due : MS := sSeq (sAsg (mCall S_law_frames_in (mCons (mVar 0) (mNil))) (gTup 2 (gCons (gN 1) (gCons (gN 2) (gNil)))))
    (sRet (mTup (mCons (mCall oTuple (mCons (mLc (wSeq (mVar 1)) (gN 3) (mYes) (mCall oTuple (mCons (mVar 3) (mNil))) [3]) (mNil))) (mCons (mVar 2) (mNil)))))
theorem RL.mem {st : Sto} {as : List Addr} {ls : List (List Int)} (h : RL st as ls) {y : D} (hy : y ∈ as.map D.ref) : ∃ a x, y = .ref a ∧ x ∈ ls ∧ IL st a x := by
  obtain ⟨a, ha, rfl⟩ := List.mem_map.mp hy
  obtain ⟨k, hk⟩ := List.getElem?_of_mem ha
  obtain ⟨x, hx, r⟩ := h.get hk
  exact ⟨a, x, rfl, List.mem_of_getElem? hx, r⟩
theorem kp_law_due : Keeps 1 4 S_law_due t_law_due := by
  refine ⟨fun ds st Q ⟨a, ns, bs, p, e, _⟩ => by rw [e]; rfl, fun ds st Q ⟨a, ns, bs, p, e, la, ho, hf, q⟩ => ?_⟩
  subst e
  have z2 : 0 + 1 + 1 ≤ sizeLine := by decide
  obtain ⟨f1, f2, f3⟩ := hf.facts ho (by omega)
  have h0 := ho.1
  unfold t_law_due
  refine sSeq_t fun T hT => ?_
  walk_at "s"
  refine ⟨a, ns, bs, p, rfl, la, ho, hf, fun l st1 u1 hL => ?_⟩
  walk_at "s"
  subst hT
  obtain ⟨as, ll, hr⟩ := hL
  have hlen := hr.len
  walk_at "s"
  refine lc_keep (tupOf st1) (fun st' u => by show rdL (st' l) = _; rw [u.l ll]; rfl) (by rw [List.length_map, szL]; omega) (fun y hy st7 u7 P N hP hN => ?_) fun p3 st3 hp3 u3 lp3 => ?_
  · obtain ⟨b, x, rfl, hx, lb⟩ := hr.mem hy
    have lb7 := u7.l lb
    have h1 := hP (.tup (x.map D.int)) st7 (by unfold tupOf; unfold IL at lb; simp only [lb]) .refl
    clear hP hN ll lb hr
    walk_at "s"
  · rw [tupOf_rows hr] at lp3
    clear ll
    walk_at "s"
    exact endsOf_i (q _ (u1.trans u3))

def S_law_bent : DSp := fun vs st Q => ∃ (n m a : Addr) (ns : List Int), vs = [.ref n, .ref a] ∧ Deal st n m ∧ a ≠ n ∧ a ≠ m ∧ IL st a ns ∧ 0 < ns.length ∧ ns.length ≤ 15000 ∧ (∀ x ∈ ns, oct x) ∧ ∀ p st' ms, Nf st p → Up n m st st' → IL st' p ms → OctOk ms → Q (.ref p) st'
/-- _law_bent(deal, octets): 0 deal 1 octets 2 at 3 sort -/
def t_law_bent : MS := sSeq (sIf (mTest (mBin oEq (mCall oLen (mCons (mVar 1) (mNil))) (mC (.int 0)))) (sRet (mVar 1)) (sNext))
    (sSeq (sPar 2 3 (mCons (mCall S_law_any (mCons (mVar 0) (mCons (mCall oLen (mCons (mVar 1) (mNil))) (mNil)))) (mCons (mCall S_law_any (mCons (mVar 0) (mCons (mC (.int 4)) (mNil)))) (mNil))))
    (sSeq (sIf (mTest (mBin oEq (mVar 3) (mC (.int 0)))) (sRet (mBin oAdd (mSl (mVar 1) (mNoPart) (mPart (mVar 2))) (mSl (mVar 1) (mPart (mBin oAdd (mVar 2) (mC (.int 1)))) (mNoPart)))) (sNext))
    (sSeq (sIf (mTest (mBin oEq (mVar 3) (mC (.int 1)))) (sRet (mBin oAdd (mBin oAdd (mSl (mVar 1) (mNoPart) (mPart (mVar 2))) (mLst (mCons (mCall S_law_octet (mCons (mVar 0) (mNil))) (mNil)))) (mSl (mVar 1) (mPart (mVar 2)) (mNoPart)))) (sNext))
    (sRet (mBin oAdd (mBin oAdd (mSl (mVar 1) (mNoPart) (mPart (mVar 2))) (mLst (mCons (mBin oMod (mCall oInt (mCons (mBin oAdd (mBin oIx (mVar 1) (mVar 2)) (mCall S_law_of (mCons (mVar 0) (mCons (mLst (mCons (mC (.int 1)) (mCons (mC (.int 128)) (mCons (mC (.int 255)) (mCons (mBin oAdd (mC (.int 1)) (mCall S_law_any (mCons (mVar 0) (mCons (mC (.int 255)) (mNil))))) (mNil)))))) (mNil))))) (mNil))) (mC (.int 256))) (mNil)))) (mSl (mVar 1) (mPart (mBin oAdd (mVar 2) (mC (.int 1)))) (mNoPart)))))))
theorem kp_law_bent : Keeps 2 4 S_law_bent t_law_bent := by
  refine ⟨fun ds st Q ⟨n, m, a, ns, e, _⟩ => by rw [e]; rfl, fun ds st Q ⟨n, m, a, ns, e, hd, an, am, la, l0, l1, hb, q⟩ => ?_⟩
  subst e
  have z4 : 0 + 1 + 1 + 1 + 1 ≤ sizeLine := by decide
  have z1 : 0 + 1 ≤ sizeLine := by decide
  unfold IL at la
  have c0 : ¬ ((ns.map D.int).length : Int) = 0 := by rw [List.length_map]; omega
  unfold t_law_bent
  refine sSeq_t fun T hT => ?_
  walk_at "i"
  subst hT
  refine sSeq_t fun T hT => ?_
  walk_at "s"
  clear c0
  rw [List.length_map]
  refine ⟨n, m, ns.length, rfl, hd, by omega, by omega, fun i st1 i0 i1 u1 => ?_⟩
  have la1 := u1.l an am la
  refine ⟨n, m, 4, rfl, u1.deal, by omega, by omega, fun s st2 s0 s1 u2 => ?_⟩
  have la2 := u2.l an am la1
  have u3 := u1.trans u2
  clear la la1 u1 u2 hd
  subst hT
  obtain ⟨j, rfl⟩ : ∃ j : Nat, i = j := ⟨i.toNat, by omega⟩
  have hj : j < ns.length := by omega
  have a1 := getD_map_int hj
  have hm1 : ns.getD j 0 ∈ ns := by
    rw [List.getD_eq_getElem?_getD, List.getElem?_eq_getElem hj]
    exact List.getElem_mem ..
  have hb1 := hb _ hm1
  have ct : cutL (ns.map D.int) none (some (j : Int)) = (ns.take j).map D.int := by rw [cutL_ints, cutL_to]
  have cf : cutL (ns.map D.int) (some (j : Int)) none = (ns.drop j).map D.int := by rw [cutL_ints, cutL_from]
  have cf1 : cutL (ns.map D.int) (some ((j : Int) + 1)) none = (ns.drop (j + 1)).map D.int := by rw [cutL_ints, show (j : Int) + 1 = ((j + 1 : Nat) : Int) by omega, cutL_from]
  have ht : ∀ x ∈ ns.take j, oct x := fun x hx => hb x (List.mem_of_mem_take hx)
  have hdp : ∀ k, ∀ x ∈ ns.drop k, oct x := fun k x hx => hb x (List.mem_of_mem_drop hx)
  have lt : (ns.take j).length = j := by rw [List.length_take]; omega
  have ld : ∀ k, (ns.drop k).length = ns.length - k := fun k => List.length_drop
  generalize ns.getD j 0 = w at *
  clear hm1
  by_cases hs0 : s = 0
  · refine sSeq_t fun T hT => ?_
    walk_at "i"
    clear hT
    intro p1 hp1
    have l1' := (put_same (st := st2) (a := p1) (o := .lst ((ns.take j).map D.int)))
    have la3 := (Keep.put (o := .lst ((ns.take j).map D.int)) hp1).l la2
    have u4 := u3.then (Keep.put (o := .lst ((ns.take j).map D.int)) hp1)
    generalize put st2 p1 (.lst ((ns.take j).map D.int)) = st3 at *
    clear la2 u3 hp1
    walk_at "s"
    intro p2 hp2
    have l2' := (put_same (st := st3) (a := p2) (o := .lst ((ns.drop (j + 1)).map D.int)))
    have l3' := (Keep.put (o := .lst ((ns.drop (j + 1)).map D.int)) hp2).l l1'
    have u5 := u4.then (Keep.put (o := .lst ((ns.drop (j + 1)).map D.int)) hp2)
    generalize put st3 p2 (.lst ((ns.drop (j + 1)).map D.int)) = st4 at *
    clear la3 u4 hp2 l1'
    have hs : ((ns.take j).map D.int).length + ((ns.drop (j + 1)).map D.int).length ≤ sizeLine := by rw [List.length_map, List.length_map, lt, ld, szL]; omega
    walk_at "s"
    intro p3 hp3
    refine endsOf_i (q p3 _ (ns.take j ++ ns.drop (j + 1)) (hp3.back u5 (hp3.deal u5.deal).1 (hp3.deal u5.deal).2) (u5.then (Keep.put hp3)) (by unfold IL; rw [put_same, List.map_append]) ⟨by rw [List.length_append, lt, ld]; omega, fun x hx => ?_⟩)
    rcases List.mem_append.mp hx with hx | hx
    · exact ht x hx
    · exact hdp _ x hx
  · refine sSeq_t fun T hT => ?_
    walk_at "i"
    subst hT
    by_cases hs1 : s = 1
    · refine sSeq_t fun T hT => ?_
      walk_at "i"
      clear hT
      intro p1 hp1
      have l1' := (put_same (st := st2) (a := p1) (o := .lst ((ns.take j).map D.int)))
      have la3 := (Keep.put (o := .lst ((ns.take j).map D.int)) hp1).l la2
      have u4 := u3.then (Keep.put (o := .lst ((ns.take j).map D.int)) hp1)
      have hd1 := hp1.deal u3.deal
      generalize put st2 p1 (.lst ((ns.take j).map D.int)) = st3 at *
      clear la2 u3 hp1
      refine ⟨n, m, rfl, u4.deal, fun x st4 hx u5 => ?_⟩
      have la4 := u5.l an am la3
      have l2' := u5.l hd1.1 hd1.2 l1'
      have u6 := u4.trans u5
      clear la3 l1' u4 u5 hd1
      walk_at "s"
      intro p2 hp2
      have l3' := (put_same (st := st4) (a := p2) (o := .lst [D.int x]))
      have l4' := (Keep.put (o := .lst [D.int x]) hp2).l l2'
      have la5 := (Keep.put (o := .lst [D.int x]) hp2).l la4
      have u7 := u6.then (Keep.put (o := .lst [D.int x]) hp2)
      generalize put st4 p2 (.lst [D.int x]) = st5 at *
      clear la4 u6 hp2 l2'
      have hsz : ((ns.take j).map D.int).length + (0 + 1) ≤ sizeLine := by rw [List.length_map, lt, szL]; omega
      walk_at "s"
      intro p3 hp3
      have l5' := (put_same (st := st5) (a := p3) (o := .lst ((ns.take j).map D.int ++ [D.int x])))
      have la6 := (Keep.put (o := .lst ((ns.take j).map D.int ++ [D.int x])) hp3).l la5
      have u8 := u7.then (Keep.put (o := .lst ((ns.take j).map D.int ++ [D.int x])) hp3)
      generalize put st5 p3 (.lst ((ns.take j).map D.int ++ [D.int x])) = st6 at *
      clear la5 u7 hp3 l3' l4'
      walk_at "s"
      intro p4 hp4
      have l6' := (put_same (st := st6) (a := p4) (o := .lst ((ns.drop j).map D.int)))
      have l7' := (Keep.put (o := .lst ((ns.drop j).map D.int)) hp4).l l5'
      have u9 := u8.then (Keep.put (o := .lst ((ns.drop j).map D.int)) hp4)
      generalize put st6 p4 (.lst ((ns.drop j).map D.int)) = st7 at *
      clear la6 u8 hp4 l5'
      have hsz2 : ((ns.take j).map D.int ++ [D.int x]).length + ((ns.drop j).map D.int).length ≤ sizeLine := by rw [List.length_append, List.length_map, List.length_map, lt, ld, szL, List.length_singleton]; omega
      walk_at "s"
      intro p5 hp5
      refine endsOf_i (q p5 _ (ns.take j ++ x :: ns.drop j) (hp5.back u9 (hp5.deal u9.deal).1 (hp5.deal u9.deal).2) (u9.then (Keep.put hp5)) (by unfold IL; rw [put_same, List.map_append, List.map_cons]; simp) ⟨by rw [List.length_append, List.length_cons, lt, ld]; omega, fun z hz => ?_⟩)
      rcases List.mem_append.mp hz with hz | hz
      · exact ht z hz
      · rcases List.mem_cons.mp hz with rfl | hz
        · exact hx
        · exact hdp _ z hz
    · refine sSeq_t fun T hT => ?_
      walk_at "i"
      subst hT
      walk_at "s"
      intro p1 hp1
      have l1' := (put_same (st := st2) (a := p1) (o := .lst ((ns.take j).map D.int)))
      have la3 := (Keep.put (o := .lst ((ns.take j).map D.int)) hp1).l la2
      have u4 := u3.then (Keep.put (o := .lst ((ns.take j).map D.int)) hp1)
      have hd1 := hp1.deal u3.deal
      generalize put st2 p1 (.lst ((ns.take j).map D.int)) = st3 at *
      clear la2 u3 hp1
      walk_at "s"
      refine ⟨n, m, 255, rfl, u4.deal, by omega, by omega, fun y st4 y0 y1 u5 => ?_⟩
      have la4 := u5.l an am la3
      have l2' := u5.l hd1.1 hd1.2 l1'
      have u6 := u4.trans u5
      clear la3 l1' u4 u5
      walk_at "s"
      intro p2 hp2
      have hd2 := hp2.deal u6.deal
      have l3' := (put_same (st := st4) (a := p2) (o := .lst [.int 1, .int 128, .int 255, .int (1 + y)]))
      have l4' := (Keep.put (o := .lst [.int 1, .int 128, .int 255, .int (1 + y)]) hp2).l l2'
      have la5 := (Keep.put (o := .lst [.int 1, .int 128, .int 255, .int (1 + y)]) hp2).l la4
      have u7 := u6.then (Keep.put (o := .lst [.int 1, .int 128, .int 255, .int (1 + y)]) hp2)
      generalize put st4 p2 (.lst [.int 1, .int 128, .int 255, .int (1 + y)]) = st5 at *
      clear la4 u6 hp2 l2'
      refine ⟨n, m, .ref p2, _, rfl, u7.deal, ⟨hd2.1, hd2.2, l3'⟩, by simp, by simp, fun d st6 hdm u8 => ?_⟩
      obtain ⟨dv, rfl⟩ : ∃ dv : Int, d = .int dv := by
        simp only [List.mem_cons, List.not_mem_nil, or_false] at hdm
        rcases hdm with rfl | rfl | rfl | rfl <;> exact ⟨_, rfl⟩
      have la6 := u8.l an am la5
      have l5' := u8.l hd1.1 hd1.2 l4'
      have u9 := u7.trans u8
      clear la5 u7 u8 l3' l4' hd1 hd2 hdm
      have hx : oct ((w + dv) % 256) := by unfold oct; omega
      walk_at "s"
      intro p3 hp3
      generalize (w + dv) % 256 = x at *
      have l6' := (put_same (st := st6) (a := p3) (o := .lst [D.int x]))
      have l7' := (Keep.put (o := .lst [D.int x]) hp3).l l5'
      have la7 := (Keep.put (o := .lst [D.int x]) hp3).l la6
      have u10 := u9.then (Keep.put (o := .lst [D.int x]) hp3)
      generalize put st6 p3 (.lst [D.int x]) = st7 at *
      clear la6 u9 hp3 l5'
      have hsz : ((ns.take j).map D.int).length + (0 + 1) ≤ sizeLine := by rw [List.length_map, lt, szL]; omega
      walk_at "s"
      intro p4 hp4
      have l8' := (put_same (st := st7) (a := p4) (o := .lst ((ns.take j).map D.int ++ [D.int x])))
      have la8 := (Keep.put (o := .lst ((ns.take j).map D.int ++ [D.int x])) hp4).l la7
      have u11 := u10.then (Keep.put (o := .lst ((ns.take j).map D.int ++ [D.int x])) hp4)
      generalize put st7 p4 (.lst ((ns.take j).map D.int ++ [D.int x])) = st8 at *
      clear la7 u10 hp4 l6' l7'
      walk_at "s"
      intro p5 hp5
      have l9' := (put_same (st := st8) (a := p5) (o := .lst ((ns.drop (j + 1)).map D.int)))
      have l10' := (Keep.put (o := .lst ((ns.drop (j + 1)).map D.int)) hp5).l l8'
      have u12 := u11.then (Keep.put (o := .lst ((ns.drop (j + 1)).map D.int)) hp5)
      generalize put st8 p5 (.lst ((ns.drop (j + 1)).map D.int)) = st9 at *
      clear la8 u11 hp5 l8'
      have hsz2 : ((ns.take j).map D.int ++ [D.int x]).length + ((ns.drop (j + 1)).map D.int).length ≤ sizeLine := by rw [List.length_append, List.length_map, List.length_map, lt, ld, szL, List.length_singleton]; omega
      walk_at "s"
      intro p6 hp6
      refine endsOf_i (q p6 _ (ns.take j ++ x :: ns.drop (j + 1)) (hp6.back u12 (hp6.deal u12.deal).1 (hp6.deal u12.deal).2) (u12.then (Keep.put hp6)) (by unfold IL; rw [put_same, List.map_append, List.map_cons]; simp) ⟨by rw [List.length_append, List.length_cons, lt, ld]; omega, fun z hz => ?_⟩)
      rcases List.mem_append.mp hz with hz | hz
      · exact ht z hz
      · rcases List.mem_cons.mp hz with rfl | hz
        · exact hx
        · exact hdp _ z hz
end L2.DL

namespace L2.DL
open PySem PySem.Spec PyProof.Rows
local macro_rules | `(tactic| walk_at "s") => `(tactic| try simp only [sqAsg_a, sqDrop_a, sqPar_a, sqPar3_a, sqRet_a, sqNext_a, sqSeq_a, sNext_a, sBreak_a, sCont_a, sDrop_a, sRet_a, sRetN_a, sIf_a, sAsg_a, sPar_a, sPar3_a, mVar_a, vAt_a, mC_a, mBin_a, mTest_a, bAt_a, mAnd_a, mOr_a, mNot_a, mYes_a, mAndV_a, mOrV_a, mNotV_a, mIf_a, mNil_a, mCons_a, mTup_a, mLst_a, mCall_a, mCallK_a, mMeth_a, mSl_a, mNoPart_a, iAt_a, mPart_a, mIsi_b, tysO_some, List.any_cons, List.any_nil, Bool.or_false, Bool.false_or, Bool.or_true, Bool.true_or, Int.natCast_pos, gN_a, gTup_a, gCons_a, gNil_a, gSub_a, sFor_a, mLc_a, mDc_a, wSeq_a, sqO_tup, sqO_str, sqO_ref, wRng1_a, wRng2_b, wRng3_b, wEnum_a, enO_tup, enO_ref, mRev_a, revO_ref, List.getD_cons_zero, List.getD_cons_succ, ite_self, List.set_cons_zero, List.set_cons_succ, List.getElem?_cons_zero, List.getElem?_cons_succ, oAdd_int, oAdd_str, oAdd_tup, oAdd_ref, oSub_int, oMul_int, oDiv_int, oMod_int, oPow_int, oLt_int, oLe_int, oGt_int, oGe_int, oIs_nn, oIs_bn, oIs_in, oIs_sn, oIs_tn, oIs_rn, oIs_bb, oIs_nb, oIs_ib, oIs_sb, oIs_tb, oIs_rb, oIsi_int, oIsi_str, oIsi_bool, oIsi_tuple, oIsi_list, oIsi_dict, tyO_some, tyD_non, tyD_bl, tyD_int, tyD_str, tyD_tup, isi_facts, oEq_int, oNe_int, oEq_str, oNe_str, oSl_tup, oSl_str, oSl_ref, oLen_tup, oLen_str, oLen_ref, oAbs_int, oInt_int, oInt_bl, oMax_int, oMin_int, oTuple_tup, oTuple_ref, oList_tup, oList_str, oList_ref, oIx_tupE, oIx_ref, oAppend_ref, oPop_ref, oExtend_tupE, oSet_ref, isL_ref, isS_str, vO_some, ixO_lst, ixO_dicI, ixO_dicS, ixO_rodI, ixO_rodS, lsO_lst, rdO_lst, rdO_rol, lenO_lst, lenO_dic, lenO_rol, addO_lst, setO_lst, setO_dicI, setO_dicS, atI_zero, atI_one, atI_two, atI_end, startE, wipeE, List.map_cons, List.map_nil, List.length_cons, List.length_nil, List.replicate, List.cons_append, List.nil_append, Nat.reduceAdd, Nat.reduceSub, List.replicate_succ, List.replicate_zero, put_same, Nat.zero_le, Int.reduceLT, Int.reduceLE, Nat.reduceLT, Nat.reduceLeDiff, and_true, true_and, Bool.false_eq_true, ↓reduceIte, Bool.not_true, Bool.not_false, decide_true, decide_false, *])
local macro_rules | `(tactic| walk_at "i") => `(tactic| try simp only [sqIf_a, sqAsg_a, sqDrop_a, sqPar_a, sqPar3_a, sqRet_a, sqNext_a, sqSeq_a, sNext_a, sBreak_a, sCont_a, sDrop_a, sRet_a, sRetN_a, sIf_a, sAsg_a, sPar_a, sPar3_a, mVar_a, vAt_a, mC_a, mBin_a, mTest_a, bAt_a, mAnd_a, mOr_a, mNot_a, mYes_a, mAndV_a, mOrV_a, mNotV_a, mIf_a, mNil_a, mCons_a, mTup_a, mLst_a, mCall_a, mCallK_a, mMeth_a, mSl_a, mNoPart_a, iAt_a, mPart_a, mIsi_b, tysO_some, List.any_cons, List.any_nil, Bool.or_false, Bool.false_or, Bool.or_true, Bool.true_or, Int.natCast_pos, gN_a, gTup_a, gCons_a, gNil_a, gSub_a, sFor_a, mLc_a, mDc_a, wSeq_a, sqO_tup, sqO_str, sqO_ref, wRng1_a, wRng2_b, wRng3_b, wEnum_a, enO_tup, enO_ref, mRev_a, revO_ref, List.getD_cons_zero, List.getD_cons_succ, ite_self, List.set_cons_zero, List.set_cons_succ, List.getElem?_cons_zero, List.getElem?_cons_succ, oAdd_int, oAdd_str, oAdd_tup, oAdd_ref, oSub_int, oMul_int, oDiv_int, oMod_int, oPow_int, oLt_int, oLe_int, oGt_int, oGe_int, oIs_nn, oIs_bn, oIs_in, oIs_sn, oIs_tn, oIs_rn, oIs_bb, oIs_nb, oIs_ib, oIs_sb, oIs_tb, oIs_rb, oIsi_int, oIsi_str, oIsi_bool, oIsi_tuple, oIsi_list, oIsi_dict, tyO_some, tyD_non, tyD_bl, tyD_int, tyD_str, tyD_tup, isi_facts, oEq_int, oNe_int, oEq_str, oNe_str, oSl_tup, oSl_str, oSl_ref, oLen_tup, oLen_str, oLen_ref, oAbs_int, oInt_int, oInt_bl, oMax_int, oMin_int, oTuple_tup, oTuple_ref, oList_tup, oList_str, oList_ref, oIx_tupE, oIx_ref, oAppend_ref, oPop_ref, oExtend_tupE, oSet_ref, isL_ref, isS_str, vO_some, ixO_lst, ixO_dicI, ixO_dicS, ixO_rodI, ixO_rodS, lsO_lst, rdO_lst, rdO_rol, lenO_lst, lenO_dic, lenO_rol, addO_lst, setO_lst, setO_dicI, setO_dicS, atI_zero, atI_one, atI_two, atI_end, startE, wipeE, List.map_cons, List.map_nil, List.length_cons, List.length_nil, List.replicate, List.cons_append, List.nil_append, Nat.reduceAdd, Nat.reduceSub, List.replicate_succ, List.replicate_zero, put_same, Nat.zero_le, Int.reduceLT, Int.reduceLE, Nat.reduceLT, Nat.reduceLeDiff, and_true, true_and, Bool.false_eq_true, ↓reduceIte, Bool.not_true, Bool.not_false, decide_true, decide_false, *])
/-! ### frames: plain -/
theorem numAt_pre (pre l : List Int) : numAt (pre ++ l) (pre.length : Int) = (numL l).map fun p => (p.1, (pre.length : Int) + p.2) := by
  unfold numAt
  rw [if_neg (by omega), Int.toNat_natCast, List.drop_left]
theorem frameAt_whole (pre b t : List Int) : frameAt (pre ++ (frameL b ++ t)) (pre.length : Int) = some (b, ((pre.length + (frameL b).length : Nat) : Int)) := by
  have e0 : frameL b ++ t = enc b.length ++ (b ++ (pairS b ++ t)) := by unfold frameL; simp
  have en : numAt (pre ++ (frameL b ++ t)) (pre.length : Int) = some ((b.length : Int), (pre.length : Int) + ((enc b.length).length : Nat)) := by
    rw [numAt_pre, e0, numL_enc]
    rfl
  have hl : (pre ++ (frameL b ++ t)).length = pre.length + ((enc b.length).length + (b.length + (2 + t.length))) := by
    rw [e0]
    simp [pairS]
    omega
  have c1 : cutL (pre ++ (frameL b ++ t)) (some ((pre.length : Int) + ((enc b.length).length : Nat))) (some ((b.length : Int) + ((pre.length : Int) + ((enc b.length).length : Nat)))) = b := by
    rw [show (pre.length : Int) + ((enc b.length).length : Nat) = ((pre.length + (enc b.length).length : Nat) : Int) by omega,
      show (b.length : Int) + ((pre.length + (enc b.length).length : Nat) : Int) = ((pre.length + (enc b.length).length + b.length : Nat) : Int) by omega, cutL_mid, e0, ← List.drop_drop, List.drop_left, List.drop_left,
      show pre.length + (enc b.length).length + b.length - (pre.length + (enc b.length).length) = b.length by omega, List.take_left]
  have c2 : cutL (pre ++ (frameL b ++ t)) (some ((b.length : Int) + ((pre.length : Int) + ((enc b.length).length : Nat)))) (some ((b.length : Int) + ((pre.length : Int) + ((enc b.length).length : Nat)) + 2)) = pairS b := by
    rw [show (b.length : Int) + ((pre.length : Int) + ((enc b.length).length : Nat)) = ((pre.length + (enc b.length).length + b.length : Nat) : Int) by omega,
      show ((pre.length + (enc b.length).length + b.length : Nat) : Int) + 2 = ((pre.length + (enc b.length).length + b.length + 2 : Nat) : Int) by omega, cutL_mid, e0, ← List.drop_drop, ← List.drop_drop, List.drop_left, List.drop_left, List.drop_left,
      show pre.length + (enc b.length).length + b.length + 2 - (pre.length + (enc b.length).length + b.length) = 2 by omega]
    rfl
  unfold frameAt
  rw [en]
  simp only
  rw [c1, c2, if_neg (by rw [hl]; omega), if_pos rfl]
  congr 2
  unfold frameL
  simp [pairS]
  omega
theorem frameAt_cut (pre b : List Int) (k : Nat) (hk : k < (frameL b).length) : frameAt (pre ++ (frameL b).take k) (pre.length : Int) = none := by
  unfold frameAt
  rw [numAt_pre]
  have hf : (frameL b).length = (enc b.length).length + (b.length + 2) := by unfold frameL; simp [pairS]
  by_cases h : k < (enc b.length).length
  · have : (frameL b).take k = (enc b.length).take k := by
      unfold frameL
      rw [List.append_assoc, List.take_append_of_le_length (by omega)]
    rw [this, numL_cut _ _ h]
    rfl
  · have : (frameL b).take k = enc b.length ++ (b ++ pairS b).take (k - (enc b.length).length) := by
      unfold frameL
      rw [List.append_assoc, List.take_append, List.take_of_length_le (by omega)]
    rw [this, numL_enc]
    simp only [Option.map_some]
    rw [if_pos]
    simp only [List.length_append, List.length_take]
    have : pairS b = [sumO b % 256, sumO b / 256] := rfl
    simp [this]
    omega
theorem frameAt_end (ns : List Int) : frameAt ns (ns.length : Int) = none := by
  have := numAt_pre ns []
  rw [List.append_nil] at this
  unfold frameAt
  rw [this]
  rfl
def joinF (bs : List (List Int)) : List Int := (bs.map frameL).flatten
theorem Frs.join {t : List Int} {rest : List (List Int)} {p : Int} : ∀ (bs : List (List Int)) (pre : List Int), Frs (pre ++ (joinF bs ++ t)) ((pre.length + (joinF bs).length : Nat) : Int) rest p → Frs (pre ++ (joinF bs ++ t)) (pre.length : Int) (bs ++ rest) p
  | [], pre, h => by simpa [joinF] using h
  | b :: bs, pre, h => by
    have e : joinF (b :: bs) = frameL b ++ joinF bs := by simp [joinF]
    have hw := frameAt_whole pre b (joinF bs ++ t)
    rw [e] at h ⊢
    rw [List.append_assoc] at h ⊢
    have ih := Frs.join (t := t) (rest := rest) (p := p) bs (pre ++ frameL b)
    rw [List.append_assoc, List.length_append] at ih
    refine .more hw (ih ?_)
    rw [List.length_append] at h
    rw [show pre.length + (frameL b).length + (joinF bs).length = pre.length + ((frameL b).length + (joinF bs).length) by omega]
    exact h
theorem frs_whole (bs : List (List Int)) : Frs (joinF bs) 0 bs ((joinF bs).length : Nat) := by
  have h := Frs.join (t := []) (rest := []) (p := ((joinF bs).length : Nat)) bs []
  simp only [List.nil_append, List.append_nil, List.length_nil, Nat.zero_add] at h
  exact h (.stop (frameAt_end _))
theorem frs_cut (bs : List (List Int)) (b : List Int) (k : Nat) (hk : k < (frameL b).length) : Frs (joinF bs ++ (frameL b).take k) 0 bs ((joinF bs).length : Nat) := by
  have h := Frs.join (t := (frameL b).take k) (rest := []) (p := ((joinF bs).length : Nat)) bs []
  simp only [List.nil_append, List.append_nil, List.length_nil, Nat.zero_add] at h
  exact h (.stop (frameAt_cut _ _ _ hk))
theorem joinF_snoc {bs : List (List Int)} {b : List Int} {k : Nat} (h : bs[k]? = some b) : joinF (bs.take (k + 1)) = joinF (bs.take k) ++ frameL b := by
  rw [take_snoc h]
  simp [joinF]
theorem Frs.wt {ns : List Int} (ho : OctOk ns) {i p : Int} {bs : List (List Int)} (h : Frs ns i bs p) : i + ((bs.map List.length).sum : Nat) + 3 * bs.length ≤ p := by
  induction h with
  | stop _ => simp
  | @more i e p b bs hf _ ih =>
    have : i + b.length + 3 ≤ e := by
      unfold frameAt at hf
      cases hn : numAt ns i with
      | none => rw [hn] at hf; cases hf
      | some q =>
        obtain ⟨v, f⟩ := q
        rw [hn] at hf
        obtain ⟨h1, h2, h3, h4⟩ := num_facts ho hn
        simp only at hf
        split at hf
        · cases hf
        · split at hf
          · cases hf
            have : ((cutL ns (some f) (some (v + f))).length : Int) ≤ v := by
              rw [show f = ((f.toNat : Nat) : Int) by omega, show v + ((f.toNat : Nat) : Int) = ((v.toNat + f.toNat : Nat) : Int) by omega, cutL_mid, List.length_take]
              omega
            omega
          · cases hf
    simp only [List.map_cons, List.sum_cons, List.length_cons]
    omega
/-! ### weights -/
theorem wD_ints (l : List Int) : wD (.tup (l.map D.int)) = 1 + l.length := by
  have : wD.wDs (l.map D.int) = l.length := by
    induction l with
    | nil => rfl
    | cons x l ih => simp only [List.map_cons, wD.wDs, wD, List.length_cons, ih]; omega
  rw [wD, this]
theorem datD_ints (l : List Int) : datD (.tup (l.map D.int)) = true := datDs_of fun d hd => by
  obtain ⟨x, _, rfl⟩ := List.mem_map.mp hd
  rfl
theorem wDs_rows (bs : List (List Int)) : wD.wDs (rowsT bs) = (bs.map List.length).sum + bs.length := by
  induction bs with
  | nil => rfl
  | cons b bs ih =>
    show wD (.tup (b.map D.int)) + wD.wDs (rowsT bs) = _
    rw [ih, wD_ints]
    simp
    omega
def okP2 (d : D) : Prop := datD d = true ∧ wD d ≤ 10000000
theorem okP_ints {l : List Int} (h : l.length ≤ 1000000) : okP2 (.tup (l.map D.int)) := ⟨datD_ints l, by rw [wD_ints]; omega⟩
theorem okP_due {bs : List (List Int)} {p : Int} (h : (bs.map List.length).sum + bs.length ≤ 1000000) : okP2 (dueD bs p) := by
  refine ⟨?_, ?_⟩
  · refine datDs_of fun d hd => ?_
    simp only [List.mem_cons, List.not_mem_nil, or_false] at hd
    rcases hd with rfl | rfl
    · refine datDs_of fun d hd => ?_
      obtain ⟨b, _, rfl⟩ := List.mem_map.mp hd
      exact datD_ints b
    · rfl
  · unfold dueD
    have := wDs_rows bs
    simp only [wD, wD.wDs]
    omega
theorem Frs.ok {ns : List Int} (ho : OctOk ns) {p : Int} {bs : List (List Int)} (h : Frs ns 0 bs p) : okP2 (dueD bs p) := okP_due (by
  have h1 := h.wt ho
  have h2 := (h.facts ho (by omega)).2.1
  have := ho.1
  omega)
theorem frameL_len (b : List Int) (h : b.length ≤ 16000) : (frameL b).length ≤ b.length + 4 ∧ 3 ≤ (frameL b).length := by
  have h1 := enc_short h
  have h2 := enc_len b.length
  have h3 : (frameL b).length = (enc b.length).length + (b.length + 2) := by unfold frameL; simp [pairS]
  omega
theorem enc_oct (n : Nat) : ∀ x ∈ enc n, oct x := by
  obtain ⟨r, x, e, h1, h2, h3, _⟩ := enc_shape n
  rw [e]
  intro y hy
  unfold oct
  rcases List.mem_append.mp hy with hy | hy
  · have := h1 y hy; omega
  · rw [List.mem_singleton.mp hy]; omega
theorem frameL_oct {b : List Int} (h : ∀ x ∈ b, oct x) : ∀ x ∈ frameL b, oct x := by
  intro x hx
  unfold frameL at hx
  rcases List.mem_append.mp hx with hx | hx
  · rcases List.mem_append.mp hx with hx | hx
    · exact enc_oct _ x hx
    · exact h x hx
  · have := sumO_bd b
    unfold pairS at hx
    simp only [List.mem_cons, List.not_mem_nil, or_false] at hx
    unfold oct
    rcases hx with rfl | rfl <;> omega
/-- bodies as the law draws them -/
def BodyOk (b : List Int) : Prop := b.length ≤ 300 ∧ ∀ x ∈ b, oct x
theorem BodyOk.oct {b : List Int} (h : BodyOk b) : OctOk b := ⟨by have := h.1; omega, h.2⟩
theorem joinF_len : ∀ {bs : List (List Int)}, (∀ b ∈ bs, BodyOk b) → (joinF bs).length ≤ 304 * bs.length
  | [], _ => by simp [joinF]
  | b :: bs, h => by
    have e : joinF (b :: bs) = frameL b ++ joinF bs := by simp [joinF]
    have h1 := joinF_len fun x hx => h x (List.mem_cons_of_mem _ hx)
    have hb := h b (List.mem_cons_self ..)
    have h2 := frameL_len b (by have := hb.1; omega)
    rw [e, List.length_append, List.length_cons]
    have := hb.1
    omega
theorem joinF_oct {bs : List (List Int)} (h : ∀ b ∈ bs, BodyOk b) : ∀ x ∈ joinF bs, L2.DL.oct x := by
  intro x hx
  obtain ⟨l, hl, hx⟩ := List.mem_flatten.mp hx
  obtain ⟨b, hb, rfl⟩ := List.mem_map.mp hl
  exact frameL_oct (h b hb).2 x hx
end L2.DL

namespace L2.DL
open PySem PySem.Spec PyProof.Rows
local macro_rules | `(tactic| walk_at "s") => `(tactic| try simp only [sqAsg_a, sqDrop_a, sqPar_a, sqPar3_a, sqRet_a, sqNext_a, sqSeq_a, sNext_a, sBreak_a, sCont_a, sDrop_a, sRet_a, sRetN_a, sIf_a, sAsg_a, sPar_a, sPar3_a, mVar_a, vAt_a, mC_a, mBin_a, mTest_a, bAt_a, mAnd_a, mOr_a, mNot_a, mYes_a, mAndV_a, mOrV_a, mNotV_a, mIf_a, mNil_a, mCons_a, mTup_a, mLst_a, mCall_a, mCallK_a, mMeth_a, mSl_a, mNoPart_a, iAt_a, mPart_a, mIsi_b, tysO_some, List.any_cons, List.any_nil, Bool.or_false, Bool.false_or, Bool.or_true, Bool.true_or, Int.natCast_pos, gN_a, gTup_a, gCons_a, gNil_a, gSub_a, sFor_a, mLc_a, mDc_a, wSeq_a, sqO_tup, sqO_str, sqO_ref, wRng1_a, wRng2_b, wRng3_b, wEnum_a, enO_tup, enO_ref, mRev_a, revO_ref, List.getD_cons_zero, List.getD_cons_succ, ite_self, List.set_cons_zero, List.set_cons_succ, List.getElem?_cons_zero, List.getElem?_cons_succ, oAdd_int, oAdd_str, oAdd_tup, oAdd_ref, oSub_int, oMul_int, oDiv_int, oMod_int, oPow_int, oLt_int, oLe_int, oGt_int, oGe_int, oIs_nn, oIs_bn, oIs_in, oIs_sn, oIs_tn, oIs_rn, oIs_bb, oIs_nb, oIs_ib, oIs_sb, oIs_tb, oIs_rb, oIsi_int, oIsi_str, oIsi_bool, oIsi_tuple, oIsi_list, oIsi_dict, tyO_some, tyD_non, tyD_bl, tyD_int, tyD_str, tyD_tup, isi_facts, oEq_int, oNe_int, oEq_str, oNe_str, oSl_tup, oSl_str, oSl_ref, oLen_tup, oLen_str, oLen_ref, oAbs_int, oInt_int, oInt_bl, oMax_int, oMin_int, oTuple_tup, oTuple_ref, oList_tup, oList_str, oList_ref, oIx_tupE, oIx_ref, oAppend_ref, oPop_ref, oExtend_tupE, oSet_ref, isL_ref, isS_str, vO_some, ixO_lst, ixO_dicI, ixO_dicS, ixO_rodI, ixO_rodS, lsO_lst, rdO_lst, rdO_rol, lenO_lst, lenO_dic, lenO_rol, addO_lst, setO_lst, setO_dicI, setO_dicS, atI_zero, atI_one, atI_two, atI_end, startE, wipeE, List.map_cons, List.map_nil, List.length_cons, List.length_nil, List.replicate, List.cons_append, List.nil_append, Nat.reduceAdd, Nat.reduceSub, List.replicate_succ, List.replicate_zero, put_same, Nat.zero_le, Int.reduceLT, Int.reduceLE, Nat.reduceLT, Nat.reduceLeDiff, and_true, true_and, Bool.false_eq_true, ↓reduceIte, Bool.not_true, Bool.not_false, decide_true, decide_false, *])
local macro_rules | `(tactic| walk_at "i") => `(tactic| try simp only [sqIf_a, sqAsg_a, sqDrop_a, sqPar_a, sqPar3_a, sqRet_a, sqNext_a, sqSeq_a, sNext_a, sBreak_a, sCont_a, sDrop_a, sRet_a, sRetN_a, sIf_a, sAsg_a, sPar_a, sPar3_a, mVar_a, vAt_a, mC_a, mBin_a, mTest_a, bAt_a, mAnd_a, mOr_a, mNot_a, mYes_a, mAndV_a, mOrV_a, mNotV_a, mIf_a, mNil_a, mCons_a, mTup_a, mLst_a, mCall_a, mCallK_a, mMeth_a, mSl_a, mNoPart_a, iAt_a, mPart_a, mIsi_b, tysO_some, List.any_cons, List.any_nil, Bool.or_false, Bool.false_or, Bool.or_true, Bool.true_or, Int.natCast_pos, gN_a, gTup_a, gCons_a, gNil_a, gSub_a, sFor_a, mLc_a, mDc_a, wSeq_a, sqO_tup, sqO_str, sqO_ref, wRng1_a, wRng2_b, wRng3_b, wEnum_a, enO_tup, enO_ref, mRev_a, revO_ref, List.getD_cons_zero, List.getD_cons_succ, ite_self, List.set_cons_zero, List.set_cons_succ, List.getElem?_cons_zero, List.getElem?_cons_succ, oAdd_int, oAdd_str, oAdd_tup, oAdd_ref, oSub_int, oMul_int, oDiv_int, oMod_int, oPow_int, oLt_int, oLe_int, oGt_int, oGe_int, oIs_nn, oIs_bn, oIs_in, oIs_sn, oIs_tn, oIs_rn, oIs_bb, oIs_nb, oIs_ib, oIs_sb, oIs_tb, oIs_rb, oIsi_int, oIsi_str, oIsi_bool, oIsi_tuple, oIsi_list, oIsi_dict, tyO_some, tyD_non, tyD_bl, tyD_int, tyD_str, tyD_tup, isi_facts, oEq_int, oNe_int, oEq_str, oNe_str, oSl_tup, oSl_str, oSl_ref, oLen_tup, oLen_str, oLen_ref, oAbs_int, oInt_int, oInt_bl, oMax_int, oMin_int, oTuple_tup, oTuple_ref, oList_tup, oList_str, oList_ref, oIx_tupE, oIx_ref, oAppend_ref, oPop_ref, oExtend_tupE, oSet_ref, isL_ref, isS_str, vO_some, ixO_lst, ixO_dicI, ixO_dicS, ixO_rodI, ixO_rodS, lsO_lst, rdO_lst, rdO_rol, lenO_lst, lenO_dic, lenO_rol, addO_lst, setO_lst, setO_dicI, setO_dicS, atI_zero, atI_one, atI_two, atI_end, startE, wipeE, List.map_cons, List.map_nil, List.length_cons, List.length_nil, List.replicate, List.cons_append, List.nil_append, Nat.reduceAdd, Nat.reduceSub, List.replicate_succ, List.replicate_zero, put_same, Nat.zero_le, Int.reduceLT, Int.reduceLE, Nat.reduceLT, Nat.reduceLeDiff, and_true, true_and, Bool.false_eq_true, ↓reduceIte, Bool.not_true, Bool.not_false, decide_true, decide_false, *])
/-! ### texts by their codes -/
def chr1 (x : Int) : Str := ⟨#[x.toNat]⟩
def strOf (l : List Int) : Str := ⟨(l.map Int.toNat).toArray⟩
def chD (x : Int) : D := .str (chr1 x)
theorem strOf_signs (l : List Int) : signsD (strOf l) = l.map chD := by
  unfold signsD strOf chD chr1
  rw [List.map_map]
  rfl
theorem strOf_len (l : List Int) : (strOf l).length = l.length := by
  rw [← signsD_len, strOf_signs, List.length_map]
theorem join_str : ∀ l : List Int, Txt.join "" (l.map chr1) = strOf l := by
  intro l
  refine str_ext ?_
  rw [TL.join_eq]
  refine (TL.tl_join "" (l.map chr1)).trans ?_
  show TL.joinL [] ((l.map chr1).map TL.tl) = l.map Int.toNat
  have go : ∀ l : List Int, TL.joinL [] ((l.map chr1).map TL.tl) = l.map Int.toNat := by
    intro l
    induction l with
    | nil => rfl
    | cons x l ih =>
      cases l with
      | nil => rfl
      | cons y l =>
        have h : TL.joinL [] (((x :: y :: l).map chr1).map TL.tl) = [x.toNat] ++ ([] ++ TL.joinL [] (((y :: l).map chr1).map TL.tl)) := rfl
        rw [h, ih]
        rfl
  exact go l
/-- signs that texts have as octets -/
def okSg (x : Int) : Bool := decide (x = 10) || (decide (32 ≤ x) && decide (x < 127) && !decide (x = 37))
def sgD (x : Int) : D := if okSg x = true then chD x else .non
def txD : Option (Str × Int) → D
  | none => .non
  | some p => .tup [.str p.1, .int p.2]
def textAt (ns : List Int) (i : Int) : Option (Str × Int) := match numAt ns i with
  | none => none
  | some (v, e) => if v > ns.length - e then none else if (cutL ns (some e) (some (v + e))).all okSg then some (strOf (cutL ns (some e) (some (v + e))), v + e) else none
def S_octets_of_text : DSp := fun vs st Q => ∃ l : List Int, vs = [.str (strOf l)] ∧ l.length ≤ 16000 ∧ (∀ x ∈ l, 0 ≤ x) ∧ ∀ st', Keep st st' → Q (.tup ((enc l.length ++ l).map D.int)) st'
/-- octets_of_text(text): 0 text 1 sign -/
def t_octets_of_text : MS := sRet (mBin oAdd (mCall S_octets_of_number (mCons (mCall oLen (mCons (mVar 0) (mNil))) (mNil))) (mCall oTuple (mCons (mLc (wSeq (mVar 0)) (gN 1) (mYes) (mCall oOrd (mCons (mVar 1) (mNil))) [1]) (mNil))))
theorem oOrd_ch {x : Int} (h : 0 ≤ x) {st : Sto} {Q : DK} : oOrd [chD x] st Q = Q (.int x) st := by
  show (1 = 1 ∧ Q (.int ((x.toNat : Nat) : Int)) st) = _
  rw [Int.toNat_of_nonneg h]
  simp
/-- by the signs -/
def onC (g : Int → Option D) : D → Option D
  | .str z => g ((z.cps.getD 0 0 : Nat) : Int)
  | _ => none
theorem onC_ch {g : Int → Option D} {x : Int} (h : 0 ≤ x) : onC g (chD x) = g x := by
  show g ((x.toNat : Nat) : Int) = _
  rw [Int.toNat_of_nonneg h]
theorem onC_map {g : Int → Option D} : ∀ {l : List Int}, (∀ x ∈ l, 0 ≤ x) → (l.map chD).filterMap (onC g) = l.filterMap g
  | [], _ => rfl
  | x :: l, h => by
    have e := onC_ch (g := g) (h x (List.mem_cons_self ..))
    have ih := onC_map (g := g) fun y hy => h y (List.mem_cons_of_mem _ hy)
    rw [List.map_cons, List.filterMap_cons, List.filterMap_cons, e, ih]
theorem kp_octets_of_text : Keeps 1 2 S_octets_of_text t_octets_of_text := by
  refine ⟨fun ds st Q ⟨n, e, _⟩ => by rw [e]; rfl, fun ds st Q ⟨l, e, hl, h0, q⟩ => ?_⟩
  subst e
  have h1 := enc_short hl
  have hs : (strOf l).length ≤ sizeLine := by rw [strOf_len, szL]; omega
  unfold t_octets_of_text
  walk_at "s"
  rw [strOf_len]
  refine ⟨l.length, rfl, by omega, fun st1 u => ?_⟩
  rw [strOf_signs]
  refine lc_keep (onC fun c => some (.int c)) (fun _ _ => trivial) (by rw [List.length_map, szL]; omega) (fun y hy st2 u2 P N hP hN => ?_) fun p st' hp u3 lp => ?_
  · obtain ⟨x, hx, rfl⟩ := List.mem_map.mp hy
    have h1 := hP (.int x) st2 (onC_ch (h0 x hx)) .refl
    have e := oOrd_ch (h0 x hx) (st := st2) (Q := P)
    clear hP hN
    walk_at "s"
  · rw [onC_map h0, fm_some] at lp
    have hz : ((enc l.length).map D.int).length + (l.map D.int).length ≤ sizeLine := by rw [List.length_map, List.length_map, szL]; omega
    have q1 := q st' (u.trans u3)
    rw [List.map_append] at q1
    walk_at "s"
    exact endsOf_i q1
def S_text_octets : DSp := fun vs st Q => ∃ l : List Int, vs = [.str (strOf l)] ∧ l.length ≤ 16000 ∧ (∀ x ∈ l, 0 ≤ x) ∧ ∀ st', Keep st st' → Q (.tup ((enc l.length ++ l).map D.int)) st'
/-- text_octets(text): 0 text -/
def t_text_octets : MS := sRet (mCall S_octets_of_text (mCons (mVar 0) (mNil)))
theorem kp_text_octets : Keeps 1 1 S_text_octets t_text_octets := by
  refine ⟨fun ds st Q ⟨n, e, _⟩ => by rw [e]; rfl, fun ds st Q ⟨l, e, hl, h0, q⟩ => ?_⟩
  subst e
  unfold t_text_octets
  walk_at "s"
  exact ⟨l, rfl, hl, h0, fun st1 u => endsOf_i (q st1 u)⟩
def S_read_number : DSp := fun vs st Q => ∃ (ns : List Int) (i : Int), vs = [.tup (ns.map D.int), .int i] ∧ OctOk ns ∧ i < 2 ^ 62 ∧ ∀ st', Keep st st' → Q (numD (numAt ns i)) st'
/-- read_number(octets, at): 0 octets 1 at -/
def t_read_number : MS := sRet (mCall S_number_in (mCons (mCall oTuple (mCons (mVar 0) (mNil))) (mCons (mVar 1) (mNil))))
theorem kp_read_number : Keeps 2 2 S_read_number t_read_number := by
  refine ⟨fun ds st Q ⟨n, i, e, _⟩ => by rw [e]; rfl, fun ds st Q ⟨ns, i, e, ho, hi, q⟩ => ?_⟩
  subst e
  unfold t_read_number
  walk_at "s"
  exact ⟨ns, i, rfl, ho, hi, fun st1 u => endsOf_i (q st1 u)⟩
def S_sign_of : DSp := fun vs st Q => ∃ x : Int, vs = [.int x] ∧ ∀ st', Keep st st' → Q (sgD x) st'
/-- sign_of(octet): 0 octet -/
def t_sign_of : MS := sSeq (sIf (mTest (mBin oEq (mVar 0) (mC (.int (10))))) (sRet (mC (.str "\n"))) (sNext))
    (sSeq (sIf (mOr (mTest (mBin oLt (mVar 0) (mC (.int (32))))) (mOr (mTest (mBin oGe (mVar 0) (mBin oAdd (mC (.int (32))) (mCall oLen (mCons (mC (.str " !\"#$\n&'()*+,-./0123456789:;<=>?@ABCDEFGHIJKLMNOPQRSTUVWXYZ[\\]^_`abcdefghijklmnopqrstuvwxyz{|}~")) (mNil)))))) (mTest (mBin oEq (mVar 0) (mC (.int (37))))))) (sRet (mC .non)) (sNext))
    (sRet (mBin oIx (mC (.str " !\"#$\n&'()*+,-./0123456789:;<=>?@ABCDEFGHIJKLMNOPQRSTUVWXYZ[\\]^_`abcdefghijklmnopqrstuvwxyz{|}~")) (mBin oSub (mVar 0) (mC (.int (32)))))))
theorem sg_codes : (" !\"#$\n&'()*+,-./0123456789:;<=>?@ABCDEFGHIJKLMNOPQRSTUVWXYZ[\\]^_`abcdefghijklmnopqrstuvwxyz{|}~" : Str).cps.toList = (List.range 95).map (fun i => if i = 5 then 10 else i + 32) := by decide +kernel
theorem sg_len : (" !\"#$\n&'()*+,-./0123456789:;<=>?@ABCDEFGHIJKLMNOPQRSTUVWXYZ[\\]^_`abcdefghijklmnopqrstuvwxyz{|}~" : Str).length = 95 := by decide +kernel
theorem kp_sign_of : Keeps 1 1 S_sign_of t_sign_of := by
  refine ⟨fun ds st Q ⟨x, e, _⟩ => by rw [e]; rfl, fun ds st Q ⟨x, e, q⟩ => ?_⟩
  subst e
  unfold t_sign_of
  have q1 := q st .refl
  clear q
  have hc := sg_codes
  have hl := sg_len
  generalize (" !\"#$\n&'()*+,-./0123456789:;<=>?@ABCDEFGHIJKLMNOPQRSTUVWXYZ[\\]^_`abcdefghijklmnopqrstuvwxyz{|}~" : Str) = z at *
  unfold sgD okSg at q1
  by_cases h10 : x = 10
  · subst h10
    have e : (("\n" : Str)) = chr1 10 := by decide +kernel
    simp only [decide_true, Bool.true_or, if_true] at q1
    unfold chD at q1
    rw [← e] at q1
    walk_at "i"
    exact endsOf_i q1
  · have hs : z.length ≤ sizeLine := by rw [hl, szL]; omega
    have hs95 : 95 ≤ sizeLine := by decide
    refine sSeq_t fun T hT => ?_
    walk_at "i"
    subst hT
    simp only [h10, decide_false, Bool.false_or] at q1
    by_cases h32 : x < 32
    · have h' : ¬ (32 ≤ x) := by omega
      simp only [h', decide_false, Bool.false_and, Bool.false_eq_true, if_false] at q1
      walk_at "i"
      exact endsOf_i q1
    · have h' : 32 ≤ x := by omega
      simp only [h', decide_true, Bool.true_and] at q1
      by_cases h127 : 32 + ((95 : Nat) : Int) ≤ x
      · have h'' : ¬ (x < 127) := by omega
        simp only [h'', decide_false, Bool.false_and, Bool.false_eq_true, if_false] at q1
        clear hc
        walk_at "i"
        exact endsOf_i q1
      · have h'' : x < 127 := by omega
        simp only [h'', decide_true, Bool.true_and] at q1
        by_cases h37 : x = 37
        · simp only [h37, decide_true, Bool.not_true, Bool.false_eq_true, if_false] at q1
          clear hc
          walk_at "i"
          exact endsOf_i q1
        · simp only [h37, decide_false, Bool.not_false, if_true] at q1
          have ea : atI (signsD z) (x - 32) = some (chD x) := by
            rw [atI_signs, hc, show x - 32 = (((x - 32).toNat : Nat) : Int) by omega, atI_ofNat, List.getElem?_map, List.getElem?_range (by omega)]
            simp only [Option.map_some]
            rw [if_neg (by omega)]
            unfold chD chr1
            rw [show (x - 32).toNat + 32 = x.toNat by omega]
          have eo : ∀ Q, oIx (.str z) (.int (x - 32)) st Q = vO (atI (signsD z) (x - 32)) st Q := fun Q => oIx_strO hs
          clear hc
          walk_at "i"
          exact endsOf_i q1
end L2.DL

namespace L2.DL
open PySem PySem.Spec PyProof.Rows
local macro_rules | `(tactic| walk_at "s") => `(tactic| try simp only [sqAsg_a, sqDrop_a, sqPar_a, sqPar3_a, sqRet_a, sqNext_a, sqSeq_a, sNext_a, sBreak_a, sCont_a, sDrop_a, sRet_a, sRetN_a, sIf_a, sAsg_a, sPar_a, sPar3_a, mVar_a, vAt_a, mC_a, mBin_a, mTest_a, bAt_a, mAnd_a, mOr_a, mNot_a, mYes_a, mAndV_a, mOrV_a, mNotV_a, mIf_a, mNil_a, mCons_a, mTup_a, mLst_a, mCall_a, mCallK_a, mMeth_a, mSl_a, mNoPart_a, iAt_a, mPart_a, mIsi_b, tysO_some, List.any_cons, List.any_nil, Bool.or_false, Bool.false_or, Bool.or_true, Bool.true_or, Int.natCast_pos, gN_a, gTup_a, gCons_a, gNil_a, gSub_a, sFor_a, mLc_a, mDc_a, wSeq_a, sqO_tup, sqO_str, sqO_ref, wRng1_a, wRng2_b, wRng3_b, wEnum_a, enO_tup, enO_ref, mRev_a, revO_ref, List.getD_cons_zero, List.getD_cons_succ, ite_self, List.set_cons_zero, List.set_cons_succ, List.getElem?_cons_zero, List.getElem?_cons_succ, oAdd_int, oAdd_str, oAdd_tup, oAdd_ref, oSub_int, oMul_int, oDiv_int, oMod_int, oPow_int, oLt_int, oLe_int, oGt_int, oGe_int, oIs_nn, oIs_bn, oIs_in, oIs_sn, oIs_tn, oIs_rn, oIs_bb, oIs_nb, oIs_ib, oIs_sb, oIs_tb, oIs_rb, oIsi_int, oIsi_str, oIsi_bool, oIsi_tuple, oIsi_list, oIsi_dict, tyO_some, tyD_non, tyD_bl, tyD_int, tyD_str, tyD_tup, isi_facts, oEq_int, oNe_int, oEq_str, oNe_str, oSl_tup, oSl_str, oSl_ref, oLen_tup, oLen_str, oLen_ref, oAbs_int, oInt_int, oInt_bl, oMax_int, oMin_int, oTuple_tup, oTuple_ref, oList_tup, oList_str, oList_ref, oIx_tupE, oIx_ref, oAppend_ref, oPop_ref, oExtend_tupE, oSet_ref, isL_ref, isS_str, vO_some, ixO_lst, ixO_dicI, ixO_dicS, ixO_rodI, ixO_rodS, lsO_lst, rdO_lst, rdO_rol, lenO_lst, lenO_dic, lenO_rol, addO_lst, setO_lst, setO_dicI, setO_dicS, atI_zero, atI_one, atI_two, atI_end, startE, wipeE, List.map_cons, List.map_nil, List.length_cons, List.length_nil, List.replicate, List.cons_append, List.nil_append, Nat.reduceAdd, Nat.reduceSub, List.replicate_succ, List.replicate_zero, put_same, Nat.zero_le, Int.reduceLT, Int.reduceLE, Nat.reduceLT, Nat.reduceLeDiff, and_true, true_and, Bool.false_eq_true, ↓reduceIte, Bool.not_true, Bool.not_false, decide_true, decide_false, *])
local macro_rules | `(tactic| walk_at "i") => `(tactic| try simp only [sqIf_a, sqAsg_a, sqDrop_a, sqPar_a, sqPar3_a, sqRet_a, sqNext_a, sqSeq_a, sNext_a, sBreak_a, sCont_a, sDrop_a, sRet_a, sRetN_a, sIf_a, sAsg_a, sPar_a, sPar3_a, mVar_a, vAt_a, mC_a, mBin_a, mTest_a, bAt_a, mAnd_a, mOr_a, mNot_a, mYes_a, mAndV_a, mOrV_a, mNotV_a, mIf_a, mNil_a, mCons_a, mTup_a, mLst_a, mCall_a, mCallK_a, mMeth_a, mSl_a, mNoPart_a, iAt_a, mPart_a, mIsi_b, tysO_some, List.any_cons, List.any_nil, Bool.or_false, Bool.false_or, Bool.or_true, Bool.true_or, Int.natCast_pos, gN_a, gTup_a, gCons_a, gNil_a, gSub_a, sFor_a, mLc_a, mDc_a, wSeq_a, sqO_tup, sqO_str, sqO_ref, wRng1_a, wRng2_b, wRng3_b, wEnum_a, enO_tup, enO_ref, mRev_a, revO_ref, List.getD_cons_zero, List.getD_cons_succ, ite_self, List.set_cons_zero, List.set_cons_succ, List.getElem?_cons_zero, List.getElem?_cons_succ, oAdd_int, oAdd_str, oAdd_tup, oAdd_ref, oSub_int, oMul_int, oDiv_int, oMod_int, oPow_int, oLt_int, oLe_int, oGt_int, oGe_int, oIs_nn, oIs_bn, oIs_in, oIs_sn, oIs_tn, oIs_rn, oIs_bb, oIs_nb, oIs_ib, oIs_sb, oIs_tb, oIs_rb, oIsi_int, oIsi_str, oIsi_bool, oIsi_tuple, oIsi_list, oIsi_dict, tyO_some, tyD_non, tyD_bl, tyD_int, tyD_str, tyD_tup, isi_facts, oEq_int, oNe_int, oEq_str, oNe_str, oSl_tup, oSl_str, oSl_ref, oLen_tup, oLen_str, oLen_ref, oAbs_int, oInt_int, oInt_bl, oMax_int, oMin_int, oTuple_tup, oTuple_ref, oList_tup, oList_str, oList_ref, oIx_tupE, oIx_ref, oAppend_ref, oPop_ref, oExtend_tupE, oSet_ref, isL_ref, isS_str, vO_some, ixO_lst, ixO_dicI, ixO_dicS, ixO_rodI, ixO_rodS, lsO_lst, rdO_lst, rdO_rol, lenO_lst, lenO_dic, lenO_rol, addO_lst, setO_lst, setO_dicI, setO_dicS, atI_zero, atI_one, atI_two, atI_end, startE, wipeE, List.map_cons, List.map_nil, List.length_cons, List.length_nil, List.replicate, List.cons_append, List.nil_append, Nat.reduceAdd, Nat.reduceSub, List.replicate_succ, List.replicate_zero, put_same, Nat.zero_le, Int.reduceLT, Int.reduceLE, Nat.reduceLT, Nat.reduceLeDiff, and_true, true_and, Bool.false_eq_true, ↓reduceIte, Bool.not_true, Bool.not_false, decide_true, decide_false, *])
def S_text_in : DSp := fun vs st Q => ∃ (ns : List Int) (i : Int), vs = [.tup (ns.map D.int), .int i] ∧ OctOk ns ∧ i < 2 ^ 62 ∧ ∀ st', Keep st st' → Q (txD (textAt ns i)) st'
/-- text_in(octets, at): 0 octets 1 at 2 told 3 end 4 signs 5 octet -/
def t_text_in : MS := sSeq (sAsg (mCall S_number_in (mCons (mVar 0) (mCons (mVar 1) (mNil)))) (gN 2))
    (sSeq (sIf (mOr (mTest (mBin oIs (mVar 2) (mC .non))) (mTest (mBin oGt (mBin oIx (mVar 2) (mC (.int 0))) (mBin oSub (mCall oLen (mCons (mVar 0) (mNil))) (mBin oIx (mVar 2) (mC (.int 1))))))) (sRet (mC .non)) (sNext))
    (sSeq (sAsg (mBin oAdd (mBin oIx (mVar 2) (mC (.int 0))) (mBin oIx (mVar 2) (mC (.int 1)))) (gN 3))
    (sSeq (sAsg (mLc (wSeq (mSl (mVar 0) (mPart (mBin oIx (mVar 2) (mC (.int 1)))) (mPart (mVar 3)))) (gN 5) (mYes) (mCall S_sign_of (mCons (mVar 5) (mNil))) [5]) (gN 4))
    (sSeq (sIf (mTest (mBin oIn (mC .non) (mVar 4))) (sRet (mC .non)) (sNext))
    (sRet (mTup (mCons (mMeth isS oJoin (mC (.str "")) (mCons (mVar 4) (mNil))) (mCons (mVar 3) (mNil)))))))))
theorem join_ch {a : Addr} {l : List Int} {st : Sto} {Q : DK} (h : rdL (st a) = some (l.map chD)) (hl : l.length ≤ 16000000) (q : Q (.str (strOf l)) st) : oJoin (.str "") [.ref a] st Q := by
  refine oJoin_l (ys := l.map chr1) (by rw [h, List.map_map]; rfl) ?_ ?_
  · have e : ((l.map chr1).map (·.length)).sum = l.length := by
      clear h hl q
      induction l with
      | nil => rfl
      | cons x l ih =>
        rw [List.map_cons, List.map_cons, List.sum_cons, ih, List.length_cons]
        show 1 + _ = _
        omega
    rw [e, show ("" : Str).length = 0 from rfl]
    omega
  · rw [join_str]
    exact q
theorem flat_sg (l : List Int) : (l.map sgD).all flatD = true := by
  rw [List.all_eq_true]
  intro d hd
  obtain ⟨x, _, rfl⟩ := List.mem_map.mp hd
  unfold sgD
  split <;> rfl
theorem none_in (l : List Int) : inF .non (l.map sgD) = !(l.all okSg) := by
  unfold inF
  induction l with
  | nil => rfl
  | cons x l ih =>
    rw [List.map_cons, List.any_cons, ih, List.all_cons]
    unfold sgD
    cases okSg x <;> rfl
theorem sg_all {l : List Int} (h : l.all okSg = true) : l.map sgD = l.map chD := by
  refine List.map_congr_left fun x hx => ?_
  unfold sgD
  rw [if_pos (List.all_eq_true.mp h x hx)]
theorem kp_text_in : Keeps 2 6 S_text_in t_text_in := by
  refine ⟨fun ds st Q ⟨ns, i, e, _⟩ => by rw [e]; rfl, fun ds st Q ⟨ns, i, e, ho, hi, q⟩ => ?_⟩
  subst e
  have z2 : 0 + 1 + 1 ≤ sizeLine := by decide
  have ho1 := ho.1
  unfold t_text_in
  refine sSeq_t fun T hT => ?_
  walk_at "s"
  refine ⟨ns, i, rfl, ho, hi, fun st1 u => ?_⟩
  subst hT
  unfold textAt at q
  cases hn : numAt ns i with
  | none =>
    rw [hn] at q
    have q1 := q st1 u
    clear q hn
    unfold numD
    walk_at "i"
    exact endsOf_i q1
  | some p =>
    obtain ⟨v, e⟩ := p
    rw [hn] at q
    obtain ⟨h1, h2, h3, h4⟩ := num_facts ho hn
    clear hn
    simp only at q
    unfold numD
    by_cases c : v > ns.length - e
    · rw [if_pos c] at q
      have q1 := q st1 u
      clear q
      have c' : (ns.length : Int) - e < v := c
      walk_at "i"
      rw [List.length_map]
      walk_at "i"
      exact endsOf_i q1
    · rw [if_neg c] at q
      have c' : ¬ ((ns.map D.int).length : Int) - e < v := by rw [List.length_map]; exact c
      clear c
      have e1 := cutL_ints ns (some e) (some (v + e))
      have hc := ho.cut (some e) (some (v + e))
      generalize cutL ns (some e) (some (v + e)) = b at *
      have hb1 := hc.1
      refine sSeq_t fun T hT => ?_
      walk_at "i"
      subst hT
      refine sSeq_t fun T hT => ?_
      walk_at "s"
      subst hT
      refine sSeq_t fun T hT => ?_
      walk_at "s"
      refine lc_keep (onI fun x => some (sgD x)) (fun _ _ => trivial) (by rw [List.length_map, szL]; omega) (fun y hy st2 u2 P N hP hN => ?_) fun p st2 hp u3 lp => ?_
      · obtain ⟨x, hx, rfl⟩ := List.mem_map.mp hy
        have h1 := fun st' => hP (sgD x) st' rfl
        clear hP hN e1
        walk_at "s"
        exact ⟨x, rfl, fun st3 u3 => h1 st3 u3⟩
      · rw [onI_map, fm_some] at lp
        have u4 := u.trans u3
        clear u3 u hp e1
        subst hT
        refine sSeq_t fun T hT => ?_
        walk_at "i"
        refine oIn_ref ?_
        rw [lp, inO_lst, none_in]
        refine ⟨rfl, flat_sg b, ?_⟩
        rw [bAt_a]
        subst hT
        by_cases ha : b.all okSg = true
        · rw [if_pos ha] at q
          rw [sg_all ha] at lp
          have q1 := q st2 u4
          simp only [ha]
          clear q ha
          walk_at "s"
          refine join_ch (by rw [lp]; rfl) (by omega) ?_
          walk_at "s"
          exact endsOf_i q1
        · rw [if_neg ha] at q
          have q1 := q st2 u4
          simp only [ha]
          clear q ha
          walk_at "s"
          exact endsOf_i q1
def S_read_text : DSp := fun vs st Q => ∃ (ns : List Int) (i : Int), vs = [.tup (ns.map D.int), .int i] ∧ OctOk ns ∧ i < 2 ^ 62 ∧ ∀ st', Keep st st' → Q (txD (textAt ns i)) st'
/-- read_text(octets, at): 0 octets 1 at -/
def t_read_text : MS := sRet (mCall S_text_in (mCons (mCall oTuple (mCons (mVar 0) (mNil))) (mCons (mVar 1) (mNil))))
theorem kp_read_text : Keeps 2 2 S_read_text t_read_text := by
  refine ⟨fun ds st Q ⟨n, i, e, _⟩ => by rw [e]; rfl, fun ds st Q ⟨ns, i, e, ho, hi, q⟩ => ?_⟩
  subst e
  unfold t_read_text
  walk_at "s"
  exact ⟨ns, i, rfl, ho, hi, fun st1 u => endsOf_i (q st1 u)⟩
/-! ### the law's draws -/
def S_law_wide : DSp := fun vs st Q => ∃ (n m : Addr) (b : Int), vs = [.ref n, .int b] ∧ Deal st n m ∧ 1000000 < b ∧ ∀ k st', 0 ≤ k → k < b → Up n m st st' → Q (.int k) st'
/-- _law_wide(deal, bound): 0 deal 1 bound 2 many 3 turn -/
def t_law_wide : MS := sSeq (sIf (mTest (mBin oLe (mVar 1) (mBin oPow (mC (.int 10)) (mC (.int 6))))) (sRet (mCall S_law_any (mCons (mVar 0) (mCons (mVar 1) (mNil))))) (sNext))
    (sSeq (sAsg (mC (.int 0)) (gN 2))
    (sSeq (sFor (wRng1 (mC (.int 4))) (gN 3) (sAsg (mBin oAdd (mBin oMul (mVar 2) (mC (.int 1048573))) (mCall S_law_any (mCons (mVar 0) (mCons (mC (.int 1048573)) (mNil))))) (gN 2)))
    (sRet (mBin oMod (mCall oInt (mCons (mVar 2) (mNil))) (mVar 1)))))
theorem kp_law_wide : Keeps 2 4 S_law_wide t_law_wide := by
  refine ⟨fun ds st Q ⟨n, m, b, e, _⟩ => by rw [e]; rfl, fun ds st Q ⟨n, m, b, e, hd, hb, q⟩ => ?_⟩
  subst e
  have cp : CPow 10 6 := by unfold CPow; decide
  have p6 : (10 : Int) ^ Int.toNat 6 = 1000000 := by decide
  have hb' : ¬ b ≤ 1000000 := by omega
  unfold t_law_wide
  refine sSeq_t fun T hT => ?_
  walk_at "i"
  clear hb'
  subst hT
  refine sSeq_t fun T hT => ?_
  walk_at "s"
  subst hT
  rw [sSeq_a]
  walk_at "s"
  refine ⟨by omega, fun i env st' => ∃ (s : Int) (g : Option D), env = [some (.ref n), some (.int b), some (.int s), g] ∧ 0 ≤ s ∧ s < 2 ^ (30 * i + 1) ∧ Up n m st st', ⟨0, none, rfl, by omega, by omega, Up.refl hd⟩, fun _ _ _ _ _ => trivial, ?_, ?_⟩
  · rintro i x env st1 hx ⟨s, g, rfl, h0, h1, u⟩
    obtain ⟨hk, rfl⟩ := rangeD_get hx
    clear q hx
    have hk4 : i < 4 := hk
    have hs : s < 2 ^ 121 := Int.lt_of_lt_of_le h1 (by
      have : i = 0 ∨ i = 1 ∨ i = 2 ∨ i = 3 := by omega
      rcases this with rfl | rfl | rfl | rfl <;> decide)
    have cm : CMulW s 1048573 := wide_mul (a := 121) (b := 21) (by omega) (by omega) (by omega) (by omega) (by omega)
    walk_at "s"
    refine ⟨n, m, 1048573, rfl, u.deal, by omega, by omega, fun k st2 k0 k1 u2 => ?_⟩
    refine ⟨_, _, rfl, by omega, ?_, u.trans u2⟩
    have e : (2 : Int) ^ (30 * (i + 1) + 1) = 2 ^ (30 * i + 1) * 1073741824 := by
      rw [show 30 * (i + 1) + 1 = (30 * i + 1) + 30 by omega, Int.pow_add]
      rfl
    rw [e]
    omega
  · rintro env st1 ⟨s, g, rfl, h0, h1, u⟩
    clear p6
    have hb0 : 0 < b := by omega
    walk_at "s"
    exact endsOf_i (q _ st1 (Int.emod_nonneg _ (by omega)) (Int.emod_lt_of_pos _ hb0) u)
def S_law_noise : DSp := fun vs st Q => ∃ (n m : Addr) (k : Int), vs = [.ref n, .int k] ∧ Deal st n m ∧ 0 < k ∧ k ≤ 1000 ∧ ∀ p st' (l : List Int), Nf st p → Up n m st st' → IL st' p l → (l.length : Int) < k → (∀ x ∈ l, oct x) → Q (.ref p) st'
/-- _law_noise(deal, many): 0 deal 1 many 2 turn -/
def t_law_noise : MS := sRet (mLc (wRng1 (mCall S_law_any (mCons (mVar 0) (mCons (mVar 1) (mNil))))) (gN 2) (mYes) (mCall S_law_octet (mCons (mVar 0) (mNil))) [2])
theorem kp_law_noise : Keeps 2 3 S_law_noise t_law_noise := by
  refine ⟨fun ds st Q ⟨n, m, k, e, _⟩ => by rw [e]; rfl, fun ds st Q ⟨n, m, k, e, hd, k0, k1, q⟩ => ?_⟩
  subst e
  unfold t_law_noise
  walk_at "s"
  refine ⟨n, m, k, rfl, hd, k0, by omega, fun v st1 v0 v1 u1 => ?_⟩
  walk_at "s"
  refine ⟨by omega, lc_up (n := n) (m := m) (fun _ o => ∃ s, o = some (.int s) ∧ oct s) u1.deal (fun _ _ => trivial) (by rw [rangeD_len, szL]; omega) (fun y hy st7 u7 P N hP hN => ?_) fun p3 ys st3 hp3 hF u3 lp3 => ?_⟩
  · clear hN hy
    walk_at "s"
    refine ⟨n, m, rfl, u7.deal, fun x st8 hx u8 => ?_⟩
    exact hP _ st8 ⟨x, rfl, hx⟩ u8
  · obtain ⟨cs, rfl, hl, hc⟩ := hF.ints
    rw [rangeD_len] at hl
    have d3 := hp3.deal u1.deal
    exact endsOf_i (q p3 st3 cs (hp3.back u1 d3.1 d3.2) (u1.trans u3) lp3 (by omega) hc)
end L2.DL

namespace L2.DL
open PySem PySem.Spec PyProof.Rows
local macro_rules | `(tactic| walk_at "s") => `(tactic| try simp only [sqAsg_a, sqDrop_a, sqPar_a, sqPar3_a, sqRet_a, sqNext_a, sqSeq_a, sNext_a, sBreak_a, sCont_a, sDrop_a, sRet_a, sRetN_a, sIf_a, sAsg_a, sPar_a, sPar3_a, mVar_a, vAt_a, mC_a, mBin_a, mTest_a, bAt_a, mAnd_a, mOr_a, mNot_a, mYes_a, mAndV_a, mOrV_a, mNotV_a, mIf_a, mNil_a, mCons_a, mTup_a, mLst_a, mCall_a, mCallK_a, mMeth_a, mSl_a, mNoPart_a, iAt_a, mPart_a, mIsi_b, tysO_some, List.any_cons, List.any_nil, Bool.or_false, Bool.false_or, Bool.or_true, Bool.true_or, Int.natCast_pos, gN_a, gTup_a, gCons_a, gNil_a, gSub_a, sFor_a, mLc_a, mDc_a, wSeq_a, sqO_tup, sqO_str, sqO_ref, wRng1_a, wRng2_b, wRng3_b, wEnum_a, enO_tup, enO_ref, mRev_a, revO_ref, List.getD_cons_zero, List.getD_cons_succ, ite_self, List.set_cons_zero, List.set_cons_succ, List.getElem?_cons_zero, List.getElem?_cons_succ, oAdd_int, oAdd_str, oAdd_tup, oAdd_ref, oSub_int, oMul_int, oDiv_int, oMod_int, oPow_int, oLt_int, oLe_int, oGt_int, oGe_int, oIs_nn, oIs_bn, oIs_in, oIs_sn, oIs_tn, oIs_rn, oIs_bb, oIs_nb, oIs_ib, oIs_sb, oIs_tb, oIs_rb, oIsi_int, oIsi_str, oIsi_bool, oIsi_tuple, oIsi_list, oIsi_dict, tyO_some, tyD_non, tyD_bl, tyD_int, tyD_str, tyD_tup, isi_facts, oEq_int, oNe_int, oEq_str, oNe_str, oSl_tup, oSl_str, oSl_ref, oLen_tup, oLen_str, oLen_ref, oAbs_int, oInt_int, oInt_bl, oMax_int, oMin_int, oTuple_tup, oTuple_ref, oList_tup, oList_str, oList_ref, oIx_tupE, oIx_ref, oAppend_ref, oPop_ref, oExtend_tupE, oSet_ref, isL_ref, isS_str, vO_some, ixO_lst, ixO_dicI, ixO_dicS, ixO_rodI, ixO_rodS, lsO_lst, rdO_lst, rdO_rol, lenO_lst, lenO_dic, lenO_rol, addO_lst, setO_lst, setO_dicI, setO_dicS, atI_zero, atI_one, atI_two, atI_end, startE, wipeE, List.map_cons, List.map_nil, List.length_cons, List.length_nil, List.replicate, List.cons_append, List.nil_append, Nat.reduceAdd, Nat.reduceSub, List.replicate_succ, List.replicate_zero, put_same, Nat.zero_le, Int.reduceLT, Int.reduceLE, Nat.reduceLT, Nat.reduceLeDiff, and_true, true_and, Bool.false_eq_true, ↓reduceIte, Bool.not_true, Bool.not_false, decide_true, decide_false, *])
local macro_rules | `(tactic| walk_at "i") => `(tactic| try simp only [sqIf_a, sqAsg_a, sqDrop_a, sqPar_a, sqPar3_a, sqRet_a, sqNext_a, sqSeq_a, sNext_a, sBreak_a, sCont_a, sDrop_a, sRet_a, sRetN_a, sIf_a, sAsg_a, sPar_a, sPar3_a, mVar_a, vAt_a, mC_a, mBin_a, mTest_a, bAt_a, mAnd_a, mOr_a, mNot_a, mYes_a, mAndV_a, mOrV_a, mNotV_a, mIf_a, mNil_a, mCons_a, mTup_a, mLst_a, mCall_a, mCallK_a, mMeth_a, mSl_a, mNoPart_a, iAt_a, mPart_a, mIsi_b, tysO_some, List.any_cons, List.any_nil, Bool.or_false, Bool.false_or, Bool.or_true, Bool.true_or, Int.natCast_pos, gN_a, gTup_a, gCons_a, gNil_a, gSub_a, sFor_a, mLc_a, mDc_a, wSeq_a, sqO_tup, sqO_str, sqO_ref, wRng1_a, wRng2_b, wRng3_b, wEnum_a, enO_tup, enO_ref, mRev_a, revO_ref, List.getD_cons_zero, List.getD_cons_succ, ite_self, List.set_cons_zero, List.set_cons_succ, List.getElem?_cons_zero, List.getElem?_cons_succ, oAdd_int, oAdd_str, oAdd_tup, oAdd_ref, oSub_int, oMul_int, oDiv_int, oMod_int, oPow_int, oLt_int, oLe_int, oGt_int, oGe_int, oIs_nn, oIs_bn, oIs_in, oIs_sn, oIs_tn, oIs_rn, oIs_bb, oIs_nb, oIs_ib, oIs_sb, oIs_tb, oIs_rb, oIsi_int, oIsi_str, oIsi_bool, oIsi_tuple, oIsi_list, oIsi_dict, tyO_some, tyD_non, tyD_bl, tyD_int, tyD_str, tyD_tup, isi_facts, oEq_int, oNe_int, oEq_str, oNe_str, oSl_tup, oSl_str, oSl_ref, oLen_tup, oLen_str, oLen_ref, oAbs_int, oInt_int, oInt_bl, oMax_int, oMin_int, oTuple_tup, oTuple_ref, oList_tup, oList_str, oList_ref, oIx_tupE, oIx_ref, oAppend_ref, oPop_ref, oExtend_tupE, oSet_ref, isL_ref, isS_str, vO_some, ixO_lst, ixO_dicI, ixO_dicS, ixO_rodI, ixO_rodS, lsO_lst, rdO_lst, rdO_rol, lenO_lst, lenO_dic, lenO_rol, addO_lst, setO_lst, setO_dicI, setO_dicS, atI_zero, atI_one, atI_two, atI_end, startE, wipeE, List.map_cons, List.map_nil, List.length_cons, List.length_nil, List.replicate, List.cons_append, List.nil_append, Nat.reduceAdd, Nat.reduceSub, List.replicate_succ, List.replicate_zero, put_same, Nat.zero_le, Int.reduceLT, Int.reduceLE, Nat.reduceLT, Nat.reduceLeDiff, and_true, true_and, Bool.false_eq_true, ↓reduceIte, Bool.not_true, Bool.not_false, decide_true, decide_false, *])
/-! ### the law's signs and texts -/
def lawC : List Int := (List.range 95).map fun (i : Nat) => if i < 5 then (i : Int) + 32 else if i = 94 then 10 else (i : Int) + 33
theorem lawC_lit : (" !\"#$&'()*+,-./0123456789:;<=>?@ABCDEFGHIJKLMNOPQRSTUVWXYZ[\\]^_`abcdefghijklmnopqrstuvwxyz{|}~\n" : Str) = strOf lawC := by
  refine str_ext ?_
  decide +kernel
theorem lawC_len : lawC.length = 95 := by decide
theorem lawC_ok {x : Int} : okSg x = true ↔ x ∈ lawC := by
  have h1 : ∀ k : Nat, k < 127 → (okSg (k : Int) = true ↔ ((k : Nat) : Int) ∈ lawC) := by decide +kernel
  have h2 : ∀ y ∈ lawC, 0 ≤ y ∧ y < 127 := by decide +kernel
  by_cases h : 0 ≤ x ∧ x < 127
  · have := h1 x.toNat (by omega)
    rw [Int.toNat_of_nonneg h.1] at this
    exact this
  · refine ⟨fun a => ?_, fun a => absurd (h2 x a) h⟩
    exfalso
    unfold okSg at a
    simp only [Bool.or_eq_true, Bool.and_eq_true, decide_eq_true_eq] at a
    omega
theorem okSg_oct {x : Int} (h : okSg x = true) : oct x := by
  unfold okSg at h
  simp only [Bool.or_eq_true, Bool.and_eq_true, decide_eq_true_eq] at h
  unfold oct
  omega
def S_law_signs : DSp := fun vs st Q => vs = [] ∧ ∀ st', Keep st st' → Q (.str (strOf lawC)) st'
/-- _law_signs():  -/
def t_law_signs : MS := sRet (mC (.str " !\"#$&'()*+,-./0123456789:;<=>?@ABCDEFGHIJKLMNOPQRSTUVWXYZ[\\]^_`abcdefghijklmnopqrstuvwxyz{|}~\n"))
theorem kp_law_signs : Keeps 0 0 S_law_signs t_law_signs := by
  refine ⟨fun ds st Q ⟨e, _⟩ => by rw [e]; rfl, fun ds st Q ⟨e, q⟩ => ?_⟩
  subst e
  unfold t_law_signs
  rw [lawC_lit]
  walk_at "s"
  exact endsOf_i (q st .refl)
def S_law_body : DSp := fun vs st Q => ∃ l : List Int, vs = [.str (strOf l)] ∧ l.length ≤ 1000 ∧ (∀ x ∈ l, 0 ≤ x) ∧ ∀ p st', Nf st p → Keep st st' → IL st' p (enc l.length ++ l) → Q (.ref p) st'
/-- _law_body(text): 0 text 1 sign -/
def t_law_body : MS := sRet (mBin oAdd (mCall S_law_number_octets (mCons (mCall oLen (mCons (mVar 0) (mNil))) (mNil))) (mLc (wSeq (mVar 0)) (gN 1) (mYes) (mCall oOrd (mCons (mVar 1) (mNil))) [1]))
theorem kp_law_body : Keeps 1 2 S_law_body t_law_body := by
  refine ⟨fun ds st Q ⟨n, e, _⟩ => by rw [e]; rfl, fun ds st Q ⟨l, e, hl, h0, q⟩ => ?_⟩
  subst e
  have h1 := enc_short (show l.length ≤ 16000 by omega)
  have hs : (strOf l).length ≤ sizeLine := by rw [strOf_len, szL]; omega
  unfold t_law_body
  walk_at "s"
  rw [strOf_len]
  refine ⟨l.length, rfl, by omega, fun p1 st1 hp1 u l1 => ?_⟩
  rw [strOf_signs]
  have l1 : st1 p1 = some (.lst ((enc l.length).map D.int)) := l1
  refine lc_keep (onC fun c => some (.int c)) (fun _ _ => trivial) (by rw [List.length_map, szL]; omega) (fun y hy st2 u2 P N hP hN => ?_) fun p st' hp u3 lp => ?_
  · obtain ⟨x, hx, rfl⟩ := List.mem_map.mp hy
    have h1 := hP (.int x) st2 (onC_ch (h0 x hx)) .refl
    have e := oOrd_ch (h0 x hx) (st := st2) (Q := P)
    clear hP hN
    walk_at "s"
  · rw [onC_map h0, fm_some] at lp
    have hz : ((enc l.length).map D.int).length + (l.map D.int).length ≤ sizeLine := by rw [List.length_map, List.length_map, szL]; omega
    have l2 := u3.l l1
    have u4 := u.trans u3
    clear l1 hp u3 u hp1
    walk_at "s"
    intro p5 hp5
    refine endsOf_i (q p5 _ (hp5.backK u4) (u4.new hp5) ?_)
    unfold IL
    rw [put_same, List.map_append]
theorem Fm.gen {α : Type} {P : α → Prop} {g : α → D} {xs ys : List D} (h : Fm (fun _ o => ∃ s, o = some (g s) ∧ P s) xs ys) : ∃ cs : List α, ys = cs.map g ∧ cs.length = xs.length ∧ ∀ s ∈ cs, P s := by
  induction h with
  | nil => exact ⟨[], rfl, rfl, fun _ h => by cases h⟩
  | yes a _ ih =>
    obtain ⟨cs, rfl, h1, h2⟩ := ih
    obtain ⟨s, e, p⟩ := a
    cases e
    refine ⟨s :: cs, rfl, by simp [h1], fun t ht => ?_⟩
    rcases List.mem_cons.mp ht with rfl | ht
    · exact p
    · exact h2 t ht
  | no a _ _ =>
    obtain ⟨s, e, _⟩ := a
    cases e
/-- a text as the law draws it -/
def TxOk (l : List Int) : Prop := l.length ≤ 300 ∧ ∀ x ∈ l, okSg x = true
def S_law_some_text : DSp := fun vs st Q => ∃ n m, vs = [.ref n] ∧ Deal st n m ∧ ∀ l st', TxOk l → Up n m st st' → Q (.str (strOf l)) st'
/-- _law_some_text(deal): 0 deal 1 signs 2 step 3 start 4 turn -/
def t_law_some_text : MS := sSeq (sAsg (mCall S_law_signs mNil) (gN 1))
    (sSeq (sAsg (mTup (mCons (mCall S_law_of (mCons (mVar 0) (mCons (mLst (mCons (mC (.int 1)) (mCons (mC (.int 7)) (mCons (mC (.int 11)) (mCons (mC (.int 94)) (mNil)))))) (mNil)))) (mCons (mCall S_law_any (mCons (mVar 0) (mCons (mC (.int 95)) (mNil)))) (mNil)))) (gTup 2 (gCons (gN 2) (gCons (gN 3) (gNil)))))
    (sSeq (sIf (mTest (mBin oEq (mCall S_law_any (mCons (mVar 0) (mCons (mC (.int 4)) (mNil)))) (mC (.int 0)))) (sRet (mMeth isS oJoin (mC (.str "")) (mCons (mLc (wRng1 (mCall S_law_of (mCons (mVar 0) (mCons (mLst (mCons (mC (.int 0)) (mCons (mC (.int 1)) (mCons (mC (.int 95)) (mCons (mC (.int 127)) (mCons (mC (.int 128)) (mCons (mC (.int 129)) (mCons (mC (.int 300)) (mNil))))))))) (mNil))))) (gN 4) (mYes) (mBin oIx (mVar 1) (mBin oMod (mCall oInt (mCons (mBin oAdd (mVar 3) (mBin oMul (mVar 4) (mVar 2))) (mNil))) (mC (.int 95)))) [4]) (mNil)))) (sNext))
    (sRet (mMeth isS oJoin (mC (.str "")) (mCons (mLc (wRng1 (mCall S_law_of (mCons (mVar 0) (mCons (mLst (mCons (mC (.int 0)) (mCons (mC (.int 1)) (mCons (mC (.int 2)) (mCons (mC (.int 9)) (mCons (mC (.int 40)) (mNil))))))) (mNil))))) (gN 4) (mYes) (mCall S_law_of (mCons (mVar 0) (mCons (mVar 1) (mNil)))) [4]) (mNil))))))
theorem kp_law_some_text : Keeps 1 5 S_law_some_text t_law_some_text := by
  refine ⟨fun ds st Q ⟨n, m, e, _⟩ => by rw [e]; rfl, fun ds st Q ⟨n, m, e, hd, q⟩ => ?_⟩
  subst e
  have z4 : 0 + 1 + 1 + 1 + 1 ≤ sizeLine := by decide
  have z2 : 0 + 1 + 1 ≤ sizeLine := by decide
  have z5 : 0 + 1 + 1 + 1 + 1 + 1 ≤ sizeLine := by decide
  have z7 : 0 + 1 + 1 + 1 + 1 + 1 + 1 + 1 ≤ sizeLine := by decide
  have hz : (strOf lawC).length ≤ sizeLine := by rw [strOf_len, lawC_len]; decide
  unfold t_law_some_text
  refine sSeq_t fun T hT => ?_
  walk_at "s"
  refine ⟨rfl, fun st1 u1 => ?_⟩
  have v1 := Up.of hd u1
  clear u1
  subst hT
  refine sSeq_t fun T hT => ?_
  walk_at "s"
  intro p hp
  have hdl := hp.deal v1.deal
  refine ⟨n, m, .ref p, _, rfl, v1.deal.put hdl.1 hdl.2, ⟨hdl.1, hdl.2, put_same⟩, by simp, by simp, fun d st2 hdm u2 => ?_⟩
  have v2 := (v1.then (Keep.put hp)).trans u2
  clear v1 u2 hp hdl
  obtain ⟨step, rfl, hst⟩ : ∃ many : Int, d = .int many ∧ 0 ≤ many ∧ many ≤ 300 := by
    simp only [List.mem_cons, List.not_mem_nil, or_false] at hdm
    rcases hdm with rfl | rfl | rfl | rfl
    all_goals exact ⟨_, rfl, by omega, by omega⟩
  refine ⟨n, m, 95, rfl, v2.deal, by omega, by omega, fun start st3 s0 s1 u3 => ?_⟩
  have v3 := v2.trans u3
  clear v2 u3 hdm
  walk_at "s"
  subst hT
  refine sSeq_t fun T hT => ?_
  simp only [sqIf_a, mTest_a, mBin_a, mCall_a, mCons_a, mNil_a, mVar_a, vAt_a, mC_a, List.getElem?_cons_succ, List.getElem?_cons_zero]
  refine ⟨n, m, 4, rfl, v3.deal, by omega, by omega, fun k st4 k0 k1 u4 => ?_⟩
  have v4 := v3.trans u4
  clear v3 u4
  simp only [oEq_int, bAt_a, decide_eq_true_eq]
  by_cases hk : k = 0
  · rw [if_pos hk]
    clear hk k0 k1 hT
    walk_at "s"
    intro p hp
    have hdl := hp.deal v4.deal
    refine ⟨n, m, .ref p, _, rfl, v4.deal.put hdl.1 hdl.2, ⟨hdl.1, hdl.2, put_same⟩, by simp, by simp, fun d st5 hdm u5 => ?_⟩
    have v5 := (v4.then (Keep.put hp)).trans u5
    clear v4 u5 hp hdl
    obtain ⟨many, rfl, hm⟩ : ∃ many : Int, d = .int many ∧ 0 ≤ many ∧ many ≤ 300 := by
      simp only [List.mem_cons, List.not_mem_nil, or_false] at hdm
      rcases hdm with rfl | rfl | rfl | rfl | rfl | rfl | rfl
      all_goals exact ⟨_, rfl, by omega, by omega⟩
    clear hdm
    walk_at "s"
    refine ⟨by omega, lc_up (n := n) (m := m) (fun _ o => ∃ s, o = some (chD s) ∧ okSg s = true) v5.deal (fun _ _ => trivial) (by rw [rangeD_len, szL]; omega) (fun y hy st7 u7 P N hP hN => ?_) fun p3 ys st6 hp3 hF u3 lp3 => ?_⟩
    · obtain ⟨j, hj, rfl⟩ := List.mem_map.mp hy
      rw [List.mem_range] at hj
      have cm : CMulW (0 + (j : Int)) step := wide_mul (a := 10) (b := 10) (by omega) (by omega) (by omega) (by omega) (by omega)
      have eo : ∀ i Q, oIx (.str (strOf lawC)) (.int i) st7 Q = vO (atI (signsD (strOf lawC)) i) st7 Q := fun i Q => oIx_strO hz
      have hn : (start + (0 + (j : Int)) * step) % 95 = (((start + (0 + (j : Int)) * step) % 95).toNat : Nat) := by
        have := Int.emod_nonneg (start + (0 + (j : Int)) * step) (show (95 : Int) ≠ 0 by omega)
        omega
      have hlt : ((start + (0 + (j : Int)) * step) % 95).toNat < 95 := by omega
      generalize ((start + (0 + (j : Int)) * step) % 95).toNat = w at *
      clear hN hy v5 hd
      have ea : ∃ x, atI (signsD (strOf lawC)) ((w : Nat) : Int) = some (chD x) ∧ okSg x = true := by
        rw [strOf_signs, atI_ofNat, List.getElem?_map, List.getElem?_eq_getElem (by rw [lawC_len]; exact hlt)]
        exact ⟨_, rfl, lawC_ok.mpr (List.getElem_mem ..)⟩
      obtain ⟨x, ea, hx⟩ := ea
      have h1 := hP _ st7 ⟨x, rfl, hx⟩ (.refl u7.deal)
      clear hP
      walk_at "s"
    · obtain ⟨cs, rfl, hl, hc⟩ := hF.gen
      rw [rangeD_len] at hl
      walk_at "s"
      refine join_ch (by rw [lp3]; rfl) (by omega) ?_
      exact endsOf_i (q cs st6 ⟨by omega, hc⟩ (v5.trans u3))
  · rw [if_neg hk]
    clear hk k0 k1
    rw [sqNext_a]
    subst hT
    walk_at "s"
    intro p hp
    have hdl := hp.deal v4.deal
    refine ⟨n, m, .ref p, _, rfl, v4.deal.put hdl.1 hdl.2, ⟨hdl.1, hdl.2, put_same⟩, by simp, by simp, fun d st5 hdm u5 => ?_⟩
    have v5 := (v4.then (Keep.put hp)).trans u5
    clear v4 u5 hp hdl
    obtain ⟨many, rfl, hm⟩ : ∃ many : Int, d = .int many ∧ 0 ≤ many ∧ many ≤ 300 := by
      simp only [List.mem_cons, List.not_mem_nil, or_false] at hdm
      rcases hdm with rfl | rfl | rfl | rfl | rfl
      all_goals exact ⟨_, rfl, by omega, by omega⟩
    clear hdm
    walk_at "s"
    refine ⟨by omega, lc_up (n := n) (m := m) (fun _ o => ∃ s, o = some (chD s) ∧ okSg s = true) v5.deal (fun _ _ => trivial) (by rw [rangeD_len, szL]; omega) (fun y hy st7 u7 P N hP hN => ?_) fun p3 ys st6 hp3 hF u3 lp3 => ?_⟩
    · clear hN hy
      walk_at "s"
      refine ⟨n, m, .str (strOf lawC), _, rfl, u7.deal, ⟨hz, rfl⟩, by rw [signsD_len, strOf_len, lawC_len]; omega, by rw [signsD_len, strOf_len, lawC_len]; omega, fun d st8 hd8 u8 => ?_⟩
      rw [strOf_signs] at hd8
      obtain ⟨x, hx, rfl⟩ := List.mem_map.mp hd8
      exact hP _ st8 ⟨x, rfl, lawC_ok.mpr hx⟩ u8
    · obtain ⟨cs, rfl, hl, hc⟩ := hF.gen
      rw [rangeD_len] at hl
      walk_at "s"
      refine join_ch (by rw [lp3]; rfl) (by omega) ?_
      exact endsOf_i (q cs st6 ⟨by omega, hc⟩ (v5.trans u3))
end L2.DL

namespace L2.DL
open PySem PySem.Spec PyProof.Rows
local macro_rules | `(tactic| walk_at "s") => `(tactic| try simp only [sqAsg_a, sqDrop_a, sqPar_a, sqPar3_a, sqRet_a, sqNext_a, sqSeq_a, sNext_a, sBreak_a, sCont_a, sDrop_a, sRet_a, sRetN_a, sIf_a, sAsg_a, sPar_a, sPar3_a, mVar_a, vAt_a, mC_a, mBin_a, mTest_a, bAt_a, mAnd_a, mOr_a, mNot_a, mYes_a, mAndV_a, mOrV_a, mNotV_a, mIf_a, mNil_a, mCons_a, mTup_a, mLst_a, mCall_a, mCallK_a, mMeth_a, mSl_a, mNoPart_a, iAt_a, mPart_a, mIsi_b, tysO_some, List.any_cons, List.any_nil, Bool.or_false, Bool.false_or, Bool.or_true, Bool.true_or, Int.natCast_pos, gN_a, gTup_a, gCons_a, gNil_a, gSub_a, sFor_a, mLc_a, mDc_a, wSeq_a, sqO_tup, sqO_str, sqO_ref, wRng1_a, wRng2_b, wRng3_b, wEnum_a, enO_tup, enO_ref, mRev_a, revO_ref, List.getD_cons_zero, List.getD_cons_succ, ite_self, List.set_cons_zero, List.set_cons_succ, List.getElem?_cons_zero, List.getElem?_cons_succ, oAdd_int, oAdd_str, oAdd_tup, oAdd_ref, oSub_int, oMul_int, oDiv_int, oMod_int, oPow_int, oLt_int, oLe_int, oGt_int, oGe_int, oIs_nn, oIs_bn, oIs_in, oIs_sn, oIs_tn, oIs_rn, oIs_bb, oIs_nb, oIs_ib, oIs_sb, oIs_tb, oIs_rb, oIsi_int, oIsi_str, oIsi_bool, oIsi_tuple, oIsi_list, oIsi_dict, tyO_some, tyD_non, tyD_bl, tyD_int, tyD_str, tyD_tup, isi_facts, oEq_int, oNe_int, oEq_str, oNe_str, oSl_tup, oSl_str, oSl_ref, oLen_tup, oLen_str, oLen_ref, oAbs_int, oInt_int, oInt_bl, oMax_int, oMin_int, oTuple_tup, oTuple_ref, oList_tup, oList_str, oList_ref, oIx_tupE, oIx_ref, oAppend_ref, oPop_ref, oExtend_tupE, oSet_ref, isL_ref, isS_str, vO_some, ixO_lst, ixO_dicI, ixO_dicS, ixO_rodI, ixO_rodS, lsO_lst, rdO_lst, rdO_rol, lenO_lst, lenO_dic, lenO_rol, addO_lst, setO_lst, setO_dicI, setO_dicS, atI_zero, atI_one, atI_two, atI_end, startE, wipeE, List.map_cons, List.map_nil, List.length_cons, List.length_nil, List.replicate, List.cons_append, List.nil_append, Nat.reduceAdd, Nat.reduceSub, List.replicate_succ, List.replicate_zero, put_same, Nat.zero_le, Int.reduceLT, Int.reduceLE, Nat.reduceLT, Nat.reduceLeDiff, and_true, true_and, Bool.false_eq_true, ↓reduceIte, Bool.not_true, Bool.not_false, decide_true, decide_false, *])
local macro_rules | `(tactic| walk_at "i") => `(tactic| try simp only [sqIf_a, sqAsg_a, sqDrop_a, sqPar_a, sqPar3_a, sqRet_a, sqNext_a, sqSeq_a, sNext_a, sBreak_a, sCont_a, sDrop_a, sRet_a, sRetN_a, sIf_a, sAsg_a, sPar_a, sPar3_a, mVar_a, vAt_a, mC_a, mBin_a, mTest_a, bAt_a, mAnd_a, mOr_a, mNot_a, mYes_a, mAndV_a, mOrV_a, mNotV_a, mIf_a, mNil_a, mCons_a, mTup_a, mLst_a, mCall_a, mCallK_a, mMeth_a, mSl_a, mNoPart_a, iAt_a, mPart_a, mIsi_b, tysO_some, List.any_cons, List.any_nil, Bool.or_false, Bool.false_or, Bool.or_true, Bool.true_or, Int.natCast_pos, gN_a, gTup_a, gCons_a, gNil_a, gSub_a, sFor_a, mLc_a, mDc_a, wSeq_a, sqO_tup, sqO_str, sqO_ref, wRng1_a, wRng2_b, wRng3_b, wEnum_a, enO_tup, enO_ref, mRev_a, revO_ref, List.getD_cons_zero, List.getD_cons_succ, ite_self, List.set_cons_zero, List.set_cons_succ, List.getElem?_cons_zero, List.getElem?_cons_succ, oAdd_int, oAdd_str, oAdd_tup, oAdd_ref, oSub_int, oMul_int, oDiv_int, oMod_int, oPow_int, oLt_int, oLe_int, oGt_int, oGe_int, oIs_nn, oIs_bn, oIs_in, oIs_sn, oIs_tn, oIs_rn, oIs_bb, oIs_nb, oIs_ib, oIs_sb, oIs_tb, oIs_rb, oIsi_int, oIsi_str, oIsi_bool, oIsi_tuple, oIsi_list, oIsi_dict, tyO_some, tyD_non, tyD_bl, tyD_int, tyD_str, tyD_tup, isi_facts, oEq_int, oNe_int, oEq_str, oNe_str, oSl_tup, oSl_str, oSl_ref, oLen_tup, oLen_str, oLen_ref, oAbs_int, oInt_int, oInt_bl, oMax_int, oMin_int, oTuple_tup, oTuple_ref, oList_tup, oList_str, oList_ref, oIx_tupE, oIx_ref, oAppend_ref, oPop_ref, oExtend_tupE, oSet_ref, isL_ref, isS_str, vO_some, ixO_lst, ixO_dicI, ixO_dicS, ixO_rodI, ixO_rodS, lsO_lst, rdO_lst, rdO_rol, lenO_lst, lenO_dic, lenO_rol, addO_lst, setO_lst, setO_dicI, setO_dicS, atI_zero, atI_one, atI_two, atI_end, startE, wipeE, List.map_cons, List.map_nil, List.length_cons, List.length_nil, List.replicate, List.cons_append, List.nil_append, Nat.reduceAdd, Nat.reduceSub, List.replicate_succ, List.replicate_zero, put_same, Nat.zero_le, Int.reduceLT, Int.reduceLE, Nat.reduceLT, Nat.reduceLeDiff, and_true, true_and, Bool.false_eq_true, ↓reduceIte, Bool.not_true, Bool.not_false, decide_true, decide_false, *])
theorem first_at {l : List Int} {x : Int} (h : x ∈ l) : ∃ j : Nat, l[j]? = some x ∧ ∀ m : Nat, m < j → l[m]? ≠ some x := by
  induction l with
  | nil => cases h
  | cons y l ih =>
    by_cases e : y = x
    · subst e
      exact ⟨0, rfl, fun m hm => absurd hm (by omega)⟩
    · have hx : x ∈ l := by
        rcases List.mem_cons.mp h with rfl | h
        · exact absurd rfl e
        · exact h
      obtain ⟨j, h1, h2⟩ := ih hx
      refine ⟨j + 1, by simpa using h1, fun m hm => ?_⟩
      cases m with
      | zero => simpa using e
      | succ m => simpa using h2 m (by omega)
theorem flat_ints (l : List Int) : (l.map D.int).all flatD = true := by
  rw [List.all_eq_true]
  intro d hd
  obtain ⟨x, _, rfl⟩ := List.mem_map.mp hd
  rfl
theorem in_ints (x : Int) (l : List Int) : inF (.int x) (l.map D.int) = decide (x ∈ l) := by
  unfold inF
  induction l with
  | nil => rfl
  | cons y l ih =>
    rw [List.map_cons, List.any_cons, ih]
    show ((y == x) || _) = _
    rw [beq_dec_int]
    by_cases e : y = x
    · subst e; simp
    · by_cases h : x ∈ l
      · simp [e, h]
      · have : ¬ x = y := fun c => e c.symm
        simp [e, h, this]
theorem okSg_in (x : Int) : decide (x ∈ lawC) = okSg x := by
  by_cases h : okSg x = true
  · rw [h, decide_eq_true (lawC_ok.mp h)]
  · rw [decide_eq_false (fun c => h (lawC_ok.mpr c))]
    cases e : okSg x with
    | true => exact absurd e h
    | false => rfl
def S_law_text_at : DSp := fun vs st Q => ∃ (a : Addr) (ns : List Int) (i : Int), vs = [.ref a, .int i] ∧ IL st a ns ∧ OctOk ns ∧ ∀ st', Keep st st' → Q (txD (textAt ns i)) st'
/-- _law_text_at(octets, at): 0 octets 1 at 2 told 3 codes 4 signs 5 some 6 sign 7 octet -/
def t_law_text_at : MS := sSeq (sAsg (mCall S_law_number_at (mCons (mVar 0) (mCons (mVar 1) (mNil)))) (gN 2))
    (sSeq (sIf (mOr (mTest (mBin oIs (mVar 2) (mC .non))) (mTest (mBin oGt (mBin oIx (mVar 2) (mC (.int 0))) (mBin oSub (mCall oLen (mCons (mVar 0) (mNil))) (mBin oIx (mVar 2) (mC (.int 1))))))) (sRet (mC .non)) (sNext))
    (sSeq (sAsg (mTup (mCons (mLc (wSeq (mCall S_law_signs mNil)) (gN 6) (mYes) (mCall oOrd (mCons (mVar 6) (mNil))) [6]) (mCons (mCall S_law_signs mNil) (mNil)))) (gTup 2 (gCons (gN 3) (gCons (gN 4) (gNil)))))
    (sSeq (sAsg (mSl (mVar 0) (mPart (mBin oIx (mVar 2) (mC (.int 1)))) (mPart (mBin oAdd (mBin oIx (mVar 2) (mC (.int 1))) (mBin oIx (mVar 2) (mC (.int 0)))))) (gN 5))
    (sSeq (sIf (mTest (mBin oGt (mCall oLen (mCons (mLc (wSeq (mVar 5)) (gN 7) (mTest (mBin oNotIn (mVar 7) (mVar 3))) (mVar 7) [7]) (mNil))) (mC (.int 0)))) (sRet (mC .non)) (sNext))
    (sRet (mTup (mCons (mMeth isS oJoin (mC (.str "")) (mCons (mLc (wSeq (mVar 5)) (gN 7) (mYes) (mBin oIx (mVar 4) (mMeth isL oIndex (mVar 3) (mCons (mVar 7) (mNil)))) [7]) (mNil))) (mCons (mBin oAdd (mBin oIx (mVar 2) (mC (.int 1))) (mBin oIx (mVar 2) (mC (.int 0)))) (mNil)))))))))
theorem kp_law_text_at : Keeps 2 8 S_law_text_at t_law_text_at := by
  refine ⟨fun ds st Q ⟨a, ns, i, e, _⟩ => by rw [e]; rfl, fun ds st Q ⟨a, ns, i, e, la, ho, q⟩ => ?_⟩
  subst e
  have z2 : 0 + 1 + 1 ≤ sizeLine := by decide
  have ho1 := ho.1
  have hz : (strOf lawC).length ≤ sizeLine := by rw [strOf_len, lawC_len]; decide
  have la : st a = some (.lst (ns.map D.int)) := la
  unfold t_law_text_at
  refine sSeq_t fun T hT => ?_
  walk_at "s"
  refine ⟨a, ns, i, rfl, la, ho, fun st1 u => ?_⟩
  have la1 := u.l la
  clear la
  subst hT
  unfold textAt at q
  cases hn : numAt ns i with
  | none =>
    rw [hn] at q
    have q1 := q st1 u
    clear q hn
    unfold numD
    walk_at "i"
    exact endsOf_i q1
  | some p =>
    obtain ⟨v, e⟩ := p
    rw [hn] at q
    obtain ⟨h1, h2, h3, h4⟩ := num_facts ho hn
    clear hn
    simp only at q
    unfold numD
    by_cases c : v > ns.length - e
    · rw [if_pos c] at q
      have q1 := q st1 u
      clear q
      have c' : (ns.length : Int) - e < v := c
      walk_at "i"
      rw [List.length_map]
      walk_at "i"
      exact endsOf_i q1
    · rw [if_neg c] at q
      have c' : ¬ ((ns.map D.int).length : Int) - e < v := by rw [List.length_map]; exact c
      clear c
      have e1 := cutL_ints ns (some e) (some (v + e))
      have hc := ho.cut (some e) (some (v + e))
      rw [Int.add_comm v e] at q hc e1
      generalize cutL ns (some e) (some (e + v)) = b at *
      have hb1 := hc.1
      refine sSeq_t fun T hT => ?_
      walk_at "i"
      subst hT
      refine sSeq_t fun T hT => ?_
      walk_at "s"
      refine ⟨rfl, fun st2 u2 => ?_⟩
      have la2 := u2.l la1
      have u3 := u.trans u2
      clear la1 u u2
      walk_at "s"
      rw [strOf_signs]
      have h0 : ∀ x ∈ lawC, 0 ≤ x := fun x hx => (okSg_oct (lawC_ok.mpr hx)).1
      refine lc_keep (onC fun c => some (.int c)) (fun _ _ => trivial) (by rw [List.length_map, lawC_len, szL]; omega) (fun y hy st3 u4 P N hP hN => ?_) fun p3 st3 hp3 u4 lp => ?_
      · obtain ⟨x, hx, rfl⟩ := List.mem_map.mp hy
        have h1 := hP (.int x) st3 (onC_ch (h0 x hx)) .refl
        have e := oOrd_ch (h0 x hx) (st := st3) (Q := P)
        clear hP hN e1
        walk_at "s"
      rw [onC_map h0, fm_some] at lp
      have la3 := u4.l la2
      have u5 := u3.trans u4
      clear la2 u3 u4 hp3 h0
      refine ⟨rfl, fun st4 u6 => ?_⟩
      have la4 := u6.l la3
      have lp4 := u6.l lp
      have u7 := u5.trans u6
      clear la3 u5 u6 lp
      walk_at "s"
      subst hT
      refine sSeq_t fun T hT => ?_
      walk_at "s"
      intro p5 hp5
      have l5 : put st4 p5 (.lst (b.map D.int)) p5 = some (.lst (b.map D.int)) := put_same
      have lp5 := (Keep.put (o := .lst (b.map D.int)) hp5).l lp4
      have u8 := u7.new (o := .lst (b.map D.int)) hp5
      generalize put st4 p5 (.lst (b.map D.int)) = st5 at *
      clear u7 la4 lp4 hp5
      subst hT
      refine sSeq_t fun T hT => ?_
      simp only [sqIf_a]
      clear e1
      walk_at "s"
      refine lc_keep (onI fun x => if okSg x = true then none else some (.int x)) (fun st' u => by show rdL (st' p5) = _; rw [u.l l5]; rfl) (by rw [List.length_map, szL]; omega) (fun y hy st3 u4 P N hP hN => ?_) fun p6 st6 hp6 u9 l6 => ?_
      · obtain ⟨x, hx, rfl⟩ := List.mem_map.mp hy
        have l3 := u4.l lp5
        rw [onI] at hP hN
        clear l5 lp5
        walk_at "s"
        show oIn (.int x) (.ref p3) st3 _
        refine oIn_ref ?_
        rw [l3, inO_lst, in_ints, okSg_in]
        refine ⟨rfl, flat_ints _, ?_⟩
        refine ⟨_, rfl, ?_⟩
        simp only [bAt_a]
        by_cases ok : okSg x = true
        · rw [ok]
          exact hN st3 (if_pos ok) .refl
        · have ok' : okSg x = false := by cases h : okSg x <;> simp_all
          rw [ok']
          have h1 := hP _ st3 (if_neg ok) .refl
          clear hP hN l3
          walk_at "s"
      rw [onI_map] at l6
      have l56 := u9.l l5
      have lp6 := u9.l lp5
      have u10 := u8.trans u9
      clear l5 lp5 u8 u9 hp6
      by_cases ha : b.all okSg = true
      · rw [if_pos ha] at q
        have hnil : (b.filterMap fun x => if okSg x = true then none else some (D.int x)) = [] := by
          rw [List.filterMap_eq_nil_iff]
          intro x hx
          rw [if_pos (List.all_eq_true.mp ha x hx)]
        rw [hnil] at l6
        walk_at "s"
        subst hT
        walk_at "s"
        refine lc_keep (onI fun x => some (chD x)) (fun st' u => by show rdL (st' p5) = _; rw [u.l l56]; rfl) (by rw [List.length_map, szL]; omega) (fun y hy st7 u11 P N hP hN => ?_) fun p8 st8 hp8 u12 l8 => ?_
        · obtain ⟨x, hx, rfl⟩ := List.mem_map.mp hy
          have l3 := u11.l lp6
          have h1 := hP (chD x) st7 rfl .refl
          have hin := lawC_ok.mp (List.all_eq_true.mp ha x hx)
          obtain ⟨j, hj, hlt⟩ := first_at hin
          have eo : oIx (.str (strOf lawC)) (.int (j : Nat)) st7 P := by
            rw [oIx_strO hz, strOf_signs, atI_ofNat, List.getElem?_map, hj]
            exact h1
          clear l56 lp6 hP hN h1 l6
          walk_at "s"
          refine ⟨lawC.map D.int, j, .int x, by rw [l3]; rfl, rfl, flat_ints _, by rw [List.getElem?_map, hj]; rfl, by show (x == x) = true; simp, fun m z' hm hz' => ?_, eo⟩
          rw [List.getElem?_map, Option.map_eq_some_iff] at hz'
          obtain ⟨w, hw, rfl⟩ := hz'
          show (w == x) = false
          have : w ≠ x := fun c => hlt m hm (by rw [hw, c])
          simpa using this
        · rw [onI_map, fm_some] at l8
          have q1 := q st8 (u10.trans u12)
          clear l56 lp6 l6
          walk_at "s"
          refine join_ch (by rw [l8]; rfl) (by omega) ?_
          walk_at "s"
          exact endsOf_i q1
      · rw [if_neg ha] at q
        have q1 := q st6 u10
        have hpos : 0 < (b.filterMap fun x => if okSg x = true then none else some (D.int x)).length := by
          rw [List.length_pos_iff]
          intro hnil
          rw [List.filterMap_eq_nil_iff] at hnil
          refine ha (List.all_eq_true.mpr fun x hx => ?_)
          have := hnil x hx
          by_cases ok : okSg x = true
          · exact ok
          · rw [if_neg ok] at this; cases this
        generalize (b.filterMap fun x => if okSg x = true then none else some (D.int x)) = ws at *
        have hpos' : (0 : Int) < (ws.length : Nat) := by omega
        clear q
        walk_at "s"
        exact endsOf_i q1
end L2.DL

namespace L2.DL
open PySem PySem.Spec PyProof.Rows
local macro_rules | `(tactic| walk_at "s") => `(tactic| try simp only [sqAsg_a, sqDrop_a, sqPar_a, sqPar3_a, sqRet_a, sqNext_a, sqSeq_a, sNext_a, sBreak_a, sCont_a, sDrop_a, sRet_a, sRetN_a, sIf_a, sAsg_a, sPar_a, sPar3_a, mVar_a, vAt_a, mC_a, mBin_a, mTest_a, bAt_a, mAnd_a, mOr_a, mNot_a, mYes_a, mAndV_a, mOrV_a, mNotV_a, mIf_a, mNil_a, mCons_a, mTup_a, mLst_a, mCall_a, mCallK_a, mMeth_a, mSl_a, mNoPart_a, iAt_a, mPart_a, mIsi_b, tysO_some, List.any_cons, List.any_nil, Bool.or_false, Bool.false_or, Bool.or_true, Bool.true_or, Int.natCast_pos, gN_a, gTup_a, gCons_a, gNil_a, gSub_a, sFor_a, mLc_a, mDc_a, wSeq_a, sqO_tup, sqO_str, sqO_ref, wRng1_a, wRng2_b, wRng3_b, wEnum_a, enO_tup, enO_ref, mRev_a, revO_ref, List.getD_cons_zero, List.getD_cons_succ, ite_self, List.set_cons_zero, List.set_cons_succ, List.getElem?_cons_zero, List.getElem?_cons_succ, oAdd_int, oAdd_str, oAdd_tup, oAdd_ref, oSub_int, oMul_int, oDiv_int, oMod_int, oPow_int, oLt_int, oLe_int, oGt_int, oGe_int, oIs_nn, oIs_bn, oIs_in, oIs_sn, oIs_tn, oIs_rn, oIs_bb, oIs_nb, oIs_ib, oIs_sb, oIs_tb, oIs_rb, oIsi_int, oIsi_str, oIsi_bool, oIsi_tuple, oIsi_list, oIsi_dict, tyO_some, tyD_non, tyD_bl, tyD_int, tyD_str, tyD_tup, isi_facts, oEq_int, oNe_int, oEq_str, oNe_str, oSl_tup, oSl_str, oSl_ref, oLen_tup, oLen_str, oLen_ref, oAbs_int, oInt_int, oInt_bl, oMax_int, oMin_int, oTuple_tup, oTuple_ref, oList_tup, oList_str, oList_ref, oIx_tupE, oIx_ref, oAppend_ref, oPop_ref, oExtend_tupE, oSet_ref, isL_ref, isS_str, vO_some, ixO_lst, ixO_dicI, ixO_dicS, ixO_rodI, ixO_rodS, lsO_lst, rdO_lst, rdO_rol, lenO_lst, lenO_dic, lenO_rol, addO_lst, setO_lst, setO_dicI, setO_dicS, atI_zero, atI_one, atI_two, atI_end, startE, wipeE, List.map_cons, List.map_nil, List.length_cons, List.length_nil, List.replicate, List.cons_append, List.nil_append, Nat.reduceAdd, Nat.reduceSub, List.replicate_succ, List.replicate_zero, put_same, Nat.zero_le, Int.reduceLT, Int.reduceLE, Nat.reduceLT, Nat.reduceLeDiff, and_true, true_and, Bool.false_eq_true, ↓reduceIte, Bool.not_true, Bool.not_false, decide_true, decide_false, *])
local macro_rules | `(tactic| walk_at "i") => `(tactic| try simp only [sqIf_a, sqAsg_a, sqDrop_a, sqPar_a, sqPar3_a, sqRet_a, sqNext_a, sqSeq_a, sNext_a, sBreak_a, sCont_a, sDrop_a, sRet_a, sRetN_a, sIf_a, sAsg_a, sPar_a, sPar3_a, mVar_a, vAt_a, mC_a, mBin_a, mTest_a, bAt_a, mAnd_a, mOr_a, mNot_a, mYes_a, mAndV_a, mOrV_a, mNotV_a, mIf_a, mNil_a, mCons_a, mTup_a, mLst_a, mCall_a, mCallK_a, mMeth_a, mSl_a, mNoPart_a, iAt_a, mPart_a, mIsi_b, tysO_some, List.any_cons, List.any_nil, Bool.or_false, Bool.false_or, Bool.or_true, Bool.true_or, Int.natCast_pos, gN_a, gTup_a, gCons_a, gNil_a, gSub_a, sFor_a, mLc_a, mDc_a, wSeq_a, sqO_tup, sqO_str, sqO_ref, wRng1_a, wRng2_b, wRng3_b, wEnum_a, enO_tup, enO_ref, mRev_a, revO_ref, List.getD_cons_zero, List.getD_cons_succ, ite_self, List.set_cons_zero, List.set_cons_succ, List.getElem?_cons_zero, List.getElem?_cons_succ, oAdd_int, oAdd_str, oAdd_tup, oAdd_ref, oSub_int, oMul_int, oDiv_int, oMod_int, oPow_int, oLt_int, oLe_int, oGt_int, oGe_int, oIs_nn, oIs_bn, oIs_in, oIs_sn, oIs_tn, oIs_rn, oIs_bb, oIs_nb, oIs_ib, oIs_sb, oIs_tb, oIs_rb, oIsi_int, oIsi_str, oIsi_bool, oIsi_tuple, oIsi_list, oIsi_dict, tyO_some, tyD_non, tyD_bl, tyD_int, tyD_str, tyD_tup, isi_facts, oEq_int, oNe_int, oEq_str, oNe_str, oSl_tup, oSl_str, oSl_ref, oLen_tup, oLen_str, oLen_ref, oAbs_int, oInt_int, oInt_bl, oMax_int, oMin_int, oTuple_tup, oTuple_ref, oList_tup, oList_str, oList_ref, oIx_tupE, oIx_ref, oAppend_ref, oPop_ref, oExtend_tupE, oSet_ref, isL_ref, isS_str, vO_some, ixO_lst, ixO_dicI, ixO_dicS, ixO_rodI, ixO_rodS, lsO_lst, rdO_lst, rdO_rol, lenO_lst, lenO_dic, lenO_rol, addO_lst, setO_lst, setO_dicI, setO_dicS, atI_zero, atI_one, atI_two, atI_end, startE, wipeE, List.map_cons, List.map_nil, List.length_cons, List.length_nil, List.replicate, List.cons_append, List.nil_append, Nat.reduceAdd, Nat.reduceSub, List.replicate_succ, List.replicate_zero, put_same, Nat.zero_le, Int.reduceLT, Int.reduceLE, Nat.reduceLT, Nat.reduceLeDiff, and_true, true_and, Bool.false_eq_true, ↓reduceIte, Bool.not_true, Bool.not_false, decide_true, decide_false, *])
/-! ### the law's numbers -/
theorem enc_wide {k : Nat} (h : k < 256 * 2 ^ 1300) : (enc k).length ≤ 200 := by
  refine enc_len_le 199 k (Nat.lt_of_lt_of_le h ?_)
  rw [show (128 : Nat) = 2 ^ 7 from rfl, ← Nat.pow_mul, show (256 : Nat) = 2 ^ 8 from rfl, ← Nat.pow_add]
  exact Nat.pow_le_pow_right (by omega) (by omega)
def S_law_some_number : DSp := fun vs st Q => ∃ n m, vs = [.ref n] ∧ Deal st n m ∧ ∀ (k : Nat) st', (enc k).length ≤ 200 → Up n m st st' → Q (.int k) st'
/-- _law_some_number(deal): 0 deal 1 edge 2 turn 3 some -/
def t_law_some_number : MS := sSeq (sAsg (mBin oPow (mC (.int 128)) (mC (.int 9))) (gN 1))
    (sSeq (sFor (wRng1 (mCall S_law_any (mCons (mVar 0) (mCons (mC (.int 20)) (mNil))))) (gN 2) (sAsg (mBin oMul (mVar 1) (mBin oPow (mC (.int 128)) (mC (.int 9)))) (gN 1)))
    (sSeq (sAsg (mLst (mCons (mC (.int 0)) (mCons (mC (.int 1)) (mCons (mC (.int 127)) (mCons (mC (.int 128)) (mCons (mC (.int 129)) (mCons (mC (.int 255)) (mCons (mC (.int 16383)) (mCons (mC (.int 16384)) (mCons (mC (.int 16385)) (mCons (mC (.int 2097151)) (mCons (mC (.int 2097152)) (mCons (mCall S_law_any (mCons (mVar 0) (mCons (mC (.int 128)) (mNil)))) (mCons (mCall S_law_any (mCons (mVar 0) (mCons (mC (.int 20000)) (mNil)))) (mCons (mCall S_law_wide (mCons (mVar 0) (mCons (mBin oPow (mC (.int 10)) (mC (.int 20))) (mNil)))) (mNil)))))))))))))))) (gN 3))
    (sRet (mCall S_law_of (mCons (mVar 0) (mCons (mBin oAdd (mVar 3) (mLst (mCons (mVar 1) (mCons (mBin oSub (mVar 1) (mC (.int 1))) (mCons (mBin oAdd (mVar 1) (mC (.int 1))) (mCons (mBin oAdd (mBin oMul (mVar 1) (mC (.int 127))) (mCall S_law_wide (mCons (mVar 0) (mCons (mBin oPow (mC (.int 10)) (mC (.int 20))) (mNil))))) (mCons (mBin oSub (mBin oPow (mC (.int 128)) (mC (.int 8))) (mC (.int 1))) (mCons (mBin oPow (mC (.int 128)) (mC (.int 8))) (mNil))))))))) (mNil)))))))
theorem kp_law_some_number : Keeps 1 4 S_law_some_number t_law_some_number := by
  refine ⟨fun ds st Q ⟨n, m, e, _⟩ => by rw [e]; rfl, fun ds st Q ⟨n, m, e, hd, q⟩ => ?_⟩
  subst e
  have c9 : CPow 128 9 := by unfold CPow; decide
  have p9 : (128 : Int) ^ Int.toNat 9 = 9223372036854775808 := by decide
  have c8 : CPow 128 8 := by unfold CPow; decide
  have p8 : (128 : Int) ^ Int.toNat 8 = 72057594037927936 := by decide
  have c20 : CPow 10 20 := by unfold CPow; decide
  have p20 : (10 : Int) ^ Int.toNat 20 = 100000000000000000000 := by decide
  have z14 : 0 + 1 + 1 + 1 + 1 + 1 + 1 + 1 + 1 + 1 + 1 + 1 + 1 + 1 + 1 ≤ sizeLine := by decide
  have z6 : 0 + 1 + 1 + 1 + 1 + 1 + 1 ≤ sizeLine := by decide
  have z20 : 0 + 1 + 1 + 1 + 1 + 1 + 1 + 1 + 1 + 1 + 1 + 1 + 1 + 1 + 1 + (0 + 1 + 1 + 1 + 1 + 1 + 1) ≤ sizeLine := by decide
  obtain ⟨F, f0, fs, f1, fb, fc⟩ : ∃ F : Nat → Int, F 0 = 9223372036854775808 ∧ (∀ i, F (i + 1) = F i * 9223372036854775808) ∧ (∀ i, 1 ≤ F i) ∧ (∀ i, i < 20 → F i < ((2 ^ 1300 : Nat) : Int)) ∧ ∀ i, i < 20 → CMulW (F i) 9223372036854775808 := by
    refine ⟨fun i => ((2 ^ (63 * (i + 1)) : Nat) : Int), rfl, fun i => ?_, fun i => ?_, fun i hi => ?_, fun i hi => ?_⟩
    · show ((2 ^ (63 * (i + 1 + 1)) : Nat) : Int) = ((2 ^ (63 * (i + 1)) : Nat) : Int) * 9223372036854775808
      rw [show 63 * (i + 1 + 1) = 63 * (i + 1) + 63 by omega, Nat.pow_add, Int.natCast_mul]
      rfl
    · have := Nat.one_le_two_pow (n := 63 * (i + 1))
      show (1 : Int) ≤ ((2 ^ (63 * (i + 1)) : Nat) : Int)
      omega
    · exact Int.ofNat_lt.mpr (Nat.pow_lt_pow_right (by omega) (by omega))
    · have hbl : ((2 ^ (63 * (i + 1)) : Nat) : Int).natAbs < 2 ^ (63 * (i + 1) + 1) := by
        rw [Int.natAbs_natCast]
        exact Nat.pow_lt_pow_right (by omega) (by omega)
      exact wide_mul hbl (b := 64) (by omega) (by omega) (by omega) (by omega)
  unfold t_law_some_number
  refine sSeq_t fun T hT => ?_
  walk_at "s"
  subst hT
  refine sSeq_i (fun env st' => ∃ (E : Int) (g : Option D), env = [some (.ref n), some (.int E), g, none] ∧ Up n m st st' ∧ 1 ≤ E ∧ E < ((2 ^ 1300 : Nat) : Int)) (fun nx hnx => ?_) ?_
  · walk_at "s"
    refine ⟨n, m, 20, rfl, hd, by omega, by omega, fun v st1 v0 v1 u1 => ?_⟩
    have p9' := p9
    have f0' := f0
    clear p9 p8 c8 p20 c20 f0
    walk_at "s"
    refine ⟨by omega, fun i env st' => ∃ g, env = [some (.ref n), some (.int (F i)), g, none] ∧ Up n m st st', ⟨none, by first | rw [f0'] | (rw [f0', p9']) , u1⟩, fun _ _ _ _ _ => trivial, ?_, ?_⟩
    · rintro i x env st2 hx ⟨g, rfl, u⟩
      obtain ⟨hk, rfl⟩ := rangeD_get hx
      clear hnx q hx
      have cm := fc i (by omega)
      have ee := fs i
      have p9 := p9'
      clear p9'
      walk_at "s"
      exact ⟨_, rfl⟩
    · rintro env st2 ⟨g, rfl, u⟩
      rw [rangeD_len]
      exact hnx _ _ ⟨_, g, rfl, u, f1 _, fb _ (by omega)⟩
  · rintro env st1 ⟨E, g, rfl, u, h1, hE⟩
    clear f0 fs f1 fb fc F
    have hP : (2 : Nat) ^ 200 ≤ 2 ^ 1300 := Nat.pow_le_pow_right (by omega) (by omega)
    have fin : ∀ (x : Int) st', 0 ≤ x → x < 256 * ((2 ^ 1300 : Nat) : Int) → Up n m st st' → Q (.int x) st' := fun x st' x0 x1 u' => by
      have := q x.toNat st' (enc_wide (by omega)) u'
      rw [Int.toNat_of_nonneg x0] at this
      exact this
    have hbl : E.natAbs < 2 ^ 1300 := by omega
    have cm : CMulW E 127 := wide_mul hbl (b := 8) (by omega) (by omega) (by omega) (by omega)
    clear q hbl
    generalize (2 : Nat) ^ 1300 = P at *
    refine sSeq_t fun T hT => ?_
    clear p8 c8
    walk_at "s"
    refine ⟨n, m, 128, rfl, u.deal, by omega, by omega, fun k1 st2 a1 b1 u2 => ?_⟩
    refine ⟨n, m, 20000, rfl, u2.deal, by omega, by omega, fun k2 st3 a2 b2 u3 => ?_⟩
    walk_at "s"
    refine ⟨n, m, _, rfl, u3.deal, by omega, fun k3 st4 a3 b3 u4 => ?_⟩
    have u5 := ((u.trans u2).trans u3).trans u4
    clear u u2 u3 u4
    walk_at "s"
    intro p hp
    have lp : put st4 p (.lst [.int 0, .int 1, .int 127, .int 128, .int 129, .int 255, .int 16383, .int 16384, .int 16385, .int 2097151, .int 2097152, .int k1, .int k2, .int k3]) p = some (.lst [.int 0, .int 1, .int 127, .int 128, .int 129, .int 255, .int 16383, .int 16384, .int 16385, .int 2097151, .int 2097152, .int k1, .int k2, .int k3]) := put_same
    have hdl := hp.deal u5.deal
    have u6 := u5.then (Keep.put (o := .lst [.int 0, .int 1, .int 127, .int 128, .int 129, .int 255, .int 16383, .int 16384, .int 16385, .int 2097151, .int 2097152, .int k1, .int k2, .int k3]) hp)
    generalize put st4 p (.lst [.int 0, .int 1, .int 127, .int 128, .int 129, .int 255, .int 16383, .int 16384, .int 16385, .int 2097151, .int 2097152, .int k1, .int k2, .int k3]) = st5 at *
    clear u5 hp
    subst hT
    have c8 : CPow 128 8 := by unfold CPow; decide
    have p8 : (128 : Int) ^ Int.toNat 8 = 72057594037927936 := by decide
    have e8 : (72057594037927936 : Int) - 1 = 72057594037927935 := rfl
    clear c9 p9
    walk_at "s"
    refine ⟨n, m, _, rfl, u6.deal, by omega, fun k4 st6 a4 b4 u7 => ?_⟩
    have u8 := u6.trans u7
    have lp2 := u7.l hdl.1 hdl.2 lp
    clear u6 u7 lp hdl
    walk_at "s"
    intro p2 hp2
    have lp3 := (Keep.put (o := .lst [.int E, .int (E - 1), .int (E + 1), .int (E * 127 + k4), .int 72057594037927935, .int 72057594037927936]) hp2).l lp2
    have lq : put st6 p2 (.lst [.int E, .int (E - 1), .int (E + 1), .int (E * 127 + k4), .int 72057594037927935, .int 72057594037927936]) p2 = some (.lst [.int E, .int (E - 1), .int (E + 1), .int (E * 127 + k4), .int 72057594037927935, .int 72057594037927936]) := put_same
    have u9 := u8.then (Keep.put (o := .lst [.int E, .int (E - 1), .int (E + 1), .int (E * 127 + k4), .int 72057594037927935, .int 72057594037927936]) hp2)
    generalize put st6 p2 (.lst [.int E, .int (E - 1), .int (E + 1), .int (E * 127 + k4), .int 72057594037927935, .int 72057594037927936]) = st7 at *
    clear u8 hp2 lp2
    walk_at "s"
    intro p3 hp3
    have hdl := hp3.deal u9.deal
    refine ⟨n, m, .ref p3, _, rfl, u9.deal.put hdl.1 hdl.2, ⟨hdl.1, hdl.2, put_same⟩, by simp, by simp, fun d st8 hdm u10 => ?_⟩
    have u11 := (u9.then (Keep.put hp3)).trans u10
    clear u9 u10 hp3 hdl lp3 lq c20 p20 c8 p8 cm
    simp only [List.cons_append, List.nil_append, List.mem_cons, List.not_mem_nil, or_false] at hdm
    rcases hdm with rfl | rfl | rfl | rfl | rfl | rfl | rfl | rfl | rfl | rfl | rfl | rfl | rfl | rfl | rfl | rfl | rfl | rfl | rfl | rfl
    all_goals exact endsOf_i (fin _ st8 (by omega) (by omega) u11)
end L2.DL

namespace L2.DL
open PySem PySem.Spec PyProof.Rows
local macro_rules | `(tactic| walk_at "s") => `(tactic| try simp only [sqAsg_a, sqDrop_a, sqPar_a, sqPar3_a, sqRet_a, sqNext_a, sqSeq_a, sNext_a, sBreak_a, sCont_a, sDrop_a, sRet_a, sRetN_a, sIf_a, sAsg_a, sPar_a, sPar3_a, mVar_a, vAt_a, mC_a, mBin_a, mTest_a, bAt_a, mAnd_a, mOr_a, mNot_a, mYes_a, mAndV_a, mOrV_a, mNotV_a, mIf_a, mNil_a, mCons_a, mTup_a, mLst_a, mCall_a, mCallK_a, mMeth_a, mSl_a, mNoPart_a, iAt_a, mPart_a, mIsi_b, tysO_some, List.any_cons, List.any_nil, Bool.or_false, Bool.false_or, Bool.or_true, Bool.true_or, Int.natCast_pos, gN_a, gTup_a, gCons_a, gNil_a, gSub_a, sFor_a, mLc_a, mDc_a, wSeq_a, sqO_tup, sqO_str, sqO_ref, wRng1_a, wRng2_b, wRng3_b, wEnum_a, enO_tup, enO_ref, mRev_a, revO_ref, List.getD_cons_zero, List.getD_cons_succ, ite_self, List.set_cons_zero, List.set_cons_succ, List.getElem?_cons_zero, List.getElem?_cons_succ, oAdd_int, oAdd_str, oAdd_tup, oAdd_ref, oSub_int, oMul_int, oDiv_int, oMod_int, oPow_int, oLt_int, oLe_int, oGt_int, oGe_int, oIs_nn, oIs_bn, oIs_in, oIs_sn, oIs_tn, oIs_rn, oIs_bb, oIs_nb, oIs_ib, oIs_sb, oIs_tb, oIs_rb, oIsi_int, oIsi_str, oIsi_bool, oIsi_tuple, oIsi_list, oIsi_dict, tyO_some, tyD_non, tyD_bl, tyD_int, tyD_str, tyD_tup, isi_facts, oEq_int, oNe_int, oEq_str, oNe_str, oSl_tup, oSl_str, oSl_ref, oLen_tup, oLen_str, oLen_ref, oAbs_int, oInt_int, oInt_bl, oMax_int, oMin_int, oTuple_tup, oTuple_ref, oList_tup, oList_str, oList_ref, oIx_tupE, oIx_ref, oAppend_ref, oPop_ref, oExtend_tupE, oSet_ref, isL_ref, isS_str, vO_some, ixO_lst, ixO_dicI, ixO_dicS, ixO_rodI, ixO_rodS, lsO_lst, rdO_lst, rdO_rol, lenO_lst, lenO_dic, lenO_rol, addO_lst, setO_lst, setO_dicI, setO_dicS, atI_zero, atI_one, atI_two, atI_end, startE, wipeE, List.map_cons, List.map_nil, List.length_cons, List.length_nil, List.replicate, List.cons_append, List.nil_append, Nat.reduceAdd, Nat.reduceSub, List.replicate_succ, List.replicate_zero, put_same, Nat.zero_le, Int.reduceLT, Int.reduceLE, Nat.reduceLT, Nat.reduceLeDiff, and_true, true_and, Bool.false_eq_true, ↓reduceIte, Bool.not_true, Bool.not_false, decide_true, decide_false, *])
local macro_rules | `(tactic| walk_at "i") => `(tactic| try simp only [sqIf_a, sqAsg_a, sqDrop_a, sqPar_a, sqPar3_a, sqRet_a, sqNext_a, sqSeq_a, sNext_a, sBreak_a, sCont_a, sDrop_a, sRet_a, sRetN_a, sIf_a, sAsg_a, sPar_a, sPar3_a, mVar_a, vAt_a, mC_a, mBin_a, mTest_a, bAt_a, mAnd_a, mOr_a, mNot_a, mYes_a, mAndV_a, mOrV_a, mNotV_a, mIf_a, mNil_a, mCons_a, mTup_a, mLst_a, mCall_a, mCallK_a, mMeth_a, mSl_a, mNoPart_a, iAt_a, mPart_a, mIsi_b, tysO_some, List.any_cons, List.any_nil, Bool.or_false, Bool.false_or, Bool.or_true, Bool.true_or, Int.natCast_pos, gN_a, gTup_a, gCons_a, gNil_a, gSub_a, sFor_a, mLc_a, mDc_a, wSeq_a, sqO_tup, sqO_str, sqO_ref, wRng1_a, wRng2_b, wRng3_b, wEnum_a, enO_tup, enO_ref, mRev_a, revO_ref, List.getD_cons_zero, List.getD_cons_succ, ite_self, List.set_cons_zero, List.set_cons_succ, List.getElem?_cons_zero, List.getElem?_cons_succ, oAdd_int, oAdd_str, oAdd_tup, oAdd_ref, oSub_int, oMul_int, oDiv_int, oMod_int, oPow_int, oLt_int, oLe_int, oGt_int, oGe_int, oIs_nn, oIs_bn, oIs_in, oIs_sn, oIs_tn, oIs_rn, oIs_bb, oIs_nb, oIs_ib, oIs_sb, oIs_tb, oIs_rb, oIsi_int, oIsi_str, oIsi_bool, oIsi_tuple, oIsi_list, oIsi_dict, tyO_some, tyD_non, tyD_bl, tyD_int, tyD_str, tyD_tup, isi_facts, oEq_int, oNe_int, oEq_str, oNe_str, oSl_tup, oSl_str, oSl_ref, oLen_tup, oLen_str, oLen_ref, oAbs_int, oInt_int, oInt_bl, oMax_int, oMin_int, oTuple_tup, oTuple_ref, oList_tup, oList_str, oList_ref, oIx_tupE, oIx_ref, oAppend_ref, oPop_ref, oExtend_tupE, oSet_ref, isL_ref, isS_str, vO_some, ixO_lst, ixO_dicI, ixO_dicS, ixO_rodI, ixO_rodS, lsO_lst, rdO_lst, rdO_rol, lenO_lst, lenO_dic, lenO_rol, addO_lst, setO_lst, setO_dicI, setO_dicS, atI_zero, atI_one, atI_two, atI_end, startE, wipeE, List.map_cons, List.map_nil, List.length_cons, List.length_nil, List.replicate, List.cons_append, List.nil_append, Nat.reduceAdd, Nat.reduceSub, List.replicate_succ, List.replicate_zero, put_same, Nat.zero_le, Int.reduceLT, Int.reduceLE, Nat.reduceLT, Nat.reduceLeDiff, and_true, true_and, Bool.false_eq_true, ↓reduceIte, Bool.not_true, Bool.not_false, decide_true, decide_false, *])
/-! ### the law of numbers and texts -/
theorem numAt_whole (pre t : List Int) (k : Nat) : numAt (pre ++ enc k ++ t) (pre.length : Nat) = some ((k : Int), ((pre.length + (enc k).length : Nat) : Int)) := by
  rw [List.append_assoc, numAt_pre, numL_enc]
  rfl
theorem textAt_whole (pre l t : List Int) (h : ∀ x ∈ l, okSg x = true) : textAt (pre ++ (enc l.length ++ l) ++ t) (pre.length : Nat) = some (strOf l, ((pre.length + (enc l.length ++ l).length : Nat) : Int)) := by
  have e0 : pre ++ (enc l.length ++ l) ++ t = pre ++ enc l.length ++ (l ++ t) := by simp
  have en : numAt (pre ++ (enc l.length ++ l) ++ t) (pre.length : Nat) = some ((l.length : Int), ((pre.length + (enc l.length).length : Nat) : Int)) := by
    rw [e0]
    exact numAt_whole _ _ _
  have c1 : cutL (pre ++ (enc l.length ++ l) ++ t) (some ((pre.length + (enc l.length).length : Nat) : Int)) (some ((l.length : Int) + ((pre.length + (enc l.length).length : Nat) : Int))) = l := by
    rw [show (l.length : Int) + ((pre.length + (enc l.length).length : Nat) : Int) = ((pre.length + (enc l.length).length + l.length : Nat) : Int) by omega, cutL_mid, e0]
    rw [show pre.length + (enc l.length).length = (pre ++ enc l.length).length by rw [List.length_append], List.drop_left]
    rw [show (pre ++ enc l.length).length + l.length - (pre ++ enc l.length).length = l.length by omega, List.take_left]
  unfold textAt
  rw [en]
  simp only
  rw [c1, if_neg (by simp only [List.length_append]; omega), if_pos (List.all_eq_true.mpr h)]
  congr 2
  rw [List.length_append]
  omega
theorem sumR_rep (x : Int) : ∀ (n : Nat) (k : Int), 2 * sumR k (List.replicate n x) = x * (n * (n + 2 * k + 1))
  | 0, k => by simp [sumR]
  | n + 1, k => by
    rw [List.replicate_succ, sumR, Int.mul_add, sumR_rep x n (k + 1), ← Int.mul_assoc, Int.mul_comm (2 * (k + 1)) x, ← Int.mul_add]
    congr 1
    have e1 : ((n + 1 : Nat) : Int) = (n : Int) + 1 := by omega
    rw [e1]
    simp only [Int.mul_add, Int.add_mul, Int.mul_one, Int.one_mul]
    have e2 : (n : Int) * (2 * k) = 2 * k * n := by rw [Int.mul_comm]
    have e3 : (n : Int) * 2 = 2 * n := by rw [Int.mul_comm]
    omega
theorem sum3000 : sumO (List.replicate 3000 255) = (255 : Int) * 3000 * 3001 / 2 % 65521 := by
  have h := sumR_rep 255 3000 0
  unfold sumO
  generalize sumR 0 (List.replicate 3000 255) = s at *
  omega
theorem okP_num (o : Option (Int × Int)) : okP2 (numD o) := by
  cases o <;> exact ⟨rfl, by simp [numD, wD, wD.wDs]⟩
theorem okP_tx (o : Option (Str × Int)) : okP2 (txD o) := by
  cases o <;> exact ⟨rfl, by simp [txD, wD, wD.wDs]⟩
theorem okP_int (x : Int) : okP2 (.int x) := ⟨rfl, by simp [wD]⟩
structure NS (st : Sto) (n m c : Addr) (k : Nat) : Prop where
  deal : Deal st n m
  lc : ∃ ds : List D, st c = some (.lst (ds.map twice)) ∧ ds.length ≤ k ∧ ∀ d ∈ ds, okP2 d
  cn : c ≠ n
  cm : c ≠ m
theorem NS.keep {st st' : Sto} {n m c : Addr} {k : Nat} (h : NS st n m c k) (u : Keep st st') : NS st' n m c k :=
  ⟨h.deal.keep u, (by obtain ⟨ds, l, q⟩ := h.lc; exact ⟨ds, u.l l, q⟩), h.cn, h.cm⟩
theorem NS.new {st : Sto} {n m c p : Addr} {o : Ob} {k : Nat} (h : NS st n m c k) (hp : Nf st p) : NS (put st p o) n m c k := h.keep (Keep.put hp)
theorem NS.up {st st' : Sto} {n m c : Addr} {k : Nat} (h : NS st n m c k) (u : Up n m st st') : NS st' n m c k :=
  ⟨u.deal, (by obtain ⟨ds, l, q⟩ := h.lc; exact ⟨ds, u.l h.cn h.cm l, q⟩), h.cn, h.cm⟩
theorem NS.rd {st : Sto} {n m c : Addr} {k : Nat} (h : NS st n m c k) : rdO (st c) fun _ => True := by
  obtain ⟨ds, l, _⟩ := h.lc
  rw [l]; trivial
/-- apart from what changes -/
def Of3 (n m c a : Addr) : Prop := a ≠ n ∧ a ≠ m ∧ a ≠ c
theorem NS.off {st : Sto} {n m c p : Addr} {k : Nat} (h : NS st n m c k) (hp : Nf st p) : Of3 n m c p := by
  obtain ⟨ds, l, _⟩ := h.lc
  exact ⟨(hp.deal h.deal).1, (hp.deal h.deal).2, hp.ne l⟩
theorem NS.push {st : Sto} {n m c : Addr} {k : Nat} {d : D} {K : Sto → Prop} (h : NS st n m c k) (hd : okP2 d) (hk : k < 1000) (q : ∀ st', NS st' n m c (k + 1) → (∀ a o, a ≠ c → st a = some o → st' a = some o) → K st') :
    lsO (st c) fun xs => xs.length < sizeLine ∧ K (put st c (.lst (xs ++ [.tup [d, d]]))) := by
  obtain ⟨ds, l, hl, ho⟩ := h.lc
  rw [l, lsO_lst]
  refine ⟨by rw [List.length_map, szL]; omega, q _ ⟨h.deal.put h.cn h.cm, ⟨ds ++ [d], by rw [put_same, List.map_append]; rfl, by rw [List.length_append, List.length_singleton]; omega, fun e he => ?_⟩, h.cn, h.cm⟩ fun a o ha e => by rw [put_ne ha]; exact e⟩
  rcases List.mem_append.mp he with he | he
  · exact ho e he
  · rw [List.mem_singleton.mp he]; exact hd
theorem NS.more {st : Sto} {n m c : Addr} {k j : Nat} (h : NS st n m c k) (hj : k ≤ j) : NS st n m c j :=
  ⟨h.deal, (by obtain ⟨ds, l, a, b⟩ := h.lc; exact ⟨ds, l, by omega, b⟩), h.cn, h.cm⟩
def WO (st : Sto) (n m c : Addr) (ws : List Addr) : Prop := ∀ w ∈ ws, Of3 n m c w ∧ ∃ l : List Int, IL st w l ∧ l.length ≤ 5 ∧ ∀ x ∈ l, oct x
theorem WO.keep {st st' : Sto} {n m c : Addr} {ws : List Addr} (h : WO st n m c ws) (u : Keep st st') : WO st' n m c ws := fun w hw => by
  obtain ⟨o, l, a, b⟩ := h w hw
  exact ⟨o, l, u.l a, b⟩
theorem WO.add {st : Sto} {n m c p : Addr} {ws : List Addr} {k : Nat} {l : List Int} (h : WO st n m c ws) (fs : NS st n m c k) (hp : Nf st p) (hl : l.length ≤ 5) (ho : ∀ x ∈ l, oct x) : WO (put st p (.lst (l.map D.int))) n m c (p :: ws) := fun w hw => by
  rcases List.mem_cons.mp hw with rfl | hw
  · exact ⟨fs.off hp, l, put_same, hl, ho⟩
  · exact h.keep (Keep.put hp) w hw
theorem oct_dec {l : List Int} (h : l.all (fun x => decide (0 ≤ x) && decide (x < 256)) = true) : ∀ x ∈ l, oct x := fun x hx => by
  have := List.all_eq_true.mp h x hx
  simpa [oct] using this
theorem oct_app {a b : List Int} (ha : ∀ x ∈ a, oct x) (hb : ∀ x ∈ b, oct x) : ∀ x ∈ a ++ b, oct x := fun x hx => by
  rcases List.mem_append.mp hx with hx | hx
  · exact ha x hx
  · exact hb x hx
end L2.DL

namespace L2.DL
open PySem PySem.Spec PyProof.Rows
local macro_rules | `(tactic| walk_at "s") => `(tactic| try simp only [sqAsg_a, sqDrop_a, sqPar_a, sqPar3_a, sqRet_a, sqNext_a, sqSeq_a, sNext_a, sBreak_a, sCont_a, sDrop_a, sRet_a, sRetN_a, sIf_a, sAsg_a, sPar_a, sPar3_a, mVar_a, vAt_a, mC_a, mBin_a, mTest_a, bAt_a, mAnd_a, mOr_a, mNot_a, mYes_a, mAndV_a, mOrV_a, mNotV_a, mIf_a, mNil_a, mCons_a, mTup_a, mLst_a, mCall_a, mCallK_a, mMeth_a, mSl_a, mNoPart_a, iAt_a, mPart_a, mIsi_b, tysO_some, List.any_cons, List.any_nil, Bool.or_false, Bool.false_or, Bool.or_true, Bool.true_or, Int.natCast_pos, gN_a, gTup_a, gCons_a, gNil_a, gSub_a, sFor_a, mLc_a, mDc_a, wSeq_a, sqO_tup, sqO_str, sqO_ref, wRng1_a, wRng2_b, wRng3_b, wEnum_a, enO_tup, enO_ref, mRev_a, revO_ref, List.getD_cons_zero, List.getD_cons_succ, ite_self, List.set_cons_zero, List.set_cons_succ, List.getElem?_cons_zero, List.getElem?_cons_succ, oAdd_int, oAdd_str, oAdd_tup, oAdd_ref, oSub_int, oMul_int, oDiv_int, oMod_int, oPow_int, oLt_int, oLe_int, oGt_int, oGe_int, oIs_nn, oIs_bn, oIs_in, oIs_sn, oIs_tn, oIs_rn, oIs_bb, oIs_nb, oIs_ib, oIs_sb, oIs_tb, oIs_rb, oIsi_int, oIsi_str, oIsi_bool, oIsi_tuple, oIsi_list, oIsi_dict, tyO_some, tyD_non, tyD_bl, tyD_int, tyD_str, tyD_tup, isi_facts, oEq_int, oNe_int, oEq_str, oNe_str, oSl_tup, oSl_str, oSl_ref, oLen_tup, oLen_str, oLen_ref, oAbs_int, oInt_int, oInt_bl, oMax_int, oMin_int, oTuple_tup, oTuple_ref, oList_tup, oList_str, oList_ref, oIx_tupE, oIx_ref, oAppend_ref, oPop_ref, oExtend_tupE, oSet_ref, isL_ref, isS_str, vO_some, ixO_lst, ixO_dicI, ixO_dicS, ixO_rodI, ixO_rodS, lsO_lst, rdO_lst, rdO_rol, lenO_lst, lenO_dic, lenO_rol, addO_lst, setO_lst, setO_dicI, setO_dicS, atI_zero, atI_one, atI_two, atI_end, startE, wipeE, List.map_cons, List.map_nil, List.length_cons, List.length_nil, List.replicate, List.cons_append, List.nil_append, Nat.reduceAdd, Nat.reduceSub, List.replicate_succ, List.replicate_zero, put_same, Nat.zero_le, Int.reduceLT, Int.reduceLE, Nat.reduceLT, Nat.reduceLeDiff, and_true, true_and, Bool.false_eq_true, ↓reduceIte, Bool.not_true, Bool.not_false, decide_true, decide_false, *])
local macro_rules | `(tactic| walk_at "i") => `(tactic| try simp only [sqIf_a, sqAsg_a, sqDrop_a, sqPar_a, sqPar3_a, sqRet_a, sqNext_a, sqSeq_a, sNext_a, sBreak_a, sCont_a, sDrop_a, sRet_a, sRetN_a, sIf_a, sAsg_a, sPar_a, sPar3_a, mVar_a, vAt_a, mC_a, mBin_a, mTest_a, bAt_a, mAnd_a, mOr_a, mNot_a, mYes_a, mAndV_a, mOrV_a, mNotV_a, mIf_a, mNil_a, mCons_a, mTup_a, mLst_a, mCall_a, mCallK_a, mMeth_a, mSl_a, mNoPart_a, iAt_a, mPart_a, mIsi_b, tysO_some, List.any_cons, List.any_nil, Bool.or_false, Bool.false_or, Bool.or_true, Bool.true_or, Int.natCast_pos, gN_a, gTup_a, gCons_a, gNil_a, gSub_a, sFor_a, mLc_a, mDc_a, wSeq_a, sqO_tup, sqO_str, sqO_ref, wRng1_a, wRng2_b, wRng3_b, wEnum_a, enO_tup, enO_ref, mRev_a, revO_ref, List.getD_cons_zero, List.getD_cons_succ, ite_self, List.set_cons_zero, List.set_cons_succ, List.getElem?_cons_zero, List.getElem?_cons_succ, oAdd_int, oAdd_str, oAdd_tup, oAdd_ref, oSub_int, oMul_int, oDiv_int, oMod_int, oPow_int, oLt_int, oLe_int, oGt_int, oGe_int, oIs_nn, oIs_bn, oIs_in, oIs_sn, oIs_tn, oIs_rn, oIs_bb, oIs_nb, oIs_ib, oIs_sb, oIs_tb, oIs_rb, oIsi_int, oIsi_str, oIsi_bool, oIsi_tuple, oIsi_list, oIsi_dict, tyO_some, tyD_non, tyD_bl, tyD_int, tyD_str, tyD_tup, isi_facts, oEq_int, oNe_int, oEq_str, oNe_str, oSl_tup, oSl_str, oSl_ref, oLen_tup, oLen_str, oLen_ref, oAbs_int, oInt_int, oInt_bl, oMax_int, oMin_int, oTuple_tup, oTuple_ref, oList_tup, oList_str, oList_ref, oIx_tupE, oIx_ref, oAppend_ref, oPop_ref, oExtend_tupE, oSet_ref, isL_ref, isS_str, vO_some, ixO_lst, ixO_dicI, ixO_dicS, ixO_rodI, ixO_rodS, lsO_lst, rdO_lst, rdO_rol, lenO_lst, lenO_dic, lenO_rol, addO_lst, setO_lst, setO_dicI, setO_dicS, atI_zero, atI_one, atI_two, atI_end, startE, wipeE, List.map_cons, List.map_nil, List.length_cons, List.length_nil, List.replicate, List.cons_append, List.nil_append, Nat.reduceAdd, Nat.reduceSub, List.replicate_succ, List.replicate_zero, put_same, Nat.zero_le, Int.reduceLT, Int.reduceLE, Nat.reduceLT, Nat.reduceLeDiff, and_true, true_and, Bool.false_eq_true, ↓reduceIte, Bool.not_true, Bool.not_false, decide_true, decide_false, *])

theorem rep_flat (x : Int) : ∀ k : Nat, (List.replicate k [D.int x]).flatten = (List.replicate k x).map D.int
  | 0 => rfl
  | k + 1 => by rw [List.replicate_succ, List.flatten_cons, rep_flat x k, List.replicate_succ, List.map_cons]; rfl
def S_law : DSp := fun vs st Q => ∃ (a : Addr) (ns : List Int), vs = [.ref a] ∧ st a = some (.rol (ns.map D.int)) ∧ ∀ st', Q (.bl true) st'
/-- law(script): 0 script 1 deal 2 pairs 3 turn 4 number 5 ahead 6 behind 7 due 8 octets 9 text 10 body 11 whole 12 at 13 bent 14 place 15 row -/
def t_law : MS := sSeq (sAsg (mCall S_law_deal (mCons (mVar 0) (mCons (mC (.int 81)) (mNil)))) (gN 1))
    (sSeq (sAsg (mLst (mNil)) (gN 2))
    (sSeq (sFor (wRng1 (mC (.int 6))) (gN 3) (sSeq (sPar3 4 5 6 (mCons (mCall S_law_some_number (mCons (mVar 1) (mNil))) (mCons (mCall S_law_noise (mCons (mVar 1) (mCons (mC (.int 9)) (mNil)))) (mCons (mCall S_law_noise (mCons (mVar 1) (mCons (mC (.int 9)) (mNil)))) (mNil)))))
    (sSeq (sAsg (mCall S_law_number_octets (mCons (mVar 4) (mNil))) (gN 7))
    (sSeq (sDrop (mMeth isL oAppend (mVar 2) (mCons (mTup (mCons (mIf (mTest (mBin oLt (mVar 3) (mC (.int 3)))) (mCall S_number_octets (mCons (mVar 4) (mNil))) (mCallK 1 [0] S_number_octets (mCons (mVar 4) (mNil)))) (mCons (mCall oTuple (mCons (mVar 7) (mNil))) (mNil)))) (mNil))))
    (sSeq (sAsg (mBin oAdd (mBin oAdd (mVar 5) (mVar 7)) (mVar 6)) (gN 8))
    (sSeq (sDrop (mMeth isL oAppend (mVar 2) (mCons (mTup (mCons (mCall S_read_number (mCons (mCall oTuple (mCons (mVar 8) (mNil))) (mCons (mCall oLen (mCons (mVar 5) (mNil))) (mNil)))) (mCons (mTup (mCons (mVar 4) (mCons (mBin oAdd (mCall oLen (mCons (mVar 5) (mNil))) (mCall oLen (mCons (mVar 7) (mNil)))) (mNil)))) (mNil)))) (mNil))))
    (sSeq (sAsg (mCall S_law_some_text (mCons (mVar 1) (mNil))) (gN 9))
    (sSeq (sAsg (mCall S_law_body (mCons (mVar 9) (mNil))) (gN 10))
    (sSeq (sDrop (mMeth isL oAppend (mVar 2) (mCons (mTup (mCons (mIf (mTest (mBin oLt (mVar 3) (mC (.int 3)))) (mCall S_text_octets (mCons (mVar 9) (mNil))) (mCallK 1 [0] S_text_octets (mCons (mVar 9) (mNil)))) (mCons (mCall oTuple (mCons (mVar 10) (mNil))) (mNil)))) (mNil))))
    (sSeq (sAsg (mBin oAdd (mBin oAdd (mVar 5) (mVar 10)) (mVar 6)) (gN 11))
    (sSeq (sDrop (mMeth isL oAppend (mVar 2) (mCons (mTup (mCons (mCallK 2 [0, 1] S_read_text (mCons (mCall oTuple (mCons (mVar 11) (mNil))) (mCons (mCall oLen (mCons (mVar 5) (mNil))) (mNil)))) (mCons (mTup (mCons (mVar 9) (mCons (mBin oAdd (mCall oLen (mCons (mVar 5) (mNil))) (mCall oLen (mCons (mVar 10) (mNil)))) (mNil)))) (mNil)))) (mNil))))
    (sSeq (sAsg (mCall S_law_any (mCons (mVar 1) (mCons (mCall oLen (mCons (mVar 11) (mNil))) (mNil)))) (gN 12))
    (sSeq (sAsg (mBin oAdd (mBin oAdd (mSl (mVar 11) (mNoPart) (mPart (mVar 12))) (mCall S_law_of (mCons (mVar 1) (mCons (mLst (mCons (mLst (mCons (mCall S_law_octet (mCons (mVar 1) (mNil))) (mNil))) (mCons (mLst (mCons (mC (.int 37)) (mNil))) (mCons (mLst (mCons (mC (.int 9)) (mNil))) (mCons (mLst (mCons (mC (.int 127)) (mNil))) (mCons (mLst (mNil)) (mCons (mLst (mCons (mC (.int 0)) (mNil))) (mCons (mLst (mCons (mC (.int 200)) (mCons (mC (.int 0)) (mNil)))) (mCons (mLst (mCons (mC (.int 13)) (mNil))) (mNil)))))))))) (mNil))))) (mSl (mVar 11) (mPart (mBin oAdd (mVar 12) (mC (.int 1)))) (mNoPart))) (gN 13))
    (sSeq (sFor (wSeq (mLst (mCons (mCall oLen (mCons (mVar 5) (mNil))) (mCons (mVar 12) (mCons (mC (.int 0)) (mCons (mCall S_law_any (mCons (mVar 1) (mCons (mBin oAdd (mCall oLen (mCons (mVar 11) (mNil))) (mC (.int 3))) (mNil)))) (mCons (mBin oSub (mBin oSub (mC (.int 0)) (mC (.int 1))) (mCall S_law_any (mCons (mVar 1) (mCons (mC (.int 9)) (mNil))))) (mCons (mCall oLen (mCons (mVar 13) (mNil))) (mCons (mBin oPow (mC (.int 10)) (mC (.int 15))) (mNil)))))))))) (gN 14) (sSeq (sDrop (mMeth isL oAppend (mVar 2) (mCons (mTup (mCons (mCall S_read_number (mCons (mCall oTuple (mCons (mVar 13) (mNil))) (mCons (mVar 14) (mNil)))) (mCons (mCall S_law_number_at (mCons (mVar 13) (mCons (mVar 14) (mNil)))) (mNil)))) (mNil))))
    (sDrop (mMeth isL oAppend (mVar 2) (mCons (mTup (mCons (mCall S_read_text (mCons (mCall oTuple (mCons (mVar 13) (mNil))) (mCons (mVar 14) (mNil)))) (mCons (mCall S_law_text_at (mCons (mVar 13) (mCons (mVar 14) (mNil)))) (mNil)))) (mNil))))))
    (sSeq (sAsg (mCall S_law_noise (mCons (mVar 1) (mCons (mC (.int 200)) (mNil)))) (gN 15))
    (sSeq (sDrop (mMeth isL oAppend (mVar 2) (mCons (mTup (mCons (mCall S_sum_of_octets (mCons (mCall oTuple (mCons (mVar 15) (mNil))) (mNil))) (mCons (mCall S_law_sum (mCons (mVar 15) (mNil))) (mNil)))) (mNil))))
    (sDrop (mMeth isL oAppend (mVar 2) (mCons (mTup (mCons (mCallK 1 [0] S_sum_of_octets (mCons (mCall oTuple (mCons (mVar 11) (mNil))) (mNil))) (mCons (mCall S_law_sum (mCons (mVar 11) (mNil))) (mNil)))) (mNil))))))))))))))))))))
    (sSeq (sDrop (mMeth isL oAppend (mVar 2) (mCons (mTup (mCons (mCall S_sum_of_octets (mCons (mBin oMul (mTup (mCons (mC (.int 255)) (mNil))) (mC (.int 3000))) (mNil))) (mCons (mBin oMod (mCall oInt (mCons (mBin oDiv (mBin oMul (mBin oMul (mC (.int 255)) (mC (.int 3000))) (mC (.int 3001))) (mC (.int 2))) (mNil))) (mC (.int 65521))) (mNil)))) (mNil))))
    (sRet (mCall S_law_all (mCons (mVar 2) (mNil)))))))
theorem kp_law : Keeps 1 16 S_law t_law := by
  refine ⟨fun ds st Q ⟨a, ns, e, _⟩ => by rw [e]; rfl, fun ds st Q ⟨a, ns, e, la, q⟩ => ?_⟩
  subst e
  have z0 : 0 ≤ sizeLine := by decide
  have z1 : 0 + 1 ≤ sizeLine := by decide
  have z2 : 0 + 1 + 1 ≤ sizeLine := by decide
  have z7 : 0 + 1 + 1 + 1 + 1 + 1 + 1 + 1 ≤ sizeLine := by decide
  have z8 : 0 + 1 + 1 + 1 + 1 + 1 + 1 + 1 + 1 ≤ sizeLine := by decide
  have c15 : CPow 10 15 := by unfold CPow; decide
  have p15 : (10 : Int) ^ Int.toNat 15 = 1000000000000000 := by decide
  unfold t_law
  refine sSeq_t fun T hT => ?_
  walk_at "s"
  refine ⟨a, ns, 81, rfl, la, by omega, by omega, fun n m st0 hd0 => ?_⟩
  clear la
  subst hT
  refine sSeq_t fun T hT => ?_
  walk_at "s"
  intro c hc
  have hcd := hc.deal hd0
  have nsA : NS (put st0 c (.lst [])) n m c 0 := ⟨hd0.put hcd.1 hcd.2, ⟨[], put_same, by simp, by simp⟩, hcd.1, hcd.2⟩
  generalize put st0 c (.lst []) = stA at *
  clear hc hcd hd0
  subst hT
  refine sSeq_i (fun env st' => ∃ (g3 g4 g5 g6 g7 g8 g9 g10 g11 g12 g13 g14 g15 : Option D), env = [some (.ref a), some (.ref n), some (.ref c), g3, g4, g5, g6, g7, g8, g9, g10, g11, g12, g13, g14, g15] ∧ NS st' n m c 120) (fun nx hnx => ?_) ?_
  · walk_at "s"
    refine ⟨by omega, fun i env st' => ∃ (g3 g4 g5 g6 g7 g8 g9 g10 g11 g12 g13 g14 g15 : Option D), env = [some (.ref a), some (.ref n), some (.ref c), g3, g4, g5, g6, g7, g8, g9, g10, g11, g12, g13, g14, g15] ∧ NS st' n m c (20 * i), ⟨none, none, none, none, none, none, none, none, none, none, none, none, none, rfl, nsA⟩, fun _ _ _ _ _ => trivial, ?_, ?_⟩
    · rintro i x env stB hx ⟨g3, g4, g5, g6, g7, g8, g9, g10, g11, g12, g13, g14, g15, rfl, ns0⟩
      obtain ⟨hk, rfl⟩ := rangeD_get hx
      have hi6 : i < 6 := hk
      clear hnx nsA hx q hk
      rw [gN_a]
      generalize stB = st0 at *
      refine sSeq_t fun T hT => ?_
      walk_at "s"
      refine ⟨n, m, rfl, ns0.deal, fun num s1 hnum u1 => ?_⟩
      generalize s1 = st1 at *
      have ns1 := ns0.up u1
      clear ns0  u1
      refine ⟨n, m, 9, rfl, ns1.deal, by omega, by omega, fun p5 s2 ah hp5 u2 l5 hal hao => ?_⟩
      generalize s2 = st2 at *
      have o_ah := ns1.off hp5
      have ns2 := ns1.up u2
      clear ns1  u2
      have f2_ah : st2 p5 = some (.lst (ah.map D.int)) := l5
      clear l5 hp5
      refine ⟨n, m, 9, rfl, ns2.deal, by omega, by omega, fun p6 s3 be hp6 u3 l6 hbl hbo => ?_⟩
      generalize s3 = st3 at *
      have o_be := ns2.off hp6
      have ns3 := ns2.up u3
      have f3_ah : st3 p5 = some (.lst ((ah).map D.int)) := u3.l o_ah.1 o_ah.2.1 f2_ah
      clear ns2 f2_ah u3
      have f3_be : st3 p6 = some (.lst (be.map D.int)) := l6
      clear l6 hp6
      subst hT
      refine sSeq_t fun T hT => ?_
      walk_at "s"
      refine ⟨num, rfl, by omega, fun p7 s4 hp7 u4 l7 => ?_⟩
      generalize s4 = st4 at *
      have o_du := ns3.off hp7
      have ns4 := ns3.keep u4
      have f4_ah : st4 p5 = some (.lst ((ah).map D.int)) := u4.l f3_ah
      have f4_be : st4 p6 = some (.lst ((be).map D.int)) := u4.l f3_be
      clear ns3 f3_ah f3_be u4
      have f4_du : st4 p7 = some (.lst ((enc num).map D.int)) := l7
      clear l7 hp7
      subst hT
      refine sSeq_i (fun env st' => env = [some (.ref a), some (.ref n), some (.ref c), some (.int (0 + (i : Int))), some (.int num), some (.ref p5), some (.ref p6), some (.ref p7), g8, g9, g10, g11, g12, g13, g14, g15] ∧ NS st' n m c (20 * i + 1) ∧ st' p5 = some (.lst ((ah).map D.int)) ∧ st' p6 = some (.lst ((be).map D.int)) ∧ st' p7 = some (.lst ((enc num).map D.int))) (fun nx2 hnx2 => ?_) ?_
      · by_cases hcond : (0 : Int) + (i : Int) < 3
        · have rd := ns4.rd
          walk_at "s"
          refine ⟨num, rfl, by omega, fun s5 u5 => ?_⟩
          generalize s5 = st5 at *
          clear rd
          have ns5 := ns4.keep u5
          have f5_ah : st5 p5 = some (.lst ((ah).map D.int)) := u5.l f4_ah
          have f5_be : st5 p6 = some (.lst ((be).map D.int)) := u5.l f4_be
          have f5_du : st5 p7 = some (.lst ((enc num).map D.int)) := u5.l f4_du
          clear ns4 f4_ah f4_be f4_du u5
          walk_at "s"
          refine ns5.push (d := .tup ((enc num).map D.int)) (okP_ints (by omega)) (by omega) fun st6 ns6 kk => ?_
          have f6_ah : st6 p5 = some (.lst ((ah).map D.int)) := kk _ _ o_ah.2.2 f5_ah
          have f6_be : st6 p6 = some (.lst ((be).map D.int)) := kk _ _ o_be.2.2 f5_be
          have f6_du : st6 p7 = some (.lst ((enc num).map D.int)) := kk _ _ o_du.2.2 f5_du
          clear ns5 f5_ah f5_be f5_du kk
          exact hnx2 _ _ ⟨rfl, ns6, f6_ah, f6_be, f6_du⟩
        · have rd := ns4.rd
          walk_at "s"
          refine ⟨num, rfl, by omega, fun s5 u5 => ?_⟩
          generalize s5 = st5 at *
          clear rd
          have ns5 := ns4.keep u5
          have f5_ah : st5 p5 = some (.lst ((ah).map D.int)) := u5.l f4_ah
          have f5_be : st5 p6 = some (.lst ((be).map D.int)) := u5.l f4_be
          have f5_du : st5 p7 = some (.lst ((enc num).map D.int)) := u5.l f4_du
          clear ns4 f4_ah f4_be f4_du u5
          walk_at "s"
          refine ns5.push (d := .tup ((enc num).map D.int)) (okP_ints (by omega)) (by omega) fun st6 ns6 kk => ?_
          have f6_ah : st6 p5 = some (.lst ((ah).map D.int)) := kk _ _ o_ah.2.2 f5_ah
          have f6_be : st6 p6 = some (.lst ((be).map D.int)) := kk _ _ o_be.2.2 f5_be
          have f6_du : st6 p7 = some (.lst ((enc num).map D.int)) := kk _ _ o_du.2.2 f5_du
          clear ns5 f5_ah f5_be f5_du kk
          exact hnx2 _ _ ⟨rfl, ns6, f6_ah, f6_be, f6_du⟩
      · rintro env st6 ⟨rfl, ns6, f6_ah, f6_be, f6_du⟩
        clear ns4 f4_ah f4_be f4_du
        refine sSeq_t fun T hT => ?_
        have hsz : (ah.map D.int).length + ((enc num).map D.int).length ≤ sizeLine := by simp only [List.length_map, List.length_append]; rw [szL]; omega
        walk_at "s"
        intro pt1 hnew
        have o_tmp := ns6.off hnew
        have ns7 := ns6.new (o := (.lst (ah.map D.int ++ (enc num).map D.int))) hnew
        have f7_ah := (Keep.put (o := (.lst (ah.map D.int ++ (enc num).map D.int))) hnew).l f6_ah
        have f7_be := (Keep.put (o := (.lst (ah.map D.int ++ (enc num).map D.int))) hnew).l f6_be
        have f7_du := (Keep.put (o := (.lst (ah.map D.int ++ (enc num).map D.int))) hnew).l f6_du
        have f7_tmp : put st6 pt1 (.lst (ah.map D.int ++ (enc num).map D.int)) pt1 = some (.lst ((ah ++ enc num).map D.int)) := by rw [put_same]; simp
        generalize put st6 pt1 (.lst (ah.map D.int ++ (enc num).map D.int)) = st7 at *
        clear ns6 f6_ah f6_be f6_du hnew
        clear hsz
        simp only [← List.map_append]
        walk_at "s"
        simp only [← List.map_append]
        refine ⟨by simp only [List.length_map, List.length_append]; rw [szL]; omega, ?_⟩
        intro p8 hnew
        have o_oc := ns7.off hnew
        have ns8 := ns7.new (o := (.lst ((ah ++ enc num ++ be).map D.int))) hnew
        have f8_ah := (Keep.put (o := (.lst ((ah ++ enc num ++ be).map D.int))) hnew).l f7_ah
        have f8_be := (Keep.put (o := (.lst ((ah ++ enc num ++ be).map D.int))) hnew).l f7_be
        have f8_du := (Keep.put (o := (.lst ((ah ++ enc num ++ be).map D.int))) hnew).l f7_du
        have f8_tmp := (Keep.put (o := (.lst ((ah ++ enc num ++ be).map D.int))) hnew).l f7_tmp
        have f8_oc : put st7 p8 (.lst ((ah ++ enc num ++ be).map D.int)) p8 = some (.lst ((ah ++ enc num ++ be).map D.int)) := by rw [put_same]
        generalize put st7 p8 (.lst ((ah ++ enc num ++ be).map D.int)) = st8 at *
        clear ns7 f7_ah f7_be f7_du f7_tmp hnew
        clear f8_tmp
        subst hT
        refine sSeq_t fun T hT => ?_
        have rd := ns8.rd
        have hoc : OctOk (ah ++ enc num ++ be) := ⟨by simp only [List.length_append]; omega, oct_app (oct_app hao (enc_oct num)) hbo⟩
        have en : numD (numAt (ah ++ enc num ++ be) ((ah.map D.int).length : Nat)) = .tup [.int num, .int (((ah.map D.int).length : Int) + (((enc num).map D.int).length : Nat))] := by
          rw [List.length_map, numAt_whole, List.length_map]; rfl
        walk_at "s"
        refine ⟨ah ++ enc num ++ be, _, rfl, hoc, by rw [List.length_map]; omega, fun s9 u9 => ?_⟩
        generalize s9 = st9 at *
        rw [en]
        clear rd en hoc
        have ns9 := ns8.keep u9
        have f9_ah : st9 p5 = some (.lst ((ah).map D.int)) := u9.l f8_ah
        have f9_be : st9 p6 = some (.lst ((be).map D.int)) := u9.l f8_be
        have f9_du : st9 p7 = some (.lst ((enc num).map D.int)) := u9.l f8_du
        have f9_oc : st9 p8 = some (.lst ((ah ++ enc num ++ be).map D.int)) := u9.l f8_oc
        clear ns8 f8_ah f8_be f8_du f8_oc u9
        walk_at "s"
        refine ns9.push (d := .tup [.int num, .int (((ah.map D.int).length : Int) + (((enc num).map D.int).length : Nat))]) (⟨rfl, by simp [wD, wD.wDs]⟩) (by omega) fun st10 ns10 kk => ?_
        have f10_ah : st10 p5 = some (.lst ((ah).map D.int)) := kk _ _ o_ah.2.2 f9_ah
        have f10_be : st10 p6 = some (.lst ((be).map D.int)) := kk _ _ o_be.2.2 f9_be
        have f10_du : st10 p7 = some (.lst ((enc num).map D.int)) := kk _ _ o_du.2.2 f9_du
        have f10_oc : st10 p8 = some (.lst ((ah ++ enc num ++ be).map D.int)) := kk _ _ o_oc.2.2 f9_oc
        clear ns9 f9_ah f9_be f9_du f9_oc kk
        clear f10_du f10_oc
        subst hT
        refine sSeq_t fun T hT => ?_
        walk_at "s"
        refine ⟨n, m, rfl, ns10.deal, fun tx s11 htx u11 => ?_⟩
        generalize s11 = st11 at *
        have ns11 := ns10.up u11
        have f11_ah : st11 p5 = some (.lst ((ah).map D.int)) := u11.l o_ah.1 o_ah.2.1 f10_ah
        have f11_be : st11 p6 = some (.lst ((be).map D.int)) := u11.l o_be.1 o_be.2.1 f10_be
        clear ns10 f10_ah f10_be u11
        have htx0 : ∀ x ∈ tx, 0 ≤ x := fun x hx => (okSg_oct (htx.2 x hx)).1
        have htxo : ∀ x ∈ tx, oct x := fun x hx => okSg_oct (htx.2 x hx)
        have htx1 := htx.1
        have hen := enc_short (show tx.length ≤ 16000 by omega)
        have hen0 := enc_len tx.length
        subst hT
        refine sSeq_t fun T hT => ?_
        walk_at "s"
        refine ⟨tx, rfl, by omega, htx0, fun p10 s12 hp10 u12 l10 => ?_⟩
        generalize s12 = st12 at *
        have o_bo := ns11.off hp10
        have ns12 := ns11.keep u12
        have f12_ah : st12 p5 = some (.lst ((ah).map D.int)) := u12.l f11_ah
        have f12_be : st12 p6 = some (.lst ((be).map D.int)) := u12.l f11_be
        clear ns11 f11_ah f11_be u12
        have f12_bo : st12 p10 = some (.lst ((enc tx.length ++ tx).map D.int)) := l10
        clear l10 hp10
        subst hT
        refine sSeq_i (fun env st' => env = [some (.ref a), some (.ref n), some (.ref c), some (.int (0 + (i : Int))), some (.int num), some (.ref p5), some (.ref p6), some (.ref p7), some (.ref p8), some (.str (strOf tx)), some (.ref p10), g11, g12, g13, g14, g15] ∧ NS st' n m c (20 * i + 3) ∧ st' p5 = some (.lst ((ah).map D.int)) ∧ st' p6 = some (.lst ((be).map D.int)) ∧ st' p10 = some (.lst ((enc tx.length ++ tx).map D.int))) (fun nx2 hnx2 => ?_) ?_
        · by_cases hcond : (0 : Int) + (i : Int) < 3
          · have rd := ns12.rd
            walk_at "s"
            refine ⟨tx, rfl, by omega, htx0, fun s13 u13 => ?_⟩
            generalize s13 = st13 at *
            clear rd
            have ns13 := ns12.keep u13
            have f13_ah : st13 p5 = some (.lst ((ah).map D.int)) := u13.l f12_ah
            have f13_be : st13 p6 = some (.lst ((be).map D.int)) := u13.l f12_be
            have f13_bo : st13 p10 = some (.lst ((enc tx.length ++ tx).map D.int)) := u13.l f12_bo
            clear ns12 f12_ah f12_be f12_bo u13
            walk_at "s"
            refine ns13.push (d := .tup ((enc tx.length ++ tx).map D.int)) (okP_ints (by rw [List.length_append]; omega)) (by omega) fun st14 ns14 kk => ?_
            have f14_ah : st14 p5 = some (.lst ((ah).map D.int)) := kk _ _ o_ah.2.2 f13_ah
            have f14_be : st14 p6 = some (.lst ((be).map D.int)) := kk _ _ o_be.2.2 f13_be
            have f14_bo : st14 p10 = some (.lst ((enc tx.length ++ tx).map D.int)) := kk _ _ o_bo.2.2 f13_bo
            clear ns13 f13_ah f13_be f13_bo kk
            exact hnx2 _ _ ⟨rfl, ns14, f14_ah, f14_be, f14_bo⟩
          · have rd := ns12.rd
            walk_at "s"
            refine ⟨tx, rfl, by omega, htx0, fun s13 u13 => ?_⟩
            generalize s13 = st13 at *
            clear rd
            have ns13 := ns12.keep u13
            have f13_ah : st13 p5 = some (.lst ((ah).map D.int)) := u13.l f12_ah
            have f13_be : st13 p6 = some (.lst ((be).map D.int)) := u13.l f12_be
            have f13_bo : st13 p10 = some (.lst ((enc tx.length ++ tx).map D.int)) := u13.l f12_bo
            clear ns12 f12_ah f12_be f12_bo u13
            walk_at "s"
            refine ns13.push (d := .tup ((enc tx.length ++ tx).map D.int)) (okP_ints (by rw [List.length_append]; omega)) (by omega) fun st14 ns14 kk => ?_
            have f14_ah : st14 p5 = some (.lst ((ah).map D.int)) := kk _ _ o_ah.2.2 f13_ah
            have f14_be : st14 p6 = some (.lst ((be).map D.int)) := kk _ _ o_be.2.2 f13_be
            have f14_bo : st14 p10 = some (.lst ((enc tx.length ++ tx).map D.int)) := kk _ _ o_bo.2.2 f13_bo
            clear ns13 f13_ah f13_be f13_bo kk
            exact hnx2 _ _ ⟨rfl, ns14, f14_ah, f14_be, f14_bo⟩
        · rintro env st14 ⟨rfl, ns14, f14_ah, f14_be, f14_bo⟩
          clear ns12 f12_ah f12_be f12_bo
          refine sSeq_t fun T hT => ?_
          have hsz : (ah.map D.int).length + (((enc tx.length ++ tx)).map D.int).length ≤ sizeLine := by simp only [List.length_map, List.length_append]; rw [szL]; omega
          walk_at "s"
          intro pt2 hnew
          have o_tmp := ns14.off hnew
          have ns15 := ns14.new (o := (.lst (ah.map D.int ++ ((enc tx.length ++ tx)).map D.int))) hnew
          have f15_ah := (Keep.put (o := (.lst (ah.map D.int ++ ((enc tx.length ++ tx)).map D.int))) hnew).l f14_ah
          have f15_be := (Keep.put (o := (.lst (ah.map D.int ++ ((enc tx.length ++ tx)).map D.int))) hnew).l f14_be
          have f15_bo := (Keep.put (o := (.lst (ah.map D.int ++ ((enc tx.length ++ tx)).map D.int))) hnew).l f14_bo
          have f15_tmp : put st14 pt2 (.lst (ah.map D.int ++ ((enc tx.length ++ tx)).map D.int)) pt2 = some (.lst ((ah ++ (enc tx.length ++ tx)).map D.int)) := by rw [put_same]; simp
          generalize put st14 pt2 (.lst (ah.map D.int ++ ((enc tx.length ++ tx)).map D.int)) = st15 at *
          clear ns14 f14_ah f14_be f14_bo hnew
          clear hsz
          simp only [← List.map_append]
          walk_at "s"
          simp only [← List.map_append]
          refine ⟨by simp only [List.length_map, List.length_append]; rw [szL]; omega, ?_⟩
          intro p11 hnew
          have o_wh := ns15.off hnew
          have ns16 := ns15.new (o := (.lst ((ah ++ (enc tx.length ++ tx) ++ be).map D.int))) hnew
          have f16_ah := (Keep.put (o := (.lst ((ah ++ (enc tx.length ++ tx) ++ be).map D.int))) hnew).l f15_ah
          have f16_be := (Keep.put (o := (.lst ((ah ++ (enc tx.length ++ tx) ++ be).map D.int))) hnew).l f15_be
          have f16_bo := (Keep.put (o := (.lst ((ah ++ (enc tx.length ++ tx) ++ be).map D.int))) hnew).l f15_bo
          have f16_tmp := (Keep.put (o := (.lst ((ah ++ (enc tx.length ++ tx) ++ be).map D.int))) hnew).l f15_tmp
          have f16_wh : put st15 p11 (.lst ((ah ++ (enc tx.length ++ tx) ++ be).map D.int)) p11 = some (.lst ((ah ++ (enc tx.length ++ tx) ++ be).map D.int)) := by rw [put_same]
          generalize put st15 p11 (.lst ((ah ++ (enc tx.length ++ tx) ++ be).map D.int)) = st16 at *
          clear ns15 f15_ah f15_be f15_bo f15_tmp hnew
          clear f16_tmp
          subst hT
          refine sSeq_t fun T hT => ?_
          have rd := ns16.rd
          have hoc : OctOk (ah ++ (enc tx.length ++ tx) ++ be) := ⟨by simp only [List.length_append]; omega, oct_app (oct_app hao (oct_app (enc_oct _) htxo)) hbo⟩
          have en : txD (textAt (ah ++ (enc tx.length ++ tx) ++ be) ((ah.map D.int).length : Nat)) = .tup [.str (strOf tx), .int (((ah.map D.int).length : Int) + (((enc tx.length ++ tx).map D.int).length : Nat))] := by
            rw [List.length_map, textAt_whole _ _ _ htx.2, List.length_map]; rfl
          walk_at "s"
          refine ⟨ah ++ (enc tx.length ++ tx) ++ be, _, rfl, hoc, by rw [List.length_map]; omega, fun s17 u17 => ?_⟩
          generalize s17 = st17 at *
          rw [en]
          clear rd en
          have ns17 := ns16.keep u17
          have f17_ah : st17 p5 = some (.lst ((ah).map D.int)) := u17.l f16_ah
          have f17_be : st17 p6 = some (.lst ((be).map D.int)) := u17.l f16_be
          have f17_bo : st17 p10 = some (.lst ((enc tx.length ++ tx).map D.int)) := u17.l f16_bo
          have f17_wh : st17 p11 = some (.lst ((ah ++ (enc tx.length ++ tx) ++ be).map D.int)) := u17.l f16_wh
          clear ns16 f16_ah f16_be f16_bo f16_wh u17
          walk_at "s"
          refine ns17.push (d := .tup [.str (strOf tx), .int (((ah.map D.int).length : Int) + (((enc tx.length ++ tx).map D.int).length : Nat))]) (⟨rfl, by simp [wD, wD.wDs]⟩) (by omega) fun st18 ns18 kk => ?_
          have f18_ah : st18 p5 = some (.lst ((ah).map D.int)) := kk _ _ o_ah.2.2 f17_ah
          have f18_be : st18 p6 = some (.lst ((be).map D.int)) := kk _ _ o_be.2.2 f17_be
          have f18_bo : st18 p10 = some (.lst ((enc tx.length ++ tx).map D.int)) := kk _ _ o_bo.2.2 f17_bo
          have f18_wh : st18 p11 = some (.lst ((ah ++ (enc tx.length ++ tx) ++ be).map D.int)) := kk _ _ o_wh.2.2 f17_wh
          clear ns17 f17_ah f17_be f17_bo f17_wh kk
          clear f18_bo f18_be
          subst hT
          have hwl : 0 < (ah ++ (enc tx.length ++ tx) ++ be).length ∧ (ah ++ (enc tx.length ++ tx) ++ be).length ≤ 400 := by simp only [List.length_append]; omega
          generalize ah ++ (enc tx.length ++ tx) ++ be = wh at *
          refine sSeq_t fun T hT => ?_
          walk_at "s"
          rw [List.length_map]
          refine ⟨n, m, _, rfl, ns18.deal, by omega, by omega, fun v s19 v0 v1 u19 => ?_⟩
          generalize s19 = st19 at *
          have ns19 := ns18.up u19
          have f19_ah : st19 p5 = some (.lst ((ah).map D.int)) := u19.l o_ah.1 o_ah.2.1 f18_ah
          have f19_wh : st19 p11 = some (.lst ((wh).map D.int)) := u19.l o_wh.1 o_wh.2.1 f18_wh
          clear ns18 f18_ah f18_wh u19
          obtain ⟨pl, rfl⟩ : ∃ k : Nat, v = k := ⟨v.toNat, by omega⟩
          subst hT
          refine sSeq_t fun T hT => ?_
          have ct : cutL (wh.map D.int) none (some (pl : Int)) = (wh.take pl).map D.int := by rw [cutL_ints, cutL_to]
          have cf : cutL (wh.map D.int) (some ((pl : Int) + 1)) none = (wh.drop (pl + 1)).map D.int := by rw [cutL_ints, show (pl : Int) + 1 = ((pl + 1 : Nat) : Int) by omega, cutL_from]
          have ltk : (wh.take pl).length = pl := by rw [List.length_take]; omega
          have ldr : (wh.drop (pl + 1)).length = wh.length - (pl + 1) := List.length_drop
          walk_at "s"
          intro pa hnew
          have o_pa := ns19.off hnew
          have ns20 := ns19.new (o := (.lst ((wh.take pl).map D.int))) hnew
          have f20_ah := (Keep.put (o := (.lst ((wh.take pl).map D.int))) hnew).l f19_ah
          have f20_wh := (Keep.put (o := (.lst ((wh.take pl).map D.int))) hnew).l f19_wh
          have f20_pa : put st19 pa (.lst ((wh.take pl).map D.int)) pa = some (.lst ((wh.take pl).map D.int)) := by rw [put_same]
          generalize put st19 pa (.lst ((wh.take pl).map D.int)) = st20 at *
          clear ns19 f19_ah f19_wh hnew
          refine ⟨n, m, rfl, ns20.deal, fun xo s21 hxo u21 => ?_⟩
          generalize s21 = st21 at *
          have ns21 := ns20.up u21
          have f21_ah : st21 p5 = some (.lst ((ah).map D.int)) := u21.l o_ah.1 o_ah.2.1 f20_ah
          have f21_wh : st21 p11 = some (.lst ((wh).map D.int)) := u21.l o_wh.1 o_wh.2.1 f20_wh
          have f21_pa : st21 pa = some (.lst ((wh.take pl).map D.int)) := u21.l o_pa.1 o_pa.2.1 f20_pa
          clear ns20 f20_ah f20_wh f20_pa u21
          walk_at "s"
          have wo0 : WO st21 n m c [] := fun w hw => by cases hw
          intro w1 hnew
          have ns22 := ns21.new (o := (.lst [D.int xo])) hnew
          have wo1 : WO (put st21 w1 (.lst [D.int xo])) n m c _ := wo0.add (l := [xo]) ns21 hnew (by simp) (fun x hx => by rw [List.mem_singleton.mp hx]; exact hxo)
          have f22_ah := (Keep.put (o := (.lst [D.int xo])) hnew).l f21_ah
          have f22_wh := (Keep.put (o := (.lst [D.int xo])) hnew).l f21_wh
          have f22_pa := (Keep.put (o := (.lst [D.int xo])) hnew).l f21_pa
          generalize put st21 w1 (.lst [D.int xo]) = st22 at *
          clear ns21 f21_ah f21_wh f21_pa hnew wo0
          intro w2 hnew
          have ns23 := ns22.new (o := (.lst [D.int 37])) hnew
          have wo2 : WO (put st22 w2 (.lst [D.int 37])) n m c _ := wo1.add (l := [37]) ns22 hnew (by decide) (oct_dec (by decide))
          have f23_ah := (Keep.put (o := (.lst [D.int 37])) hnew).l f22_ah
          have f23_wh := (Keep.put (o := (.lst [D.int 37])) hnew).l f22_wh
          have f23_pa := (Keep.put (o := (.lst [D.int 37])) hnew).l f22_pa
          generalize put st22 w2 (.lst [D.int 37]) = st23 at *
          clear ns22 f22_ah f22_wh f22_pa hnew wo1
          intro w3 hnew
          have ns24 := ns23.new (o := (.lst [D.int 9])) hnew
          have wo3 : WO (put st23 w3 (.lst [D.int 9])) n m c _ := wo2.add (l := [9]) ns23 hnew (by decide) (oct_dec (by decide))
          have f24_ah := (Keep.put (o := (.lst [D.int 9])) hnew).l f23_ah
          have f24_wh := (Keep.put (o := (.lst [D.int 9])) hnew).l f23_wh
          have f24_pa := (Keep.put (o := (.lst [D.int 9])) hnew).l f23_pa
          generalize put st23 w3 (.lst [D.int 9]) = st24 at *
          clear ns23 f23_ah f23_wh f23_pa hnew wo2
          intro w4 hnew
          have ns25 := ns24.new (o := (.lst [D.int 127])) hnew
          have wo4 : WO (put st24 w4 (.lst [D.int 127])) n m c _ := wo3.add (l := [127]) ns24 hnew (by decide) (oct_dec (by decide))
          have f25_ah := (Keep.put (o := (.lst [D.int 127])) hnew).l f24_ah
          have f25_wh := (Keep.put (o := (.lst [D.int 127])) hnew).l f24_wh
          have f25_pa := (Keep.put (o := (.lst [D.int 127])) hnew).l f24_pa
          generalize put st24 w4 (.lst [D.int 127]) = st25 at *
          clear ns24 f24_ah f24_wh f24_pa hnew wo3
          intro w5 hnew
          have ns26 := ns25.new (o := (.lst ([] : List D))) hnew
          have wo5 : WO (put st25 w5 (.lst ([] : List D))) n m c _ := wo4.add (l := []) ns25 hnew (by decide) (oct_dec (by decide))
          have f26_ah := (Keep.put (o := (.lst ([] : List D))) hnew).l f25_ah
          have f26_wh := (Keep.put (o := (.lst ([] : List D))) hnew).l f25_wh
          have f26_pa := (Keep.put (o := (.lst ([] : List D))) hnew).l f25_pa
          generalize put st25 w5 (.lst ([] : List D)) = st26 at *
          clear ns25 f25_ah f25_wh f25_pa hnew wo4
          intro w6 hnew
          have ns27 := ns26.new (o := (.lst [D.int 0])) hnew
          have wo6 : WO (put st26 w6 (.lst [D.int 0])) n m c _ := wo5.add (l := [0]) ns26 hnew (by decide) (oct_dec (by decide))
          have f27_ah := (Keep.put (o := (.lst [D.int 0])) hnew).l f26_ah
          have f27_wh := (Keep.put (o := (.lst [D.int 0])) hnew).l f26_wh
          have f27_pa := (Keep.put (o := (.lst [D.int 0])) hnew).l f26_pa
          generalize put st26 w6 (.lst [D.int 0]) = st27 at *
          clear ns26 f26_ah f26_wh f26_pa hnew wo5
          intro w7 hnew
          have ns28 := ns27.new (o := (.lst [D.int 200, D.int 0])) hnew
          have wo7 : WO (put st27 w7 (.lst [D.int 200, D.int 0])) n m c _ := wo6.add (l := [200, 0]) ns27 hnew (by decide) (oct_dec (by decide))
          have f28_ah := (Keep.put (o := (.lst [D.int 200, D.int 0])) hnew).l f27_ah
          have f28_wh := (Keep.put (o := (.lst [D.int 200, D.int 0])) hnew).l f27_wh
          have f28_pa := (Keep.put (o := (.lst [D.int 200, D.int 0])) hnew).l f27_pa
          generalize put st27 w7 (.lst [D.int 200, D.int 0]) = st28 at *
          clear ns27 f27_ah f27_wh f27_pa hnew wo6
          intro w8 hnew
          have ns29 := ns28.new (o := (.lst [D.int 13])) hnew
          have wo8 : WO (put st28 w8 (.lst [D.int 13])) n m c _ := wo7.add (l := [13]) ns28 hnew (by decide) (oct_dec (by decide))
          have f29_ah := (Keep.put (o := (.lst [D.int 13])) hnew).l f28_ah
          have f29_wh := (Keep.put (o := (.lst [D.int 13])) hnew).l f28_wh
          have f29_pa := (Keep.put (o := (.lst [D.int 13])) hnew).l f28_pa
          generalize put st28 w8 (.lst [D.int 13]) = st29 at *
          clear ns28 f28_ah f28_wh f28_pa hnew wo7
          intro w9 hnew
          have ow := ns29.off hnew
          have ns30 := ns29.new (o := (.lst [.ref w1, .ref w2, .ref w3, .ref w4, .ref w5, .ref w6, .ref w7, .ref w8])) hnew
          have wo9 := wo8.keep (Keep.put (o := (.lst [.ref w1, .ref w2, .ref w3, .ref w4, .ref w5, .ref w6, .ref w7, .ref w8])) hnew)
          have f30_ah := (Keep.put (o := (.lst [.ref w1, .ref w2, .ref w3, .ref w4, .ref w5, .ref w6, .ref w7, .ref w8])) hnew).l f29_ah
          have f30_wh := (Keep.put (o := (.lst [.ref w1, .ref w2, .ref w3, .ref w4, .ref w5, .ref w6, .ref w7, .ref w8])) hnew).l f29_wh
          have f30_pa := (Keep.put (o := (.lst [.ref w1, .ref w2, .ref w3, .ref w4, .ref w5, .ref w6, .ref w7, .ref w8])) hnew).l f29_pa
          have lw9 : put st29 w9 (.lst [.ref w1, .ref w2, .ref w3, .ref w4, .ref w5, .ref w6, .ref w7, .ref w8]) w9 = some (.lst [.ref w1, .ref w2, .ref w3, .ref w4, .ref w5, .ref w6, .ref w7, .ref w8]) := put_same
          generalize put st29 w9 (.lst [.ref w1, .ref w2, .ref w3, .ref w4, .ref w5, .ref w6, .ref w7, .ref w8]) = st30 at *
          clear ns29 f29_ah f29_wh f29_pa hnew wo8
          refine ⟨n, m, .ref w9, _, rfl, ns30.deal, ⟨ow.1, ow.2.1, lw9⟩, by simp, by simp, fun d s31 hdm u31 => ?_⟩
          generalize s31 = st31 at *
          obtain ⟨w, rfl, hw⟩ : ∃ w, d = .ref w ∧ w ∈ [w8, w7, w6, w5, w4, w3, w2, w1] := by
            simp only [List.mem_cons, List.not_mem_nil, or_false] at hdm
            rcases hdm with rfl | rfl | rfl | rfl | rfl | rfl | rfl | rfl
            all_goals exact ⟨_, rfl, by simp⟩
          obtain ⟨o_wr, wr, lwr, hwr1, hwr2⟩ := wo9 w hw
          have lwr2 := u31.l o_wr.1 o_wr.2.1 lwr
          have ns31 := ns30.up u31
          have f31_ah : st31 p5 = some (.lst ((ah).map D.int)) := u31.l o_ah.1 o_ah.2.1 f30_ah
          have f31_wh : st31 p11 = some (.lst ((wh).map D.int)) := u31.l o_wh.1 o_wh.2.1 f30_wh
          have f31_pa : st31 pa = some (.lst ((wh.take pl).map D.int)) := u31.l o_pa.1 o_pa.2.1 f30_pa
          clear ns30 f30_ah f30_wh f30_pa u31
          have f31_wr : st31 w = some (.lst (wr.map D.int)) := lwr2
          clear wo9 hdm hw lwr lwr2 lw9 ow w1 w2 w3 w4 w5 w6 w7 w8 w9
          have hsz : ((wh.take pl).map D.int).length + (wr.map D.int).length ≤ sizeLine := by simp only [List.length_map]; rw [szL]; omega
          walk_at "s"
          intro pb hnew
          have o_pb := ns31.off hnew
          have ns32 := ns31.new (o := (.lst ((wh.take pl).map D.int ++ wr.map D.int))) hnew
          have f32_ah := (Keep.put (o := (.lst ((wh.take pl).map D.int ++ wr.map D.int))) hnew).l f31_ah
          have f32_wh := (Keep.put (o := (.lst ((wh.take pl).map D.int ++ wr.map D.int))) hnew).l f31_wh
          have f32_pa := (Keep.put (o := (.lst ((wh.take pl).map D.int ++ wr.map D.int))) hnew).l f31_pa
          have f32_wr := (Keep.put (o := (.lst ((wh.take pl).map D.int ++ wr.map D.int))) hnew).l f31_wr
          have f32_pb : put st31 pb (.lst ((wh.take pl).map D.int ++ wr.map D.int)) pb = some (.lst ((wh.take pl ++ wr).map D.int)) := by rw [put_same]; simp
          generalize put st31 pb (.lst ((wh.take pl).map D.int ++ wr.map D.int)) = st32 at *
          clear ns31 f31_ah f31_wh f31_pa f31_wr hnew
          clear f32_pa f32_wr
          clear hsz
          walk_at "s"
          intro pc hnew
          have o_pc := ns32.off hnew
          have ns33 := ns32.new (o := (.lst ((wh.drop (pl + 1)).map D.int))) hnew
          have f33_ah := (Keep.put (o := (.lst ((wh.drop (pl + 1)).map D.int))) hnew).l f32_ah
          have f33_wh := (Keep.put (o := (.lst ((wh.drop (pl + 1)).map D.int))) hnew).l f32_wh
          have f33_pb := (Keep.put (o := (.lst ((wh.drop (pl + 1)).map D.int))) hnew).l f32_pb
          have f33_pc : put st32 pc (.lst ((wh.drop (pl + 1)).map D.int)) pc = some (.lst ((wh.drop (pl + 1)).map D.int)) := by rw [put_same]
          generalize put st32 pc (.lst ((wh.drop (pl + 1)).map D.int)) = st33 at *
          clear ns32 f32_ah f32_wh f32_pb hnew
          have hsz : ((wh.take pl ++ wr).map D.int).length + ((wh.drop (pl + 1)).map D.int).length ≤ sizeLine := by simp only [List.length_map, List.length_append]; rw [szL]; omega
          walk_at "s"
          simp only [← List.map_append]
          intro p13 hnew
          have o_be := ns33.off hnew
          have ns34 := ns33.new (o := (.lst ((wh.take pl ++ wr ++ wh.drop (pl + 1)).map D.int))) hnew
          have f34_ah := (Keep.put (o := (.lst ((wh.take pl ++ wr ++ wh.drop (pl + 1)).map D.int))) hnew).l f33_ah
          have f34_wh := (Keep.put (o := (.lst ((wh.take pl ++ wr ++ wh.drop (pl + 1)).map D.int))) hnew).l f33_wh
          have f34_pb := (Keep.put (o := (.lst ((wh.take pl ++ wr ++ wh.drop (pl + 1)).map D.int))) hnew).l f33_pb
          have f34_pc := (Keep.put (o := (.lst ((wh.take pl ++ wr ++ wh.drop (pl + 1)).map D.int))) hnew).l f33_pc
          have f34_be : put st33 p13 (.lst ((wh.take pl ++ wr ++ wh.drop (pl + 1)).map D.int)) p13 = some (.lst ((wh.take pl ++ wr ++ wh.drop (pl + 1)).map D.int)) := by rw [put_same]
          generalize put st33 p13 (.lst ((wh.take pl ++ wr ++ wh.drop (pl + 1)).map D.int)) = st34 at *
          clear ns33 f33_ah f33_wh f33_pb f33_pc hnew
          clear f34_pb f34_pc
          have hbo2 : OctOk (wh.take pl ++ wr ++ wh.drop (pl + 1)) := ⟨by simp only [List.length_append]; omega, oct_app (oct_app (fun x hx => hoc.2 x (List.mem_of_mem_take hx)) hwr2) fun x hx => hoc.2 x (List.mem_of_mem_drop hx)⟩
          have hbl2 : (wh.take pl ++ wr ++ wh.drop (pl + 1)).length ≤ 500 := by simp only [List.length_append]; omega
          generalize wh.take pl ++ wr ++ wh.drop (pl + 1) = bt at *
          clear hsz ct cf
          subst hT
          refine sSeq_i (fun env st' => ∃ g14, env = [some (.ref a), some (.ref n), some (.ref c), some (.int (0 + (i : Int))), some (.int num), some (.ref p5), some (.ref p6), some (.ref p7), some (.ref p8), some (.str (strOf tx)), some (.ref p10), some (.ref p11), some (.int (pl : Nat)), some (.ref p13), g14, g15] ∧ NS st' n m c (20 * i + 18) ∧ st' p11 = some (.lst (wh.map D.int))) (fun nx2 hnx2 => ?_) ?_
          · walk_at "s"
            refine ⟨n, m, _, rfl, ns34.deal, by rw [List.length_map]; omega, by rw [List.length_map]; omega, fun v1 s35 a1 b1 u35 => ?_⟩
            generalize s35 = st35 at *
            have ns35 := ns34.up u35
            have f35_ah : st35 p5 = some (.lst ((ah).map D.int)) := u35.l o_ah.1 o_ah.2.1 f34_ah
            have f35_wh : st35 p11 = some (.lst ((wh).map D.int)) := u35.l o_wh.1 o_wh.2.1 f34_wh
            have f35_be : st35 p13 = some (.lst ((bt).map D.int)) := u35.l o_be.1 o_be.2.1 f34_be
            clear ns34 f34_ah f34_wh f34_be u35
            refine ⟨n, m, 9, rfl, ns35.deal, by omega, by omega, fun v2 s36 a2 b2 u36 => ?_⟩
            generalize s36 = st36 at *
            have ns36 := ns35.up u36
            have f36_ah : st36 p5 = some (.lst ((ah).map D.int)) := u36.l o_ah.1 o_ah.2.1 f35_ah
            have f36_wh : st36 p11 = some (.lst ((wh).map D.int)) := u36.l o_wh.1 o_wh.2.1 f35_wh
            have f36_be : st36 p13 = some (.lst ((bt).map D.int)) := u36.l o_be.1 o_be.2.1 f35_be
            clear ns35 f35_ah f35_wh f35_be u36
            walk_at "s"
            have hall : ∀ y ∈ [((ah.map D.int).length : Int), (pl : Int), 0, v1, 0 - 1 - v2, ((bt.map D.int).length : Int), 1000000000000000], y < (2 : Int) ^ 62 := by
              intro y hy
              have b1q := b1
              rw [List.length_map] at b1q
              rw [List.length_map, List.length_map] at hy
              simp only [List.mem_cons, List.not_mem_nil, or_false] at hy
              rcases hy with rfl | rfl | rfl | rfl | rfl | rfl | rfl <;> omega
            intro ppl hnew
            have o_pl := ns36.off hnew
            have ns37 := ns36.new (o := (.lst [.int ((ah.map D.int).length : Int), .int (pl : Int), .int 0, .int v1, .int (0 - 1 - v2), .int ((bt.map D.int).length : Int), .int 1000000000000000])) hnew
            have f37_ah := (Keep.put (o := (.lst [.int ((ah.map D.int).length : Int), .int (pl : Int), .int 0, .int v1, .int (0 - 1 - v2), .int ((bt.map D.int).length : Int), .int 1000000000000000])) hnew).l f36_ah
            have f37_wh := (Keep.put (o := (.lst [.int ((ah.map D.int).length : Int), .int (pl : Int), .int 0, .int v1, .int (0 - 1 - v2), .int ((bt.map D.int).length : Int), .int 1000000000000000])) hnew).l f36_wh
            have f37_be := (Keep.put (o := (.lst [.int ((ah.map D.int).length : Int), .int (pl : Int), .int 0, .int v1, .int (0 - 1 - v2), .int ((bt.map D.int).length : Int), .int 1000000000000000])) hnew).l f36_be
            have f37_pl : put st36 ppl (.lst [.int ((ah.map D.int).length : Int), .int (pl : Int), .int 0, .int v1, .int (0 - 1 - v2), .int ((bt.map D.int).length : Int), .int 1000000000000000]) ppl = some (.lst (([((ah.map D.int).length : Int), (pl : Int), 0, v1, 0 - 1 - v2, ((bt.map D.int).length : Int), 1000000000000000] : List Int).map D.int)) := put_same
            have hlen : ([((ah.map D.int).length : Int), (pl : Int), 0, v1, 0 - 1 - v2, ((bt.map D.int).length : Int), 1000000000000000] : List Int).length = 7 := rfl
            generalize put st36 ppl (.lst [.int ((ah.map D.int).length : Int), .int (pl : Int), .int 0, .int v1, .int (0 - 1 - v2), .int ((bt.map D.int).length : Int), .int 1000000000000000]) = st37 at *
            clear ns36 f36_ah f36_wh f36_be hnew
            clear f37_ah
            have hxs : ([.int ((ah.map D.int).length : Int), .int (pl : Int), .int 0, .int v1, .int (0 - 1 - v2), .int ((bt.map D.int).length : Int), .int 1000000000000000] : List D) = ([((ah.map D.int).length : Int), (pl : Int), 0, v1, 0 - 1 - v2, ((bt.map D.int).length : Int), 1000000000000000] : List Int).map D.int := rfl
            generalize ([((ah.map D.int).length : Int), (pl : Int), 0, v1, 0 - 1 - v2, ((bt.map D.int).length : Int), 1000000000000000] : List Int) = xs at *
            walk_at "s"
            clear hxs
            refine ⟨fun j env st' => ∃ g14, env = [some (.ref a), some (.ref n), some (.ref c), some (.int (0 + (i : Int))), some (.int num), some (.ref p5), some (.ref p6), some (.ref p7), some (.ref p8), some (.str (strOf tx)), some (.ref p10), some (.ref p11), some (.int (pl : Nat)), some (.ref p13), g14, g15] ∧ NS st' n m c (20 * i + 4 + 2 * j) ∧ st' p11 = some (.lst (wh.map D.int)) ∧ st' p13 = some (.lst (bt.map D.int)) ∧ st' ppl = some (.lst (xs.map D.int)), ⟨_, rfl, ns37, f37_wh, f37_be, f37_pl⟩, fun j env st' _ ⟨_, _, _, _, _, l⟩ => by show rdL (st' ppl) = _; rw [l]; rfl, ?_, ?_⟩
            · rintro j x env st38 hx ⟨g14, rfl, ns38, f38_wh, f38_be, f38_pl⟩
              clear hnx2
              clear ns37 f37_wh f37_be f37_pl 
              rw [List.getElem?_map, Option.map_eq_some_iff] at hx
              obtain ⟨y, hy, rfl⟩ := hx
              have hy2 := hall y (List.mem_of_getElem? hy)
              have hj : j < 7 := by rw [← hlen]; exact (List.getElem?_eq_some_iff.mp hy).1
              rw [gN_a]
              refine sSeq_t fun T hT => ?_
              have rd := ns38.rd
              walk_at "s"
              refine ⟨bt, y, rfl, hbo2, hy2, fun s39 u39 => ?_⟩
              generalize s39 = st39 at *
              clear rd
              have ns39 := ns38.keep u39
              have f39_wh : st39 p11 = some (.lst ((wh).map D.int)) := u39.l f38_wh
              have f39_be : st39 p13 = some (.lst ((bt).map D.int)) := u39.l f38_be
              have f39_pl : st39 ppl = some (.lst ((xs).map D.int)) := u39.l f38_pl
              clear ns38 f38_wh f38_be f38_pl u39
              refine ⟨p13, bt, y, rfl, f39_be, hbo2, fun s40 u40 => ?_⟩
              generalize s40 = st40 at *
              have ns40 := ns39.keep u40
              have f40_wh : st40 p11 = some (.lst ((wh).map D.int)) := u40.l f39_wh
              have f40_be : st40 p13 = some (.lst ((bt).map D.int)) := u40.l f39_be
              have f40_pl : st40 ppl = some (.lst ((xs).map D.int)) := u40.l f39_pl
              clear ns39 f39_wh f39_be f39_pl u40
              refine ns40.push (d := numD (numAt bt y)) (okP_num _) (by omega) fun st41 ns41 kk => ?_
              have f41_wh : st41 p11 = some (.lst ((wh).map D.int)) := kk _ _ o_wh.2.2 f40_wh
              have f41_be : st41 p13 = some (.lst ((bt).map D.int)) := kk _ _ o_be.2.2 f40_be
              have f41_pl : st41 ppl = some (.lst ((xs).map D.int)) := kk _ _ o_pl.2.2 f40_pl
              clear ns40 f40_wh f40_be f40_pl kk
              subst hT
              have rd := ns41.rd
              walk_at "s"
              refine ⟨bt, y, rfl, hbo2, hy2, fun s42 u42 => ?_⟩
              generalize s42 = st42 at *
              clear rd
              have ns42 := ns41.keep u42
              have f42_wh : st42 p11 = some (.lst ((wh).map D.int)) := u42.l f41_wh
              have f42_be : st42 p13 = some (.lst ((bt).map D.int)) := u42.l f41_be
              have f42_pl : st42 ppl = some (.lst ((xs).map D.int)) := u42.l f41_pl
              clear ns41 f41_wh f41_be f41_pl u42
              refine ⟨p13, bt, y, rfl, f42_be, hbo2, fun s43 u43 => ?_⟩
              generalize s43 = st43 at *
              have ns43 := ns42.keep u43
              have f43_wh : st43 p11 = some (.lst ((wh).map D.int)) := u43.l f42_wh
              have f43_be : st43 p13 = some (.lst ((bt).map D.int)) := u43.l f42_be
              have f43_pl : st43 ppl = some (.lst ((xs).map D.int)) := u43.l f42_pl
              clear ns42 f42_wh f42_be f42_pl u43
              have hpu := ns43.push (d := txD (textAt bt y)) (K := fun st' => NS st' n m c (20 * i + 4 + 2 * (j + 1)) ∧ st' p11 = some (.lst (wh.map D.int)) ∧ st' p13 = some (.lst (bt.map D.int)) ∧ st' ppl = some (.lst (xs.map D.int))) (okP_tx _) (by omega) fun s' ns' kk => ⟨ns'.more (by omega), kk _ _ o_wh.2.2 f43_wh, kk _ _ o_be.2.2 f43_be, kk _ _ o_pl.2.2 f43_pl⟩
              obtain ⟨ds2, lc2, _⟩ := ns43.lc
              show lsO (st43 c) _
              rw [lc2, lsO_lst] at hpu ⊢
              exact ⟨hpu.1, _, rfl, hpu.2⟩
            · rintro env st' ⟨g14, rfl, ns', fw, fb, fp⟩
              rw [List.length_map, hlen] at ns'
              exact hnx2 _ _ ⟨_, rfl, ns', fw⟩
          · rintro env st57 ⟨g14, rfl, ns57, f57_wh⟩
            clear ns34 f34_ah f34_wh f34_be 
            refine sSeq_t fun T hT => ?_
            walk_at "s"
            refine ⟨n, m, 200, rfl, ns57.deal, by omega, by omega, fun p15r s58 ro hpr u58 lr hrl hro => ?_⟩
            generalize s58 = st58 at *
            have o_ro := ns57.off hpr
            have ns58 := ns57.up u58
            have f58_wh : st58 p11 = some (.lst ((wh).map D.int)) := u58.l o_wh.1 o_wh.2.1 f57_wh
            clear ns57 f57_wh u58
            have f58_ro : st58 p15r = some (.lst (ro.map D.int)) := lr
            clear lr hpr
            have hrok : OctOk ro := ⟨by omega, hro⟩
            subst hT
            refine sSeq_t fun T hT => ?_
            have rd := ns58.rd
            walk_at "s"
            refine ⟨ro, rfl, hrok, fun s59 u59 => ?_⟩
            generalize s59 = st59 at *
            clear rd
            have ns59 := ns58.keep u59
            have f59_wh : st59 p11 = some (.lst ((wh).map D.int)) := u59.l f58_wh
            have f59_ro : st59 p15r = some (.lst ((ro).map D.int)) := u59.l f58_ro
            clear ns58 f58_wh f58_ro u59
            refine ⟨p15r, ro, rfl, f59_ro, hrok, fun s60 u60 => ?_⟩
            generalize s60 = st60 at *
            have ns60 := ns59.keep u60
            have f60_wh : st60 p11 = some (.lst ((wh).map D.int)) := u60.l f59_wh
            have f60_ro : st60 p15r = some (.lst ((ro).map D.int)) := u60.l f59_ro
            clear ns59 f59_wh f59_ro u60
            refine ns60.push (d := .int (sumO ro)) (okP_int _) (by omega) fun st61 ns61 kk => ?_
            have f61_wh : st61 p11 = some (.lst ((wh).map D.int)) := kk _ _ o_wh.2.2 f60_wh
            have f61_ro : st61 p15r = some (.lst ((ro).map D.int)) := kk _ _ o_ro.2.2 f60_ro
            clear ns60 f60_wh f60_ro kk
            clear f61_ro
            subst hT
            have rd := ns61.rd
            walk_at "s"
            refine ⟨wh, rfl, hoc, fun s62 u62 => ?_⟩
            generalize s62 = st62 at *
            clear rd
            have ns62 := ns61.keep u62
            have f62_wh : st62 p11 = some (.lst ((wh).map D.int)) := u62.l f61_wh
            clear ns61 f61_wh u62
            refine ⟨p11, wh, rfl, f62_wh, hoc, fun s63 u63 => ?_⟩
            generalize s63 = st63 at *
            have ns63 := ns62.keep u63
            have f63_wh : st63 p11 = some (.lst ((wh).map D.int)) := u63.l f62_wh
            clear ns62 f62_wh u63
            have hpu := ns63.push (d := .int (sumO wh)) (K := fun st' => NS st' n m c (20 * (i + 1))) (okP_int _) (by omega) fun s' ns' kk => ns'.more (by omega)
            obtain ⟨ds2, lc2, _⟩ := ns63.lc
            show lsO (st63 c) _
            rw [lc2, lsO_lst] at hpu ⊢
            exact ⟨hpu.1, _, _, _, _, _, _, _, _, _, _, _, _, _, rfl, hpu.2⟩
    · rintro env st' ⟨g3, g4, g5, g6, g7, g8, g9, g10, g11, g12, g13, g14, g15, rfl, hns⟩
      rw [rangeD_len] at hns
      exact hnx _ _ ⟨_, _, _, _, _, _, _, _, _, _, _, _, _, rfl, hns⟩
  · rintro env stC ⟨g3, g4, g5, g6, g7, g8, g9, g10, g11, g12, g13, g14, g15, rfl, hns⟩
    clear nsA
    refine sSeq_t fun T hT => ?_
    have rd := hns.rd
    have cm1 : CMulW 255 3000 := by unfold CMulW; decide
    have cm2 : CMulW (255 * 3000) 3001 := by unfold CMulW; decide
    have cd : CDivW (255 * 3000 * 3001) 2 := wide_div (b := 9) (by omega) (by omega) (by omega) (by omega)
    walk_at "s"
    refine ⟨by simp, by omega, by simp, ?_⟩
    rw [show (3000 : Int).toNat = 3000 from rfl, rep_flat]
    have hoc : OctOk (List.replicate 3000 255) := ⟨by rw [List.length_replicate]; omega, fun x hx => by rw [List.eq_of_mem_replicate hx]; omega⟩
    have hsum := sum3000
    generalize List.replicate 3000 (255 : Int) = big at *
    refine ⟨big, rfl, hoc, fun stD uD => ?_⟩
    have hns2 := hns.keep uD
    clear rd hns uD
    rw [hsum]
    walk_at "s"
    refine hns2.push (d := .int (255 * 3000 * 3001 / 2 % 65521)) (okP_int _) (by omega) fun stE hns3 _ => ?_
    subst hT
    walk_at "s"
    obtain ⟨ds, lc, hl, ho⟩ := hns3.lc
    exact ⟨c, ds, rfl, lc, by omega, ho, fun st12 _ => endsOf_i (q st12)⟩
end L2.DL

namespace L2.DL
open PySem PySem.Spec PyProof.Rows
theorem law_spec : ∀ (a : Addr) (ns : List Int), ns.length ≤ 63 → S_law [.ref a] (put (fun _ => none) a (.rol (ns.map D.int))) (fun d _ => d = .bl true) :=
  fun a ns _ => ⟨a, ns, rfl, put_same, fun _ => rfl⟩
end L2.DL

namespace L2.DL
namespace Tk81
open PySem PySem.Spec PyProof.Rows
def top (i : Nat) : Stmt := PySem.Challenge.pw_ownrules_k81_numbers_and_texts_have_octe.main.body.getD i (.Pass ⟨0, 0, 0, 0⟩)
/-- what the top tells of names -/
structure Tx (K : PySem.W.Frag) (mg : Str → Option Value) : Prop where
  n_abs : mg "abs" = none
  n_bool : mg "bool" = none
  n_dict : mg "dict" = none
  n_enumerate : mg "enumerate" = none
  n_int : mg "int" = none
  n_isinstance : mg "isinstance" = none
  n_len : mg "len" = none
  n_list : mg "list" = none
  n_ord : mg "ord" = none
  n_range : mg "range" = none
  n_str : mg "str" = none
  n_sum : mg "sum" = none
  n_tuple : mg "tuple" = none
  c_BASE : ∃ t, mg "BASE" = some (.int (128) t)
  c_BLANK : ∃ t, mg "BLANK" = some (.int (32) t)
  c_NEWLINE : ∃ t, mg "NEWLINE" = some (.int (10) t)
  c_PERCENT : ∃ t, mg "PERCENT" = some (.int (37) t)
  c_PRIME : ∃ t, mg "PRIME" = some (.int (65521) t)
  c_SIGNS : ∃ t, mg "SIGNS" = some (.str " !\"#$\n&'()*+,-./0123456789:;<=>?@ABCDEFGHIJKLMNOPQRSTUVWXYZ[\\]^_`abcdefghijklmnopqrstuvwxyz{|}~" t)
section
variable {P : Program} {w : World} {K : PySem.W.Frag} {mg : Str → Option Value} {base : Heap}
abbrev s_octets_of_number : Stmt := top 6
abbrev N_octets_of_number : List Str := ["number", "found", "rest"]
abbrev P_octets_of_number : List Str := ["number"]
theorem sc_octets_of_number : FnScope N_octets_of_number P_octets_of_number (defScope s_octets_of_number) := ⟨rfl, rfl, rfl, by decide +kernel, rfl, by decide +kernel, by decide +kernel⟩
theorem d_octets_of_number (T : Tx K mg) {f : Addr} {cdv : Value} {A : Around} {outer : List PySem.Env} {s : Shared} {H : Hp} {E : XK} (hr : Room 0 (A.deeper (envOfC "octets_of_number" (defScope s_octets_of_number) s.heap.objs.size f cdv))) :
    DSs (cxOf CX0 P w K mg base N_octets_of_number "octets_of_number" (defScope s_octets_of_number) f cdv A outer s H E).nox (defBody s_octets_of_number) t_octets_of_number := by
  exact dss_cons (ds_set (i := 1) sc_octets_of_number.nd rfl (Or.inl rfl) (de_lst (da_nil)))
    (dss_cons (ds_set (i := 2) sc_octets_of_number.nd rfl (Or.inl rfl) (dv 0))
    (dss_cons (ds_while PassesOwn.never (dt_cmp do_ge (dv 2) (de_gint T.c_BASE) (nomark _)) (dss_cons (ds_expr (de_m PySem.F.plainAttrs_list PySem.F.slot_list_append PySem.F.type_list_append ty_list dm_append (dv 1) (da_cons (de_bin do_add (de_gint T.c_BASE) (de_bin do_mod (dv 2) (de_gint T.c_BASE))) (da_nil))))
    (dss_one (ds_set (i := 2) sc_octets_of_number.nd rfl (Or.inl rfl) (de_bin do_div (dv 2) (de_gint T.c_BASE))))))
    (dss_cons (ds_expr (de_m PySem.F.plainAttrs_list PySem.F.slot_list_append PySem.F.type_list_append ty_list dm_append (dv 1) (da_cons (dv 2) (da_nil))))
    (dss_one (ds_ret (de_callTy dc_tuple rfl T.n_tuple boot_tuple (da_cons (dv 1) (da_nil))))))))
theorem ok_octets_of_number (T : Tx K mg) {f : Addr} {fd : FuncData} (F : FunD K "octets_of_number" "octets_of_number" (defArgs s_octets_of_number) (defBody s_octets_of_number) (defScope s_octets_of_number) [] [] f fd) (hm : mg "octets_of_number" = some (.ref f)) : Cal P w K mg base 1 "octets_of_number" P_octets_of_number S_octets_of_number :=
  ⟨f, fd, hm, F.kp, F.bindsN (fun _ _ _ _ _ _ us hl => match us, hl with | [_], _ => rfl), F.ok sc_octets_of_number (fun vs H Q E h => keeps_len kp_octets_of_number h) (fun cdv A outer s H vs Q E hr h => ⟨liftS K t_octets_of_number, PSs.nox (d_octets_of_number T  hr).pss, keeps_use (N := N_octets_of_number) kp_octets_of_number h⟩)⟩
abbrev s_octets_of_text : Stmt := top 7
abbrev N_octets_of_text : List Str := ["text", "sign"]
abbrev P_octets_of_text : List Str := ["text"]
theorem sc_octets_of_text : FnScope N_octets_of_text P_octets_of_text (defScope s_octets_of_text) := ⟨rfl, rfl, rfl, by decide +kernel, rfl, by decide +kernel, by decide +kernel⟩
theorem d_octets_of_text (T : Tx K mg) (C_octets_of_number : Cal P w K mg base 1 "octets_of_number" P_octets_of_number S_octets_of_number) {f : Addr} {cdv : Value} {A : Around} {outer : List PySem.Env} {s : Shared} {H : Hp} {E : XK} (hr : Room 1 (A.deeper (envOfC "octets_of_text" (defScope s_octets_of_text) s.heap.objs.size f cdv))) :
    DSs (cxOf CX0 P w K mg base N_octets_of_text "octets_of_text" (defScope s_octets_of_text) f cdv A outer s H E).nox (defBody s_octets_of_text) t_octets_of_text := by
  exact dss_one (ds_ret (de_bin do_add (dcall C_octets_of_number hr (by decide) (da_cons (de_callB dc_len rfl T.n_len PySem.boot_len (da_cons (dv 0) (da_nil))) (da_nil))) (de_callTy dc_tuple rfl T.n_tuple boot_tuple (da_cons (de_lc rfl sc_octets_of_text.nd (di_seq (dv 0)) (blkOk_by (N := N_octets_of_text) (sc := defScope s_octets_of_text) (own := [("sign", 1)]) (by decide +kernel)) (fun _ _ _ _ _ => dgc_name (i := 1) sc_octets_of_text.nd rfl (by first | exact Or.inl rfl | exact Or.inr rfl) (by decide)) (fun _ _ _ _ _ => dts_nil) (fun _ _ _ _ _ => de_callB dc_ord rfl T.n_ord boot_ord (da_cons (dv 1) (da_nil)))) (da_nil)))))
theorem ok_octets_of_text (T : Tx K mg) (C_octets_of_number : Cal P w K mg base 1 "octets_of_number" P_octets_of_number S_octets_of_number) {f : Addr} {fd : FuncData} (F : FunD K "octets_of_text" "octets_of_text" (defArgs s_octets_of_text) (defBody s_octets_of_text) (defScope s_octets_of_text) [] [] f fd) (hm : mg "octets_of_text" = some (.ref f)) : Cal P w K mg base 2 "octets_of_text" P_octets_of_text S_octets_of_text :=
  ⟨f, fd, hm, F.kp, F.bindsN (fun _ _ _ _ _ _ us hl => match us, hl with | [_], _ => rfl), F.ok sc_octets_of_text (fun vs H Q E h => keeps_len kp_octets_of_text h) (fun cdv A outer s H vs Q E hr h => ⟨liftS K t_octets_of_text, PSs.nox (d_octets_of_text T C_octets_of_number hr).pss, keeps_use (N := N_octets_of_text) kp_octets_of_text h⟩)⟩
abbrev s_number_of : Stmt := top 8
abbrev N_number_of : List Str := ["figures", "row", "base", "pairs", "at"]
abbrev P_number_of : List Str := ["figures"]
theorem sc_number_of : FnScope N_number_of P_number_of (defScope s_number_of) := ⟨rfl, rfl, rfl, by decide +kernel, rfl, by decide +kernel, by decide +kernel⟩
theorem d_number_of (T : Tx K mg) {f : Addr} {cdv : Value} {A : Around} {outer : List PySem.Env} {s : Shared} {H : Hp} {E : XK} (hr : Room 0 (A.deeper (envOfC "number_of" (defScope s_number_of) s.heap.objs.size f cdv))) :
    DSs (cxOf CX0 P w K mg base N_number_of "number_of" (defScope s_number_of) f cdv A outer s H E).nox (defBody s_number_of) t_number_of := by
  exact dss_cons (ds_asg (de_tup (da_cons (de_callTy (dc_list rfl) rfl T.n_list boot_list (da_cons (dv 0) (da_nil))) (da_cons (de_gint T.c_BASE) (da_nil)))) (dg_tup rfl (dgs_cons (dg_name (i := 1) sc_number_of.nd rfl (Or.inr rfl)) (dgs_cons (dg_name (i := 2) sc_number_of.nd rfl (Or.inr rfl)) (dgs_nil)))))
    (dss_cons (ds_while PassesOwn.never (dt_cmp do_gt (de_callB dc_len rfl T.n_len PySem.boot_len (da_cons (dv 1) (da_nil))) (de_int) (nomark _)) (dss_cons (ds_setLc (i := 3) rfl sc_number_of.nd rfl rfl (sw_true rfl rfl rfl (by decide +kernel)) (di_rng3 rfl T.n_range (de_int) (de_bin do_sub (de_callB dc_len rfl T.n_len PySem.boot_len (da_cons (dv 1) (da_nil))) (de_int)) (de_int)) (blkOk_by (N := N_number_of) (sc := defScope s_number_of) (own := [("at", 4)]) (by decide +kernel)) (fun _ _ _ _ _ => dgc_name (i := 4) sc_number_of.nd rfl (by first | exact Or.inl rfl | exact Or.inr rfl) (by decide)) (fun _ _ _ _ _ => dts_nil) (fun _ _ _ _ _ => de_bin do_add (de_ix (di_all (hu_of hr)) (dv 1) (dv 4)) (de_bin do_mul (dv 2) (de_ix (di_all (hu_of hr)) (dv 1) (de_bin do_add (dv 4) (de_int))))))
    (dss_cons (ds_if (dt_cmp (do_eq hr.units) (de_bin do_mod (de_callB dc_len rfl T.n_len PySem.boot_len (da_cons (dv 1) (da_nil))) (de_int)) (de_int) (nomark _)) (dss_one (ds_expr (de_m PySem.F.plainAttrs_list PySem.F.slot_list_append PySem.F.type_list_append ty_list dm_append (dv 3) (da_cons (de_ix (di_all (hu_of hr)) (dv 1) (de_bin do_sub (de_callB dc_len rfl T.n_len PySem.boot_len (da_cons (dv 1) (da_nil))) (de_int))) (da_nil))))) (dss_nil))
    (dss_cons (ds_set (i := 1) sc_number_of.nd rfl (Or.inr rfl) (dv 3))
    (dss_one (ds_set (i := 2) sc_number_of.nd rfl (Or.inr rfl) (de_bin do_mul (dv 2) (dv 2))))))))
    (dss_one (ds_ret (de_ix (di_all (hu_of hr)) (dv 1) (de_int)))))
theorem ok_number_of (T : Tx K mg) {f : Addr} {fd : FuncData} (F : FunD K "number_of" "number_of" (defArgs s_number_of) (defBody s_number_of) (defScope s_number_of) [] [] f fd) (hm : mg "number_of" = some (.ref f)) : Cal P w K mg base 1 "number_of" P_number_of S_number_of :=
  ⟨f, fd, hm, F.kp, F.bindsN (fun _ _ _ _ _ _ us hl => match us, hl with | [_], _ => rfl), F.ok sc_number_of (fun vs H Q E h => keeps_len kp_number_of h) (fun cdv A outer s H vs Q E hr h => ⟨liftS K t_number_of, PSs.nox (d_number_of T  hr).pss, keeps_use (N := N_number_of) kp_number_of h⟩)⟩
abbrev s_behind_number : Stmt := top 9
abbrev N_behind_number : List Str := ["octets", "at", "place"]
abbrev P_behind_number : List Str := ["octets", "at"]
theorem sc_behind_number : FnScope N_behind_number P_behind_number (defScope s_behind_number) := ⟨rfl, rfl, rfl, by decide +kernel, rfl, by decide +kernel, by decide +kernel⟩
theorem d_behind_number (T : Tx K mg) {f : Addr} {cdv : Value} {A : Around} {outer : List PySem.Env} {s : Shared} {H : Hp} {E : XK} (hr : Room 0 (A.deeper (envOfC "behind_number" (defScope s_behind_number) s.heap.objs.size f cdv))) :
    DSs (cxOf CX0 P w K mg base N_behind_number "behind_number" (defScope s_behind_number) f cdv A outer s H E).nox (defBody s_behind_number) t_behind_number := by
  exact dss_cons (ds_if (dt_cmp do_lt (dv 1) (de_int) (nomark _)) (dss_one (ds_ret (de_non))) (dss_nil))
    (dss_cons (ds_for PassesOwn.never rfl (di_rng2 rfl T.n_range (dv 1) (de_callB dc_len rfl T.n_len PySem.boot_len (da_cons (dv 0) (da_nil)))) (dg_name (i := 2) sc_behind_number.nd rfl (Or.inl rfl)) (dss_one (ds_if (dt_cmp do_lt (de_ix (di_all (hu_of hr)) (dv 0) (dv 2)) (de_gint T.c_BASE) (nomark _)) (dss_one (ds_ret (de_bin do_add (dv 2) (de_int)))) (dss_nil))))
    (dss_one (ds_ret (de_non))))
theorem ok_behind_number (T : Tx K mg) {f : Addr} {fd : FuncData} (F : FunD K "behind_number" "behind_number" (defArgs s_behind_number) (defBody s_behind_number) (defScope s_behind_number) [] [] f fd) (hm : mg "behind_number" = some (.ref f)) : Cal P w K mg base 1 "behind_number" P_behind_number S_behind_number :=
  ⟨f, fd, hm, F.kp, F.bindsN (fun _ _ _ _ _ _ us hl => match us, hl with | [_, _], _ => rfl), F.ok sc_behind_number (fun vs H Q E h => keeps_len kp_behind_number h) (fun cdv A outer s H vs Q E hr h => ⟨liftS K t_behind_number, PSs.nox (d_behind_number T  hr).pss, keeps_use (N := N_behind_number) kp_behind_number h⟩)⟩
abbrev s_number_in : Stmt := top 10
abbrev N_number_in : List Str := ["octets", "at", "end", "figures", "octet"]
abbrev P_number_in : List Str := ["octets", "at"]
theorem sc_number_in : FnScope N_number_in P_number_in (defScope s_number_in) := ⟨rfl, rfl, rfl, by decide +kernel, rfl, by decide +kernel, by decide +kernel⟩
theorem d_number_in (T : Tx K mg) (C_behind_number : Cal P w K mg base 1 "behind_number" P_behind_number S_behind_number) (C_number_of : Cal P w K mg base 1 "number_of" P_number_of S_number_of) {f : Addr} {cdv : Value} {A : Around} {outer : List PySem.Env} {s : Shared} {H : Hp} {E : XK} (hr : Room 1 (A.deeper (envOfC "number_in" (defScope s_number_in) s.heap.objs.size f cdv))) :
    DSs (cxOf CX0 P w K mg base N_number_in "number_in" (defScope s_number_in) f cdv A outer s H E).nox (defBody s_number_in) t_number_in := by
  exact dss_cons (ds_set (i := 2) sc_number_in.nd rfl (Or.inl rfl) (dcall C_behind_number hr (by decide) (da_cons (dv 0) (da_cons (dv 1) (da_nil)))))
    (dss_cons (ds_if (DW.dt (dw_or (dt_cmp do_is (dv 2) (de_non) (nomark _)) (dw_or1 (DW.dt (dw_and (dt_cmp do_gt (de_bin do_sub (dv 2) (dv 1)) (de_int) (nomark _)) (dw_and1 (dt_cmp (do_eq hr.units) (de_ix (di_all (hu_of hr)) (dv 0) (de_bin do_sub (dv 2) (de_int))) (de_int) (nomark _)))))))) (dss_one (ds_ret (de_non))) (dss_nil))
    (dss_cons (ds_set (i := 3) sc_number_in.nd rfl (Or.inl rfl) (de_bin do_add (de_lc rfl sc_number_in.nd (di_seq (de_sl (dv 0) (dp_some (dv 1)) (dp_some (de_bin do_sub (dv 2) (de_int))))) (blkOk_by (N := N_number_in) (sc := defScope s_number_in) (own := [("octet", 4)]) (by decide +kernel)) (fun _ _ _ _ _ => dgc_name (i := 4) sc_number_in.nd rfl (by first | exact Or.inl rfl | exact Or.inr rfl) (by decide)) (fun _ _ _ _ _ => dts_nil) (fun _ _ _ _ _ => de_bin do_sub (dv 4) (de_gint T.c_BASE))) (de_lst (da_cons (de_ix (di_all (hu_of hr)) (dv 0) (de_bin do_sub (dv 2) (de_int))) (da_nil)))))
    (dss_one (ds_ret (de_tup (da_cons (dcall C_number_of hr (by decide) (da_cons (dv 3) (da_nil))) (da_cons (dv 2) (da_nil))))))))
theorem ok_number_in (T : Tx K mg) (C_behind_number : Cal P w K mg base 1 "behind_number" P_behind_number S_behind_number) (C_number_of : Cal P w K mg base 1 "number_of" P_number_of S_number_of) {f : Addr} {fd : FuncData} (F : FunD K "number_in" "number_in" (defArgs s_number_in) (defBody s_number_in) (defScope s_number_in) [] [] f fd) (hm : mg "number_in" = some (.ref f)) : Cal P w K mg base 2 "number_in" P_number_in S_number_in :=
  ⟨f, fd, hm, F.kp, F.bindsN (fun _ _ _ _ _ _ us hl => match us, hl with | [_, _], _ => rfl), F.ok sc_number_in (fun vs H Q E h => keeps_len kp_number_in h) (fun cdv A outer s H vs Q E hr h => ⟨liftS K t_number_in, PSs.nox (d_number_in T C_behind_number C_number_of hr).pss, keeps_use (N := N_number_in) kp_number_in h⟩)⟩
abbrev s_sign_of : Stmt := top 11
abbrev N_sign_of : List Str := ["octet"]
abbrev P_sign_of : List Str := ["octet"]
theorem sc_sign_of : FnScope N_sign_of P_sign_of (defScope s_sign_of) := ⟨rfl, rfl, rfl, by decide +kernel, rfl, by decide +kernel, by decide +kernel⟩
theorem d_sign_of (T : Tx K mg) {f : Addr} {cdv : Value} {A : Around} {outer : List PySem.Env} {s : Shared} {H : Hp} {E : XK} (hr : Room 0 (A.deeper (envOfC "sign_of" (defScope s_sign_of) s.heap.objs.size f cdv))) :
    DSs (cxOf CX0 P w K mg base N_sign_of "sign_of" (defScope s_sign_of) f cdv A outer s H E).nox (defBody s_sign_of) t_sign_of := by
  exact dss_cons (ds_if (dt_cmp (do_eq hr.units) (dv 0) (de_gint T.c_NEWLINE) (nomark _)) (dss_one (ds_ret (de_str))) (dss_nil))
    (dss_cons (ds_if (DW.dt (dw_or (dt_cmp do_lt (dv 0) (de_gint T.c_BLANK) (nomark _)) (dw_or (dt_cmp do_ge (dv 0) (de_bin do_add (de_gint T.c_BLANK) (de_callB dc_len rfl T.n_len PySem.boot_len (da_cons (de_gstr T.c_SIGNS) (da_nil)))) (nomark _)) (dw_or1 (dt_cmp (do_eq hr.units) (dv 0) (de_gint T.c_PERCENT) (nomark _)))))) (dss_one (ds_ret (de_non))) (dss_nil))
    (dss_one (ds_ret (de_ix (di_all (hu_of hr)) (de_gstr T.c_SIGNS) (de_bin do_sub (dv 0) (de_gint T.c_BLANK))))))
theorem ok_sign_of (T : Tx K mg) {f : Addr} {fd : FuncData} (F : FunD K "sign_of" "sign_of" (defArgs s_sign_of) (defBody s_sign_of) (defScope s_sign_of) [] [] f fd) (hm : mg "sign_of" = some (.ref f)) : Cal P w K mg base 1 "sign_of" P_sign_of S_sign_of :=
  ⟨f, fd, hm, F.kp, F.bindsN (fun _ _ _ _ _ _ us hl => match us, hl with | [_], _ => rfl), F.ok sc_sign_of (fun vs H Q E h => keeps_len kp_sign_of h) (fun cdv A outer s H vs Q E hr h => ⟨liftS K t_sign_of, PSs.nox (d_sign_of T  hr).pss, keeps_use (N := N_sign_of) kp_sign_of h⟩)⟩
abbrev s_text_in : Stmt := top 12
abbrev N_text_in : List Str := ["octets", "at", "told", "end", "signs", "octet"]
abbrev P_text_in : List Str := ["octets", "at"]
theorem sc_text_in : FnScope N_text_in P_text_in (defScope s_text_in) := ⟨rfl, rfl, rfl, by decide +kernel, rfl, by decide +kernel, by decide +kernel⟩
theorem d_text_in (T : Tx K mg) (C_number_in : Cal P w K mg base 2 "number_in" P_number_in S_number_in) (C_sign_of : Cal P w K mg base 1 "sign_of" P_sign_of S_sign_of) {f : Addr} {cdv : Value} {A : Around} {outer : List PySem.Env} {s : Shared} {H : Hp} {E : XK} (hr : Room 2 (A.deeper (envOfC "text_in" (defScope s_text_in) s.heap.objs.size f cdv))) :
    DSs (cxOf CX0 P w K mg base N_text_in "text_in" (defScope s_text_in) f cdv A outer s H E).nox (defBody s_text_in) t_text_in := by
  exact dss_cons (ds_set (i := 2) sc_text_in.nd rfl (Or.inl rfl) (dcall C_number_in hr (by decide) (da_cons (dv 0) (da_cons (dv 1) (da_nil)))))
    (dss_cons (ds_if (DW.dt (dw_or (dt_cmp do_is (dv 2) (de_non) (nomark _)) (dw_or1 (dt_cmp do_gt (de_ix (di_all (hu_of hr)) (dv 2) (de_int)) (de_bin do_sub (de_callB dc_len rfl T.n_len PySem.boot_len (da_cons (dv 0) (da_nil))) (de_ix (di_all (hu_of hr)) (dv 2) (de_int))) (nomark _))))) (dss_one (ds_ret (de_non))) (dss_nil))
    (dss_cons (ds_set (i := 3) sc_text_in.nd rfl (Or.inl rfl) (de_bin do_add (de_ix (di_all (hu_of hr)) (dv 2) (de_int)) (de_ix (di_all (hu_of hr)) (dv 2) (de_int))))
    (dss_cons (ds_setLc (i := 4) rfl sc_text_in.nd rfl rfl (sw_true rfl rfl rfl (by decide +kernel)) (di_seq (de_sl (dv 0) (dp_some (de_ix (di_all (hu_of hr)) (dv 2) (de_int))) (dp_some (dv 3)))) (blkOk_by (N := N_text_in) (sc := defScope s_text_in) (own := [("octet", 5)]) (by decide +kernel)) (fun _ _ _ _ _ => dgc_name (i := 5) sc_text_in.nd rfl (by first | exact Or.inl rfl | exact Or.inr rfl) (by decide)) (fun _ _ _ _ _ => dts_nil) (fun _ _ _ _ _ => dcall C_sign_of hr (by decide) (da_cons (dv 5) (da_nil))))
    (dss_cons (ds_if (dt_cmp (do_in (hu_of hr)) (de_non) (dv 4) (by rfl)) (dss_one (ds_ret (de_non))) (dss_nil))
    (dss_one (ds_ret (de_tup (da_cons (de_m PySem.F.plainAttrs_str PySem.F.slot_str_join PySem.F.type_str_join ty_str dm_join (de_str) (da_cons (dv 4) (da_nil))) (da_cons (dv 3) (da_nil))))))))))
theorem ok_text_in (T : Tx K mg) (C_number_in : Cal P w K mg base 2 "number_in" P_number_in S_number_in) (C_sign_of : Cal P w K mg base 1 "sign_of" P_sign_of S_sign_of) {f : Addr} {fd : FuncData} (F : FunD K "text_in" "text_in" (defArgs s_text_in) (defBody s_text_in) (defScope s_text_in) [] [] f fd) (hm : mg "text_in" = some (.ref f)) : Cal P w K mg base 3 "text_in" P_text_in S_text_in :=
  ⟨f, fd, hm, F.kp, F.bindsN (fun _ _ _ _ _ _ us hl => match us, hl with | [_, _], _ => rfl), F.ok sc_text_in (fun vs H Q E h => keeps_len kp_text_in h) (fun cdv A outer s H vs Q E hr h => ⟨liftS K t_text_in, PSs.nox (d_text_in T C_number_in C_sign_of hr).pss, keeps_use (N := N_text_in) kp_text_in h⟩)⟩
abbrev s_number_octets : Stmt := top 15
abbrev N_number_octets : List Str := ["number"]
abbrev P_number_octets : List Str := ["number"]
theorem sc_number_octets : FnScope N_number_octets P_number_octets (defScope s_number_octets) := ⟨rfl, rfl, rfl, by decide +kernel, rfl, by decide +kernel, by decide +kernel⟩
theorem d_number_octets (T : Tx K mg) (C_octets_of_number : Cal P w K mg base 1 "octets_of_number" P_octets_of_number S_octets_of_number) {f : Addr} {cdv : Value} {A : Around} {outer : List PySem.Env} {s : Shared} {H : Hp} {E : XK} (hr : Room 1 (A.deeper (envOfC "number_octets" (defScope s_number_octets) s.heap.objs.size f cdv))) :
    DSs (cxOf CX0 P w K mg base N_number_octets "number_octets" (defScope s_number_octets) f cdv A outer s H E).nox (defBody s_number_octets) t_number_octets := by
  exact dss_one (ds_ret (dcall C_octets_of_number hr (by decide) (da_cons (dv 0) (da_nil))))
theorem ok_number_octets (T : Tx K mg) (C_octets_of_number : Cal P w K mg base 1 "octets_of_number" P_octets_of_number S_octets_of_number) {f : Addr} {fd : FuncData} (F : FunD K "number_octets" "number_octets" (defArgs s_number_octets) (defBody s_number_octets) (defScope s_number_octets) [] [] f fd) (hm : mg "number_octets" = some (.ref f)) : Cal P w K mg base 2 "number_octets" P_number_octets S_number_octets :=
  ⟨f, fd, hm, F.kp, F.bindsN (fun _ _ _ _ _ _ us hl => match us, hl with | [_], _ => rfl), F.ok sc_number_octets (fun vs H Q E h => keeps_len kp_number_octets h) (fun cdv A outer s H vs Q E hr h => ⟨liftS K t_number_octets, PSs.nox (d_number_octets T C_octets_of_number hr).pss, keeps_use (N := N_number_octets) kp_number_octets h⟩)⟩
theorem okK_number_octets_number (T : Tx K mg) (C_octets_of_number : Cal P w K mg base 1 "octets_of_number" P_octets_of_number S_octets_of_number) {f : Addr} {fd : FuncData} (F : FunD K "number_octets" "number_octets" (defArgs s_number_octets) (defBody s_number_octets) (defScope s_number_octets) [] [] f fd) (hm : mg "number_octets" = some (.ref f)) : CalK P w K mg base 2 "number_octets" P_number_octets ["number"] [0] S_number_octets :=
  ⟨f, fd, hm, F.kp, bindsK F (fun _ _ _ _ _ _ ws hl => match ws, hl with | [_], _ => rfl), by decide, rfl, F.ok sc_number_octets (fun vs H Q E h => keeps_len kp_number_octets h) (fun cdv A outer s H vs Q E hr h => ⟨liftS K t_number_octets, PSs.nox (d_number_octets T C_octets_of_number hr).pss, keeps_use (N := N_number_octets) kp_number_octets h⟩)⟩
abbrev s_text_octets : Stmt := top 16
abbrev N_text_octets : List Str := ["text"]
abbrev P_text_octets : List Str := ["text"]
theorem sc_text_octets : FnScope N_text_octets P_text_octets (defScope s_text_octets) := ⟨rfl, rfl, rfl, by decide +kernel, rfl, by decide +kernel, by decide +kernel⟩
theorem d_text_octets (T : Tx K mg) (C_octets_of_text : Cal P w K mg base 2 "octets_of_text" P_octets_of_text S_octets_of_text) {f : Addr} {cdv : Value} {A : Around} {outer : List PySem.Env} {s : Shared} {H : Hp} {E : XK} (hr : Room 2 (A.deeper (envOfC "text_octets" (defScope s_text_octets) s.heap.objs.size f cdv))) :
    DSs (cxOf CX0 P w K mg base N_text_octets "text_octets" (defScope s_text_octets) f cdv A outer s H E).nox (defBody s_text_octets) t_text_octets := by
  exact dss_one (ds_ret (dcall C_octets_of_text hr (by decide) (da_cons (dv 0) (da_nil))))
theorem ok_text_octets (T : Tx K mg) (C_octets_of_text : Cal P w K mg base 2 "octets_of_text" P_octets_of_text S_octets_of_text) {f : Addr} {fd : FuncData} (F : FunD K "text_octets" "text_octets" (defArgs s_text_octets) (defBody s_text_octets) (defScope s_text_octets) [] [] f fd) (hm : mg "text_octets" = some (.ref f)) : Cal P w K mg base 3 "text_octets" P_text_octets S_text_octets :=
  ⟨f, fd, hm, F.kp, F.bindsN (fun _ _ _ _ _ _ us hl => match us, hl with | [_], _ => rfl), F.ok sc_text_octets (fun vs H Q E h => keeps_len kp_text_octets h) (fun cdv A outer s H vs Q E hr h => ⟨liftS K t_text_octets, PSs.nox (d_text_octets T C_octets_of_text hr).pss, keeps_use (N := N_text_octets) kp_text_octets h⟩)⟩
theorem okK_text_octets_text (T : Tx K mg) (C_octets_of_text : Cal P w K mg base 2 "octets_of_text" P_octets_of_text S_octets_of_text) {f : Addr} {fd : FuncData} (F : FunD K "text_octets" "text_octets" (defArgs s_text_octets) (defBody s_text_octets) (defScope s_text_octets) [] [] f fd) (hm : mg "text_octets" = some (.ref f)) : CalK P w K mg base 3 "text_octets" P_text_octets ["text"] [0] S_text_octets :=
  ⟨f, fd, hm, F.kp, bindsK F (fun _ _ _ _ _ _ ws hl => match ws, hl with | [_], _ => rfl), by decide, rfl, F.ok sc_text_octets (fun vs H Q E h => keeps_len kp_text_octets h) (fun cdv A outer s H vs Q E hr h => ⟨liftS K t_text_octets, PSs.nox (d_text_octets T C_octets_of_text hr).pss, keeps_use (N := N_text_octets) kp_text_octets h⟩)⟩
abbrev s_read_number : Stmt := top 17
abbrev N_read_number : List Str := ["octets", "at"]
abbrev P_read_number : List Str := ["octets", "at"]
theorem sc_read_number : FnScope N_read_number P_read_number (defScope s_read_number) := ⟨rfl, rfl, rfl, by decide +kernel, rfl, by decide +kernel, by decide +kernel⟩
theorem d_read_number (T : Tx K mg) (C_number_in : Cal P w K mg base 2 "number_in" P_number_in S_number_in) {f : Addr} {cdv : Value} {A : Around} {outer : List PySem.Env} {s : Shared} {H : Hp} {E : XK} (hr : Room 2 (A.deeper (envOfC "read_number" (defScope s_read_number) s.heap.objs.size f cdv))) :
    DSs (cxOf CX0 P w K mg base N_read_number "read_number" (defScope s_read_number) f cdv A outer s H E).nox (defBody s_read_number) t_read_number := by
  exact dss_one (ds_ret (dcall C_number_in hr (by decide) (da_cons (de_callTy dc_tuple rfl T.n_tuple boot_tuple (da_cons (dv 0) (da_nil))) (da_cons (dv 1) (da_nil)))))
theorem ok_read_number (T : Tx K mg) (C_number_in : Cal P w K mg base 2 "number_in" P_number_in S_number_in) {f : Addr} {fd : FuncData} (F : FunD K "read_number" "read_number" (defArgs s_read_number) (defBody s_read_number) (defScope s_read_number) [] [] f fd) (hm : mg "read_number" = some (.ref f)) : Cal P w K mg base 3 "read_number" P_read_number S_read_number :=
  ⟨f, fd, hm, F.kp, F.bindsN (fun _ _ _ _ _ _ us hl => match us, hl with | [_, _], _ => rfl), F.ok sc_read_number (fun vs H Q E h => keeps_len kp_read_number h) (fun cdv A outer s H vs Q E hr h => ⟨liftS K t_read_number, PSs.nox (d_read_number T C_number_in hr).pss, keeps_use (N := N_read_number) kp_read_number h⟩)⟩
abbrev s_read_text : Stmt := top 18
abbrev N_read_text : List Str := ["octets", "at"]
abbrev P_read_text : List Str := ["octets", "at"]
theorem sc_read_text : FnScope N_read_text P_read_text (defScope s_read_text) := ⟨rfl, rfl, rfl, by decide +kernel, rfl, by decide +kernel, by decide +kernel⟩
theorem d_read_text (T : Tx K mg) (C_text_in : Cal P w K mg base 3 "text_in" P_text_in S_text_in) {f : Addr} {cdv : Value} {A : Around} {outer : List PySem.Env} {s : Shared} {H : Hp} {E : XK} (hr : Room 3 (A.deeper (envOfC "read_text" (defScope s_read_text) s.heap.objs.size f cdv))) :
    DSs (cxOf CX0 P w K mg base N_read_text "read_text" (defScope s_read_text) f cdv A outer s H E).nox (defBody s_read_text) t_read_text := by
  exact dss_one (ds_ret (dcall C_text_in hr (by decide) (da_cons (de_callTy dc_tuple rfl T.n_tuple boot_tuple (da_cons (dv 0) (da_nil))) (da_cons (dv 1) (da_nil)))))
theorem ok_read_text (T : Tx K mg) (C_text_in : Cal P w K mg base 3 "text_in" P_text_in S_text_in) {f : Addr} {fd : FuncData} (F : FunD K "read_text" "read_text" (defArgs s_read_text) (defBody s_read_text) (defScope s_read_text) [] [] f fd) (hm : mg "read_text" = some (.ref f)) : Cal P w K mg base 4 "read_text" P_read_text S_read_text :=
  ⟨f, fd, hm, F.kp, F.bindsN (fun _ _ _ _ _ _ us hl => match us, hl with | [_, _], _ => rfl), F.ok sc_read_text (fun vs H Q E h => keeps_len kp_read_text h) (fun cdv A outer s H vs Q E hr h => ⟨liftS K t_read_text, PSs.nox (d_read_text T C_text_in hr).pss, keeps_use (N := N_read_text) kp_read_text h⟩)⟩
theorem okK_read_text_octets_at (T : Tx K mg) (C_text_in : Cal P w K mg base 3 "text_in" P_text_in S_text_in) {f : Addr} {fd : FuncData} (F : FunD K "read_text" "read_text" (defArgs s_read_text) (defBody s_read_text) (defScope s_read_text) [] [] f fd) (hm : mg "read_text" = some (.ref f)) : CalK P w K mg base 4 "read_text" P_read_text ["octets", "at"] [0, 1] S_read_text :=
  ⟨f, fd, hm, F.kp, bindsK F (fun _ _ _ _ _ _ ws hl => match ws, hl with | [_, _], _ => rfl), by decide, rfl, F.ok sc_read_text (fun vs H Q E h => keeps_len kp_read_text h) (fun cdv A outer s H vs Q E hr h => ⟨liftS K t_read_text, PSs.nox (d_read_text T C_text_in hr).pss, keeps_use (N := N_read_text) kp_read_text h⟩)⟩
abbrev s_sum_of_octets : Stmt := top 19
abbrev N_sum_of_octets : List Str := ["octets", "found", "at", "octet"]
abbrev P_sum_of_octets : List Str := ["octets"]
theorem sc_sum_of_octets : FnScope N_sum_of_octets P_sum_of_octets (defScope s_sum_of_octets) := ⟨rfl, rfl, rfl, by decide +kernel, rfl, by decide +kernel, by decide +kernel⟩
theorem d_sum_of_octets (T : Tx K mg) {f : Addr} {cdv : Value} {A : Around} {outer : List PySem.Env} {s : Shared} {H : Hp} {E : XK} (hr : Room 0 (A.deeper (envOfC "sum_of_octets" (defScope s_sum_of_octets) s.heap.objs.size f cdv))) :
    DSs (cxOf CX0 P w K mg base N_sum_of_octets "sum_of_octets" (defScope s_sum_of_octets) f cdv A outer s H E).nox (defBody s_sum_of_octets) t_sum_of_octets := by
  exact dss_cons (ds_set (i := 1) sc_sum_of_octets.nd rfl (Or.inl rfl) (de_int))
    (dss_cons (ds_for PassesOwn.never rfl (di_enum rfl T.n_enumerate (dv 0)) (dg_tup rfl (dgs_cons (dg_name (i := 2) sc_sum_of_octets.nd rfl (Or.inl rfl)) (dgs_cons (dg_name (i := 3) sc_sum_of_octets.nd rfl (Or.inl rfl)) (dgs_nil)))) (dss_one (ds_aug (i := 1) sc_sum_of_octets.nd rfl (Or.inl rfl) (de_bin do_mul (de_bin do_add (dv 2) (de_int)) (dv 3)) do_iadd)))
    (dss_one (ds_ret (de_bin do_mod (dv 1) (de_gint T.c_PRIME)))))
theorem ok_sum_of_octets (T : Tx K mg) {f : Addr} {fd : FuncData} (F : FunD K "sum_of_octets" "sum_of_octets" (defArgs s_sum_of_octets) (defBody s_sum_of_octets) (defScope s_sum_of_octets) [] [] f fd) (hm : mg "sum_of_octets" = some (.ref f)) : Cal P w K mg base 1 "sum_of_octets" P_sum_of_octets S_sum_of_octets :=
  ⟨f, fd, hm, F.kp, F.bindsN (fun _ _ _ _ _ _ us hl => match us, hl with | [_], _ => rfl), F.ok sc_sum_of_octets (fun vs H Q E h => keeps_len kp_sum_of_octets h) (fun cdv A outer s H vs Q E hr h => ⟨liftS K t_sum_of_octets, PSs.nox (d_sum_of_octets T  hr).pss, keeps_use (N := N_sum_of_octets) kp_sum_of_octets h⟩)⟩
theorem okK_sum_of_octets_octets (T : Tx K mg) {f : Addr} {fd : FuncData} (F : FunD K "sum_of_octets" "sum_of_octets" (defArgs s_sum_of_octets) (defBody s_sum_of_octets) (defScope s_sum_of_octets) [] [] f fd) (hm : mg "sum_of_octets" = some (.ref f)) : CalK P w K mg base 1 "sum_of_octets" P_sum_of_octets ["octets"] [0] S_sum_of_octets :=
  ⟨f, fd, hm, F.kp, bindsK F (fun _ _ _ _ _ _ ws hl => match ws, hl with | [_], _ => rfl), by decide, rfl, F.ok sc_sum_of_octets (fun vs H Q E h => keeps_len kp_sum_of_octets h) (fun cdv A outer s H vs Q E hr h => ⟨liftS K t_sum_of_octets, PSs.nox (d_sum_of_octets T  hr).pss, keeps_use (N := N_sum_of_octets) kp_sum_of_octets h⟩)⟩
abbrev s_law_deal : Stmt := top 21
abbrev N_law_deal : List Str := ["script", "salt", "most", "cells", "mix", "cell"]
abbrev P_law_deal : List Str := ["script", "salt"]
theorem sc_law_deal : FnScope N_law_deal P_law_deal (defScope s_law_deal) := ⟨rfl, rfl, rfl, by decide +kernel, rfl, by decide +kernel, by decide +kernel⟩
theorem d_law_deal (T : Tx K mg) {f : Addr} {cdv : Value} {A : Around} {outer : List PySem.Env} {s : Shared} {H : Hp} {E : XK} (hr : Room 0 (A.deeper (envOfC "_law_deal" (defScope s_law_deal) s.heap.objs.size f cdv))) :
    DSs (cxOf CX0 P w K mg base N_law_deal "_law_deal" (defScope s_law_deal) f cdv A outer s H E).nox (defBody s_law_deal) t_law_deal := by
  exact dss_cons (ds_set (i := 2) sc_law_deal.nd rfl (Or.inr rfl) (de_bin do_mul (de_bin do_mul (de_bin do_mul (de_bin do_mul (de_bin do_mul (de_bin do_pow (de_int) (de_int)) (de_bin do_pow (de_int) (de_int))) (de_bin do_pow (de_int) (de_int))) (de_bin do_pow (de_int) (de_int))) (de_bin do_pow (de_int) (de_int))) (de_bin do_pow (de_int) (de_int))))
    (dss_cons (ds_setLc (i := 3) rfl sc_law_deal.nd rfl rfl (sw_true rfl rfl rfl (by decide +kernel)) (di_seq (de_sl (dv 0) (dp_none) (dp_some (de_int)))) (blkOk_by (N := N_law_deal) (sc := defScope s_law_deal) (own := [("cell", 5)]) (by decide +kernel)) (fun _ _ _ _ _ => dgc_name (i := 5) sc_law_deal.nd rfl (by first | exact Or.inl rfl | exact Or.inr rfl) (by decide)) (fun _ _ _ _ _ => dts_nil) (fun _ _ _ _ _ => de_bin do_mod (de_callTy dc_int rfl T.n_int boot_int (da_cons (de_callB dc_abs rfl T.n_abs boot_abs (da_cons (de_callTy dc_int rfl T.n_int boot_int (da_cons (dv 5) (da_nil))) (da_nil))) (da_nil))) (dv 2)))
    (dss_cons (ds_set (i := 4) sc_law_deal.nd rfl (Or.inl rfl) (de_bin do_add (de_int) (de_bin do_mul (de_int) (dv 1))))
    (dss_cons (ds_for PassesOwn.never rfl (di_seq (dv 3)) (dg_name (i := 5) sc_law_deal.nd rfl (Or.inl rfl)) (dss_one (ds_set (i := 4) sc_law_deal.nd rfl (Or.inl rfl) (de_bin do_mod (de_callTy dc_int rfl T.n_int boot_int (da_cons (de_bin do_add (de_bin do_add (de_bin do_mul (dv 4) (de_int)) (de_bin do_mod (de_callTy dc_int rfl T.n_int boot_int (da_cons (dv 5) (da_nil))) (de_int))) (de_int)) (da_nil))) (de_int)))))
    (dss_one (ds_ret (de_lst (da_cons (de_rev (de_lc rfl sc_law_deal.nd (di_seq (dv 3)) (blkOk_by (N := N_law_deal) (sc := defScope s_law_deal) (own := [("cell", 5)]) (by decide +kernel)) (fun _ _ _ _ _ => dgc_name (i := 5) sc_law_deal.nd rfl (by first | exact Or.inl rfl | exact Or.inr rfl) (by decide)) (fun _ _ _ _ _ => dts_one (dt_cmp do_ge (dv 5) (de_bin do_pow (de_int) (de_int)) (nomark _))) (fun _ _ _ _ _ => dv 5))) (da_cons (dv 4) (da_nil)))))))))
theorem ok_law_deal (T : Tx K mg) {f : Addr} {fd : FuncData} (F : FunD K "_law_deal" "_law_deal" (defArgs s_law_deal) (defBody s_law_deal) (defScope s_law_deal) [] [] f fd) (hm : mg "_law_deal" = some (.ref f)) : Cal P w K mg base 1 "_law_deal" P_law_deal S_law_deal :=
  ⟨f, fd, hm, F.kp, F.bindsN (fun _ _ _ _ _ _ us hl => match us, hl with | [_, _], _ => rfl), F.ok sc_law_deal (fun vs H Q E h => keeps_len kp_law_deal h) (fun cdv A outer s H vs Q E hr h => ⟨liftS K t_law_deal, PSs.nox (d_law_deal T  hr).pss, keeps_use (N := N_law_deal) kp_law_deal h⟩)⟩
abbrev s_law_any : Stmt := top 22
abbrev N_law_any : List Str := ["deal", "bound", "rest"]
abbrev P_law_any : List Str := ["deal", "bound"]
theorem sc_law_any : FnScope N_law_any P_law_any (defScope s_law_any) := ⟨rfl, rfl, rfl, by decide +kernel, rfl, by decide +kernel, by decide +kernel⟩
theorem d_law_any (T : Tx K mg) {f : Addr} {cdv : Value} {A : Around} {outer : List PySem.Env} {s : Shared} {H : Hp} {E : XK} (hr : Room 0 (A.deeper (envOfC "_law_any" (defScope s_law_any) s.heap.objs.size f cdv))) :
    DSs (cxOf CX0 P w K mg base N_law_any "_law_any" (defScope s_law_any) f cdv A outer s H E).nox (defBody s_law_any) t_law_any := by
  exact dss_cons (ds_while PassesOwn.never (DW.dt (dw_and (dt_cmp do_gt (de_callB dc_len rfl T.n_len PySem.boot_len (da_cons (de_ix (di_all (hu_of hr)) (dv 0) (de_int)) (da_nil))) (de_int) (nomark _)) (dw_and1 (dt_cmp (do_eq hr.units) (de_ix (di_all (hu_of hr)) (de_ix (di_all (hu_of hr)) (dv 0) (de_int)) (de_neg)) (de_int) (nomark _))))) (dss_one (ds_expr (de_m0 PySem.F.plainAttrs_list PySem.F.slot_list_pop PySem.F.type_list_pop ty_list dm_pop (de_ix (di_all (hu_of hr)) (dv 0) (de_int))))))
    (dss_cons (ds_if (dt_cmp do_gt (de_callB dc_len rfl T.n_len PySem.boot_len (da_cons (de_ix (di_all (hu_of hr)) (dv 0) (de_int)) (da_nil))) (de_int) (nomark _)) (dss_cons (ds_set (i := 2) sc_law_any.nd rfl (Or.inl rfl) (de_callTy dc_int rfl T.n_int boot_int (da_cons (de_m0 PySem.F.plainAttrs_list PySem.F.slot_list_pop PySem.F.type_list_pop ty_list dm_pop (de_ix (di_all (hu_of hr)) (dv 0) (de_int))) (da_nil))))
    (dss_cons (ds_expr (de_m PySem.F.plainAttrs_list PySem.F.slot_list_append PySem.F.type_list_append ty_list dm_append (de_ix (di_all (hu_of hr)) (dv 0) (de_int)) (da_cons (de_bin do_div (dv 2) (dv 1)) (da_nil))))
    (dss_one (ds_ret (de_bin do_mod (dv 2) (dv 1)))))) (dss_nil))
    (dss_cons (ds_asg (de_bin do_mod (de_callTy dc_int rfl T.n_int boot_int (da_cons (de_bin do_add (de_bin do_mul (de_ix (di_all (hu_of hr)) (dv 0) (de_int)) (de_int)) (de_int)) (da_nil))) (de_int)) (dg_sub (dv 0) (de_int) (dset_all (hu_of hr))))
    (dss_one (ds_ret (de_bin do_mod (de_callTy dc_int rfl T.n_int boot_int (da_cons (de_bin do_div (de_ix (di_all (hu_of hr)) (dv 0) (de_int)) (de_int)) (da_nil))) (dv 1))))))
theorem ok_law_any (T : Tx K mg) {f : Addr} {fd : FuncData} (F : FunD K "_law_any" "_law_any" (defArgs s_law_any) (defBody s_law_any) (defScope s_law_any) [] [] f fd) (hm : mg "_law_any" = some (.ref f)) : Cal P w K mg base 1 "_law_any" P_law_any S_law_any :=
  ⟨f, fd, hm, F.kp, F.bindsN (fun _ _ _ _ _ _ us hl => match us, hl with | [_, _], _ => rfl), F.ok sc_law_any (fun vs H Q E h => keeps_len kp_law_any h) (fun cdv A outer s H vs Q E hr h => ⟨liftS K t_law_any, PSs.nox (d_law_any T  hr).pss, keeps_use (N := N_law_any) kp_law_any h⟩)⟩
abbrev s_law_wide : Stmt := top 23
abbrev N_law_wide : List Str := ["deal", "bound", "many", "turn"]
abbrev P_law_wide : List Str := ["deal", "bound"]
theorem sc_law_wide : FnScope N_law_wide P_law_wide (defScope s_law_wide) := ⟨rfl, rfl, rfl, by decide +kernel, rfl, by decide +kernel, by decide +kernel⟩
theorem d_law_wide (T : Tx K mg) (C_law_any : Cal P w K mg base 1 "_law_any" P_law_any S_law_any) {f : Addr} {cdv : Value} {A : Around} {outer : List PySem.Env} {s : Shared} {H : Hp} {E : XK} (hr : Room 1 (A.deeper (envOfC "_law_wide" (defScope s_law_wide) s.heap.objs.size f cdv))) :
    DSs (cxOf CX0 P w K mg base N_law_wide "_law_wide" (defScope s_law_wide) f cdv A outer s H E).nox (defBody s_law_wide) t_law_wide := by
  exact dss_cons (ds_if (dt_cmp do_le (dv 1) (de_bin do_pow (de_int) (de_int)) (nomark _)) (dss_one (ds_ret (dcall C_law_any hr (by decide) (da_cons (dv 0) (da_cons (dv 1) (da_nil)))))) (dss_nil))
    (dss_cons (ds_set (i := 2) sc_law_wide.nd rfl (Or.inl rfl) (de_int))
    (dss_cons (ds_for PassesOwn.never rfl (di_rng1 rfl T.n_range (de_int)) (dg_name (i := 3) sc_law_wide.nd rfl (Or.inl rfl)) (dss_one (ds_set (i := 2) sc_law_wide.nd rfl (Or.inl rfl) (de_bin do_add (de_bin do_mul (dv 2) (de_int)) (dcall C_law_any hr (by decide) (da_cons (dv 0) (da_cons (de_int) (da_nil))))))))
    (dss_one (ds_ret (de_bin do_mod (de_callTy dc_int rfl T.n_int boot_int (da_cons (dv 2) (da_nil))) (dv 1))))))
theorem ok_law_wide (T : Tx K mg) (C_law_any : Cal P w K mg base 1 "_law_any" P_law_any S_law_any) {f : Addr} {fd : FuncData} (F : FunD K "_law_wide" "_law_wide" (defArgs s_law_wide) (defBody s_law_wide) (defScope s_law_wide) [] [] f fd) (hm : mg "_law_wide" = some (.ref f)) : Cal P w K mg base 2 "_law_wide" P_law_wide S_law_wide :=
  ⟨f, fd, hm, F.kp, F.bindsN (fun _ _ _ _ _ _ us hl => match us, hl with | [_, _], _ => rfl), F.ok sc_law_wide (fun vs H Q E h => keeps_len kp_law_wide h) (fun cdv A outer s H vs Q E hr h => ⟨liftS K t_law_wide, PSs.nox (d_law_wide T C_law_any hr).pss, keeps_use (N := N_law_wide) kp_law_wide h⟩)⟩
abbrev s_law_of : Stmt := top 24
abbrev N_law_of : List Str := ["deal", "some"]
abbrev P_law_of : List Str := ["deal", "some"]
theorem sc_law_of : FnScope N_law_of P_law_of (defScope s_law_of) := ⟨rfl, rfl, rfl, by decide +kernel, rfl, by decide +kernel, by decide +kernel⟩
theorem d_law_of (T : Tx K mg) (C_law_any : Cal P w K mg base 1 "_law_any" P_law_any S_law_any) {f : Addr} {cdv : Value} {A : Around} {outer : List PySem.Env} {s : Shared} {H : Hp} {E : XK} (hr : Room 1 (A.deeper (envOfC "_law_of" (defScope s_law_of) s.heap.objs.size f cdv))) :
    DSs (cxOf CX0 P w K mg base N_law_of "_law_of" (defScope s_law_of) f cdv A outer s H E).nox (defBody s_law_of) t_law_of := by
  exact dss_one (ds_ret (de_ix (di_all (hu_of hr)) (dv 1) (dcall C_law_any hr (by decide) (da_cons (dv 0) (da_cons (de_callB dc_len rfl T.n_len PySem.boot_len (da_cons (dv 1) (da_nil))) (da_nil))))))
theorem ok_law_of (T : Tx K mg) (C_law_any : Cal P w K mg base 1 "_law_any" P_law_any S_law_any) {f : Addr} {fd : FuncData} (F : FunD K "_law_of" "_law_of" (defArgs s_law_of) (defBody s_law_of) (defScope s_law_of) [] [] f fd) (hm : mg "_law_of" = some (.ref f)) : Cal P w K mg base 2 "_law_of" P_law_of S_law_of :=
  ⟨f, fd, hm, F.kp, F.bindsN (fun _ _ _ _ _ _ us hl => match us, hl with | [_, _], _ => rfl), F.ok sc_law_of (fun vs H Q E h => keeps_len kp_law_of h) (fun cdv A outer s H vs Q E hr h => ⟨liftS K t_law_of, PSs.nox (d_law_of T C_law_any hr).pss, keeps_use (N := N_law_of) kp_law_of h⟩)⟩
abbrev s_law_is_kind : Stmt := top 25
abbrev N_law_is_kind : List Str := ["told", "due"]
abbrev P_law_is_kind : List Str := ["told", "due"]
theorem sc_law_is_kind : FnScope N_law_is_kind P_law_is_kind (defScope s_law_is_kind) := ⟨rfl, rfl, rfl, by decide +kernel, rfl, by decide +kernel, by decide +kernel⟩
theorem d_law_is_kind (T : Tx K mg) {f : Addr} {cdv : Value} {A : Around} {outer : List PySem.Env} {s : Shared} {H : Hp} {E : XK} (hr : Room 0 (A.deeper (envOfC "_law_is_kind" (defScope s_law_is_kind) s.heap.objs.size f cdv))) :
    DSs (cxOf CX0 P w K mg base N_law_is_kind "_law_is_kind" (defScope s_law_is_kind) f cdv A outer s H E).nox (defBody s_law_is_kind) t_law_is_kind := by
  exact dss_cons (ds_if (dt_cmp do_is (dv 1) (de_non) (nomark _)) (dss_one (ds_ret (de_cmp do_is (dv 0) (de_non) (nomark _)))) (dss_nil))
    (dss_cons (ds_if (DW.dt (dw_or (dt_cmp do_is (dv 1) (de_bl) (nomark _)) (dw_or1 (dt_cmp do_is (dv 1) (de_bl) (nomark _))))) (dss_one (ds_ret (de_ifExp (dt_val (dv 1)) (de_cmp do_is (dv 0) (de_bl) (nomark _)) (de_cmp do_is (dv 0) (de_bl) (nomark _))))) (dss_nil))
    (dss_cons (ds_if (dt_val (de_callB dc_isi rfl T.n_isinstance boot_isinstance (da_cons (dv 1) (da_cons (de_bltn rfl T.n_str boot_str) (da_nil))))) (dss_one (ds_ret (de_and (de_callB dc_isi rfl T.n_isinstance boot_isinstance (da_cons (dv 0) (da_cons (de_bltn rfl T.n_str boot_str) (da_nil)))) (de_one (de_cmp (do_eq hr.units) (dv 0) (dv 1) (nomark _)))))) (dss_nil))
    (dss_one (ds_ret (de_and (de_callB dc_isi rfl T.n_isinstance boot_isinstance (da_cons (dv 0) (da_cons (de_bltn rfl T.n_int boot_int) (da_nil)))) (de_and (de_not (de_callB dc_isi rfl T.n_isinstance boot_isinstance (da_cons (dv 0) (da_cons (de_bltn rfl T.n_bool boot_bool) (da_nil))))) (de_one (de_cmp (do_eq hr.units) (dv 0) (dv 1) (nomark _)))))))))
theorem ok_law_is_kind (T : Tx K mg) {f : Addr} {fd : FuncData} (F : FunD K "_law_is_kind" "_law_is_kind" (defArgs s_law_is_kind) (defBody s_law_is_kind) (defScope s_law_is_kind) [] [] f fd) (hm : mg "_law_is_kind" = some (.ref f)) : Cal P w K mg base 1 "_law_is_kind" P_law_is_kind S_law_is_kind :=
  ⟨f, fd, hm, F.kp, F.bindsN (fun _ _ _ _ _ _ us hl => match us, hl with | [_, _], _ => rfl), F.ok sc_law_is_kind (fun vs H Q E h => keeps_len kp_law_is_kind h) (fun cdv A outer s H vs Q E hr h => ⟨liftS K t_law_is_kind, PSs.nox (d_law_is_kind T  hr).pss, keeps_use (N := N_law_is_kind) kp_law_is_kind h⟩)⟩
abbrev s_law_same : Stmt := top 26
abbrev N_law_same : List Str := ["told", "due", "todo", "one", "other", "at"]
abbrev P_law_same : List Str := ["told", "due"]
theorem sc_law_same : FnScope N_law_same P_law_same (defScope s_law_same) := ⟨rfl, rfl, rfl, by decide +kernel, rfl, by decide +kernel, by decide +kernel⟩
theorem d_law_same (T : Tx K mg) (C_law_is_kind : Cal P w K mg base 1 "_law_is_kind" P_law_is_kind S_law_is_kind) {f : Addr} {cdv : Value} {A : Around} {outer : List PySem.Env} {s : Shared} {H : Hp} {E : XK} (hr : Room 1 (A.deeper (envOfC "_law_same" (defScope s_law_same) s.heap.objs.size f cdv))) :
    DSs (cxOf CX0 P w K mg base N_law_same "_law_same" (defScope s_law_same) f cdv A outer s H E).nox (defBody s_law_same) t_law_same := by
  exact dss_cons (ds_set (i := 2) sc_law_same.nd rfl (Or.inl rfl) (de_lst (da_cons (de_tup (da_cons (dv 0) (da_cons (dv 1) (da_nil)))) (da_nil))))
    (dss_cons (ds_while PassesOwn.never (dt_cmp do_gt (de_callB dc_len rfl T.n_len PySem.boot_len (da_cons (dv 2) (da_nil))) (de_int) (nomark _)) (dss_cons (ds_asg (de_m0 PySem.F.plainAttrs_list PySem.F.slot_list_pop PySem.F.type_list_pop ty_list dm_pop (dv 2)) (dg_tup rfl (dgs_cons (dg_name (i := 3) sc_law_same.nd rfl (Or.inl rfl)) (dgs_cons (dg_name (i := 4) sc_law_same.nd rfl (Or.inl rfl)) (dgs_nil)))))
    (dss_one (ds_if (dt_val (de_callB dc_isi rfl T.n_isinstance boot_isinstance (da_cons (dv 4) (da_cons (de_bltn rfl T.n_tuple boot_tuple) (da_nil))))) (dss_cons (ds_if (DW.dt (dw_or (dt_not (dt_val (de_callB dc_isi rfl T.n_isinstance boot_isinstance (da_cons (dv 3) (da_cons (de_bltn rfl T.n_tuple boot_tuple) (da_nil)))))) (dw_or1 (dt_cmp (do_ne hr.units) (de_callB dc_len rfl T.n_len PySem.boot_len (da_cons (dv 3) (da_nil))) (de_callB dc_len rfl T.n_len PySem.boot_len (da_cons (dv 4) (da_nil))) (nomark _))))) (dss_one (ds_ret (de_bl))) (dss_nil))
    (dss_one (ds_for PassesOwn.never rfl (di_rng1 rfl T.n_range (de_callB dc_len rfl T.n_len PySem.boot_len (da_cons (dv 4) (da_nil)))) (dg_name (i := 5) sc_law_same.nd rfl (Or.inl rfl)) (dss_one (ds_expr (de_m PySem.F.plainAttrs_list PySem.F.slot_list_append PySem.F.type_list_append ty_list dm_append (dv 2) (da_cons (de_tup (da_cons (de_ix (di_all (hu_of hr)) (dv 3) (dv 5)) (da_cons (de_ix (di_all (hu_of hr)) (dv 4) (dv 5)) (da_nil)))) (da_nil)))))))) (dss_one (ds_if (DW.dt (dw_or (dt_val (de_isiT (by decide) (by decide) rfl T.n_isinstance (dv 3) (dtys_cons (pe_tyN rfl T.n_tuple boot_tuple) (dtys_cons (pe_tyN rfl T.n_list boot_list) (dtys_cons (pe_tyN rfl T.n_dict boot_dict) (dtys_nil)))))) (dw_or1 (dt_not (dt_val (dcall C_law_is_kind hr (by decide) (da_cons (dv 3) (da_cons (dv 4) (da_nil))))))))) (dss_one (ds_ret (de_bl))) (dss_nil)))))))
    (dss_one (ds_ret (de_bl))))
theorem ok_law_same (T : Tx K mg) (C_law_is_kind : Cal P w K mg base 1 "_law_is_kind" P_law_is_kind S_law_is_kind) {f : Addr} {fd : FuncData} (F : FunD K "_law_same" "_law_same" (defArgs s_law_same) (defBody s_law_same) (defScope s_law_same) [] [] f fd) (hm : mg "_law_same" = some (.ref f)) : Cal P w K mg base 2 "_law_same" P_law_same S_law_same :=
  ⟨f, fd, hm, F.kp, F.bindsN (fun _ _ _ _ _ _ us hl => match us, hl with | [_, _], _ => rfl), F.ok sc_law_same (fun vs H Q E h => keeps_len kp_law_same h) (fun cdv A outer s H vs Q E hr h => ⟨liftS K t_law_same, PSs.nox (d_law_same T C_law_is_kind hr).pss, keeps_use (N := N_law_same) kp_law_same h⟩)⟩
abbrev s_law_all : Stmt := top 27
abbrev N_law_all : List Str := ["pairs", "told", "due"]
abbrev P_law_all : List Str := ["pairs"]
theorem sc_law_all : FnScope N_law_all P_law_all (defScope s_law_all) := ⟨rfl, rfl, rfl, by decide +kernel, rfl, by decide +kernel, by decide +kernel⟩
theorem d_law_all (T : Tx K mg) (C_law_same : Cal P w K mg base 2 "_law_same" P_law_same S_law_same) {f : Addr} {cdv : Value} {A : Around} {outer : List PySem.Env} {s : Shared} {H : Hp} {E : XK} (hr : Room 2 (A.deeper (envOfC "_law_all" (defScope s_law_all) s.heap.objs.size f cdv))) :
    DSs (cxOf CX0 P w K mg base N_law_all "_law_all" (defScope s_law_all) f cdv A outer s H E).nox (defBody s_law_all) t_law_all := by
  exact dss_one (ds_ret (de_cmp (do_eq hr.units) (de_callB dc_len rfl T.n_len PySem.boot_len (da_cons (de_lc rfl sc_law_all.nd (di_seq (dv 0)) (blkOk_by (N := N_law_all) (sc := defScope s_law_all) (own := [("told", 1), ("due", 2)]) (by decide +kernel)) (fun _ _ _ _ _ => dgc_tup rfl (dgsc_cons (dgc_name (i := 1) sc_law_all.nd rfl (by first | exact Or.inl rfl | exact Or.inr rfl) (by decide)) (dgsc_cons (dgc_name (i := 2) sc_law_all.nd rfl (by first | exact Or.inl rfl | exact Or.inr rfl) (by decide)) (dgsc_nil)))) (fun _ _ _ _ _ => dts_one (dt_not (dt_val (dcall C_law_same hr (by decide) (da_cons (dv 1) (da_cons (dv 2) (da_nil))))))) (fun _ _ _ _ _ => dv 1)) (da_nil))) (de_int) (nomark _)))
theorem ok_law_all (T : Tx K mg) (C_law_same : Cal P w K mg base 2 "_law_same" P_law_same S_law_same) {f : Addr} {fd : FuncData} (F : FunD K "_law_all" "_law_all" (defArgs s_law_all) (defBody s_law_all) (defScope s_law_all) [] [] f fd) (hm : mg "_law_all" = some (.ref f)) : Cal P w K mg base 3 "_law_all" P_law_all S_law_all :=
  ⟨f, fd, hm, F.kp, F.bindsN (fun _ _ _ _ _ _ us hl => match us, hl with | [_], _ => rfl), F.ok sc_law_all (fun vs H Q E h => keeps_len kp_law_all h) (fun cdv A outer s H vs Q E hr h => ⟨liftS K t_law_all, PSs.nox (d_law_all T C_law_same hr).pss, keeps_use (N := N_law_all) kp_law_all h⟩)⟩
abbrev s_law_number_octets : Stmt := top 28
abbrev N_law_number_octets : List Str := ["number", "found", "rest"]
abbrev P_law_number_octets : List Str := ["number"]
theorem sc_law_number_octets : FnScope N_law_number_octets P_law_number_octets (defScope s_law_number_octets) := ⟨rfl, rfl, rfl, by decide +kernel, rfl, by decide +kernel, by decide +kernel⟩
theorem d_law_number_octets (T : Tx K mg) {f : Addr} {cdv : Value} {A : Around} {outer : List PySem.Env} {s : Shared} {H : Hp} {E : XK} (hr : Room 0 (A.deeper (envOfC "_law_number_octets" (defScope s_law_number_octets) s.heap.objs.size f cdv))) :
    DSs (cxOf CX0 P w K mg base N_law_number_octets "_law_number_octets" (defScope s_law_number_octets) f cdv A outer s H E).nox (defBody s_law_number_octets) t_law_number_octets := by
  exact dss_cons (ds_par (i := 1) (j := 2) rfl sc_law_number_octets.nd rfl rfl (by decide) rfl rfl (da_cons (de_lst (da_nil)) (da_cons (dv 0) (da_nil))) (by rfl))
    (dss_cons (ds_while PassesOwn.never (dt_cmp do_gt (dv 2) (de_int) (nomark _)) (dss_cons (ds_expr (de_m PySem.F.plainAttrs_list PySem.F.slot_list_append PySem.F.type_list_append ty_list dm_append (dv 1) (da_cons (de_bin do_add (de_bin do_mod (de_callTy dc_int rfl T.n_int boot_int (da_cons (dv 2) (da_nil))) (de_int)) (de_int)) (da_nil))))
    (dss_one (ds_set (i := 2) sc_law_number_octets.nd rfl (Or.inl rfl) (de_bin do_div (dv 2) (de_int))))))
    (dss_one (ds_ret (de_bin do_add (dv 1) (de_lst (da_cons (dv 2) (da_nil)))))))
theorem ok_law_number_octets (T : Tx K mg) {f : Addr} {fd : FuncData} (F : FunD K "_law_number_octets" "_law_number_octets" (defArgs s_law_number_octets) (defBody s_law_number_octets) (defScope s_law_number_octets) [] [] f fd) (hm : mg "_law_number_octets" = some (.ref f)) : Cal P w K mg base 1 "_law_number_octets" P_law_number_octets S_law_number_octets :=
  ⟨f, fd, hm, F.kp, F.bindsN (fun _ _ _ _ _ _ us hl => match us, hl with | [_], _ => rfl), F.ok sc_law_number_octets (fun vs H Q E h => keeps_len kp_law_number_octets h) (fun cdv A outer s H vs Q E hr h => ⟨liftS K t_law_number_octets, PSs.nox (d_law_number_octets T  hr).pss, keeps_use (N := N_law_number_octets) kp_law_number_octets h⟩)⟩
abbrev s_law_sum : Stmt := top 29
abbrev N_law_sum : List Str := ["octets", "at"]
abbrev P_law_sum : List Str := ["octets"]
theorem sc_law_sum : FnScope N_law_sum P_law_sum (defScope s_law_sum) := ⟨rfl, rfl, rfl, by decide +kernel, rfl, by decide +kernel, by decide +kernel⟩
theorem d_law_sum (T : Tx K mg) {f : Addr} {cdv : Value} {A : Around} {outer : List PySem.Env} {s : Shared} {H : Hp} {E : XK} (hr : Room 0 (A.deeper (envOfC "_law_sum" (defScope s_law_sum) s.heap.objs.size f cdv))) :
    DSs (cxOf CX0 P w K mg base N_law_sum "_law_sum" (defScope s_law_sum) f cdv A outer s H E).nox (defBody s_law_sum) t_law_sum := by
  exact dss_one (ds_ret (de_bin do_mod (de_callTy dc_int rfl T.n_int boot_int (da_cons (de_callB (dc_sum rfl) rfl T.n_sum (by decide +kernel) (da_cons (de_lc rfl sc_law_sum.nd (di_rng1 rfl T.n_range (de_callB dc_len rfl T.n_len PySem.boot_len (da_cons (dv 0) (da_nil)))) (blkOk_by (N := N_law_sum) (sc := defScope s_law_sum) (own := [("at", 1)]) (by decide +kernel)) (fun _ _ _ _ _ => dgc_name (i := 1) sc_law_sum.nd rfl (by first | exact Or.inl rfl | exact Or.inr rfl) (by decide)) (fun _ _ _ _ _ => dts_nil) (fun _ _ _ _ _ => de_bin do_mul (de_ix (di_all (hu_of hr)) (dv 0) (dv 1)) (de_bin do_add (dv 1) (de_int)))) (da_nil))) (da_nil))) (de_int)))
theorem ok_law_sum (T : Tx K mg) {f : Addr} {fd : FuncData} (F : FunD K "_law_sum" "_law_sum" (defArgs s_law_sum) (defBody s_law_sum) (defScope s_law_sum) [] [] f fd) (hm : mg "_law_sum" = some (.ref f)) : Cal P w K mg base 1 "_law_sum" P_law_sum S_law_sum :=
  ⟨f, fd, hm, F.kp, F.bindsN (fun _ _ _ _ _ _ us hl => match us, hl with | [_], _ => rfl), F.ok sc_law_sum (fun vs H Q E h => keeps_len kp_law_sum h) (fun cdv A outer s H vs Q E hr h => ⟨liftS K t_law_sum, PSs.nox (d_law_sum T  hr).pss, keeps_use (N := N_law_sum) kp_law_sum h⟩)⟩
abbrev s_law_body : Stmt := top 30
abbrev N_law_body : List Str := ["text", "sign"]
abbrev P_law_body : List Str := ["text"]
theorem sc_law_body : FnScope N_law_body P_law_body (defScope s_law_body) := ⟨rfl, rfl, rfl, by decide +kernel, rfl, by decide +kernel, by decide +kernel⟩
theorem d_law_body (T : Tx K mg) (C_law_number_octets : Cal P w K mg base 1 "_law_number_octets" P_law_number_octets S_law_number_octets) {f : Addr} {cdv : Value} {A : Around} {outer : List PySem.Env} {s : Shared} {H : Hp} {E : XK} (hr : Room 1 (A.deeper (envOfC "_law_body" (defScope s_law_body) s.heap.objs.size f cdv))) :
    DSs (cxOf CX0 P w K mg base N_law_body "_law_body" (defScope s_law_body) f cdv A outer s H E).nox (defBody s_law_body) t_law_body := by
  exact dss_one (ds_ret (de_bin do_add (dcall C_law_number_octets hr (by decide) (da_cons (de_callB dc_len rfl T.n_len PySem.boot_len (da_cons (dv 0) (da_nil))) (da_nil))) (de_lc rfl sc_law_body.nd (di_seq (dv 0)) (blkOk_by (N := N_law_body) (sc := defScope s_law_body) (own := [("sign", 1)]) (by decide +kernel)) (fun _ _ _ _ _ => dgc_name (i := 1) sc_law_body.nd rfl (by first | exact Or.inl rfl | exact Or.inr rfl) (by decide)) (fun _ _ _ _ _ => dts_nil) (fun _ _ _ _ _ => de_callB dc_ord rfl T.n_ord boot_ord (da_cons (dv 1) (da_nil))))))
theorem ok_law_body (T : Tx K mg) (C_law_number_octets : Cal P w K mg base 1 "_law_number_octets" P_law_number_octets S_law_number_octets) {f : Addr} {fd : FuncData} (F : FunD K "_law_body" "_law_body" (defArgs s_law_body) (defBody s_law_body) (defScope s_law_body) [] [] f fd) (hm : mg "_law_body" = some (.ref f)) : Cal P w K mg base 2 "_law_body" P_law_body S_law_body :=
  ⟨f, fd, hm, F.kp, F.bindsN (fun _ _ _ _ _ _ us hl => match us, hl with | [_], _ => rfl), F.ok sc_law_body (fun vs H Q E h => keeps_len kp_law_body h) (fun cdv A outer s H vs Q E hr h => ⟨liftS K t_law_body, PSs.nox (d_law_body T C_law_number_octets hr).pss, keeps_use (N := N_law_body) kp_law_body h⟩)⟩
abbrev s_law_signs : Stmt := top 31
abbrev N_law_signs : List Str := []
abbrev P_law_signs : List Str := []
theorem sc_law_signs : FnScope N_law_signs P_law_signs (defScope s_law_signs) := ⟨rfl, rfl, rfl, by decide +kernel, rfl, by decide +kernel, by decide +kernel⟩
theorem d_law_signs (T : Tx K mg) {f : Addr} {cdv : Value} {A : Around} {outer : List PySem.Env} {s : Shared} {H : Hp} {E : XK} (hr : Room 0 (A.deeper (envOfC "_law_signs" (defScope s_law_signs) s.heap.objs.size f cdv))) :
    DSs (cxOf CX0 P w K mg base N_law_signs "_law_signs" (defScope s_law_signs) f cdv A outer s H E).nox (defBody s_law_signs) t_law_signs := by
  exact dss_one (ds_ret (de_str))
theorem ok_law_signs (T : Tx K mg) {f : Addr} {fd : FuncData} (F : FunD K "_law_signs" "_law_signs" (defArgs s_law_signs) (defBody s_law_signs) (defScope s_law_signs) [] [] f fd) (hm : mg "_law_signs" = some (.ref f)) : Cal P w K mg base 1 "_law_signs" P_law_signs S_law_signs :=
  ⟨f, fd, hm, F.kp, F.bindsN (fun _ _ _ _ _ _ us hl => match us, hl with | [], _ => rfl), F.ok sc_law_signs (fun vs H Q E h => keeps_len kp_law_signs h) (fun cdv A outer s H vs Q E hr h => ⟨liftS K t_law_signs, PSs.nox (d_law_signs T  hr).pss, keeps_use (N := N_law_signs) kp_law_signs h⟩)⟩
abbrev s_law_octet : Stmt := top 32
abbrev N_law_octet : List Str := ["deal"]
abbrev P_law_octet : List Str := ["deal"]
theorem sc_law_octet : FnScope N_law_octet P_law_octet (defScope s_law_octet) := ⟨rfl, rfl, rfl, by decide +kernel, rfl, by decide +kernel, by decide +kernel⟩
theorem d_law_octet (T : Tx K mg) (C_law_of : Cal P w K mg base 2 "_law_of" P_law_of S_law_of) (C_law_any : Cal P w K mg base 1 "_law_any" P_law_any S_law_any) {f : Addr} {cdv : Value} {A : Around} {outer : List PySem.Env} {s : Shared} {H : Hp} {E : XK} (hr : Room 2 (A.deeper (envOfC "_law_octet" (defScope s_law_octet) s.heap.objs.size f cdv))) :
    DSs (cxOf CX0 P w K mg base N_law_octet "_law_octet" (defScope s_law_octet) f cdv A outer s H E).nox (defBody s_law_octet) t_law_octet := by
  exact dss_one (ds_ret (dcall C_law_of hr (by decide) (da_cons (dv 0) (da_cons (de_lst (da_cons (de_int) (da_cons (de_int) (da_cons (de_int) (da_cons (de_int) (da_cons (de_int) (da_cons (dcall C_law_any hr (by decide) (da_cons (dv 0) (da_cons (de_int) (da_nil)))) (da_cons (dcall C_law_any hr (by decide) (da_cons (dv 0) (da_cons (de_int) (da_nil)))) (da_cons (dcall C_law_any hr (by decide) (da_cons (dv 0) (da_cons (de_int) (da_nil)))) (da_nil)))))))))) (da_nil)))))
theorem ok_law_octet (T : Tx K mg) (C_law_of : Cal P w K mg base 2 "_law_of" P_law_of S_law_of) (C_law_any : Cal P w K mg base 1 "_law_any" P_law_any S_law_any) {f : Addr} {fd : FuncData} (F : FunD K "_law_octet" "_law_octet" (defArgs s_law_octet) (defBody s_law_octet) (defScope s_law_octet) [] [] f fd) (hm : mg "_law_octet" = some (.ref f)) : Cal P w K mg base 3 "_law_octet" P_law_octet S_law_octet :=
  ⟨f, fd, hm, F.kp, F.bindsN (fun _ _ _ _ _ _ us hl => match us, hl with | [_], _ => rfl), F.ok sc_law_octet (fun vs H Q E h => keeps_len kp_law_octet h) (fun cdv A outer s H vs Q E hr h => ⟨liftS K t_law_octet, PSs.nox (d_law_octet T C_law_of C_law_any hr).pss, keeps_use (N := N_law_octet) kp_law_octet h⟩)⟩
abbrev s_law_number_at : Stmt := top 33
abbrev N_law_number_at : List Str := ["octets", "at", "number", "base", "place"]
abbrev P_law_number_at : List Str := ["octets", "at"]
theorem sc_law_number_at : FnScope N_law_number_at P_law_number_at (defScope s_law_number_at) := ⟨rfl, rfl, rfl, by decide +kernel, rfl, by decide +kernel, by decide +kernel⟩
theorem d_law_number_at (T : Tx K mg) {f : Addr} {cdv : Value} {A : Around} {outer : List PySem.Env} {s : Shared} {H : Hp} {E : XK} (hr : Room 0 (A.deeper (envOfC "_law_number_at" (defScope s_law_number_at) s.heap.objs.size f cdv))) :
    DSs (cxOf CX0 P w K mg base N_law_number_at "_law_number_at" (defScope s_law_number_at) f cdv A outer s H E).nox (defBody s_law_number_at) t_law_number_at := by
  exact dss_cons (ds_par3 (i := 2) (j := 3) (l := 4) rfl sc_law_number_at.nd rfl rfl rfl (by decide) (by decide) (by decide) rfl rfl rfl (da_cons (de_int) (da_cons (de_int) (da_cons (dv 1) (da_nil)))) (by rfl))
    (dss_cons (ds_if (dt_cmp do_lt (dv 1) (de_int) (nomark _)) (dss_one (ds_ret (de_non))) (dss_nil))
    (dss_cons (ds_while PassesOwn.never (DW.dt (dw_and (dt_cmp do_lt (dv 4) (de_callB dc_len rfl T.n_len PySem.boot_len (da_cons (dv 0) (da_nil))) (nomark _)) (dw_and1 (dt_cmp do_gt (de_ix (di_all (hu_of hr)) (dv 0) (dv 4)) (de_int) (nomark _))))) (dss_one (ds_par3 (i := 2) (j := 3) (l := 4) rfl sc_law_number_at.nd rfl rfl rfl (by decide) (by decide) (by decide) rfl rfl rfl (da_cons (de_bin do_add (dv 2) (de_bin do_mul (dv 3) (de_bin do_sub (de_ix (di_all (hu_of hr)) (dv 0) (dv 4)) (de_int)))) (da_cons (de_bin do_mul (dv 3) (de_int)) (da_cons (de_bin do_add (dv 4) (de_int)) (da_nil)))) (by rfl))))
    (dss_cons (ds_if (DW.dt (dw_or (dt_cmp do_ge (dv 4) (de_callB dc_len rfl T.n_len PySem.boot_len (da_cons (dv 0) (da_nil))) (nomark _)) (dw_or1 (DW.dt (dw_and (dt_cmp do_gt (dv 4) (dv 1) (nomark _)) (dw_and1 (dt_cmp (do_eq hr.units) (de_ix (di_all (hu_of hr)) (dv 0) (dv 4)) (de_int) (nomark _)))))))) (dss_one (ds_ret (de_non))) (dss_nil))
    (dss_one (ds_ret (de_tup (da_cons (de_bin do_add (dv 2) (de_bin do_mul (dv 3) (de_ix (di_all (hu_of hr)) (dv 0) (dv 4)))) (da_cons (de_bin do_add (dv 4) (de_int)) (da_nil)))))))))
theorem ok_law_number_at (T : Tx K mg) {f : Addr} {fd : FuncData} (F : FunD K "_law_number_at" "_law_number_at" (defArgs s_law_number_at) (defBody s_law_number_at) (defScope s_law_number_at) [] [] f fd) (hm : mg "_law_number_at" = some (.ref f)) : Cal P w K mg base 1 "_law_number_at" P_law_number_at S_law_number_at :=
  ⟨f, fd, hm, F.kp, F.bindsN (fun _ _ _ _ _ _ us hl => match us, hl with | [_, _], _ => rfl), F.ok sc_law_number_at (fun vs H Q E h => keeps_len kp_law_number_at h) (fun cdv A outer s H vs Q E hr h => ⟨liftS K t_law_number_at, PSs.nox (d_law_number_at T  hr).pss, keeps_use (N := N_law_number_at) kp_law_number_at h⟩)⟩
abbrev s_law_some_number : Stmt := top 34
abbrev N_law_some_number : List Str := ["deal", "edge", "turn", "some"]
abbrev P_law_some_number : List Str := ["deal"]
theorem sc_law_some_number : FnScope N_law_some_number P_law_some_number (defScope s_law_some_number) := ⟨rfl, rfl, rfl, by decide +kernel, rfl, by decide +kernel, by decide +kernel⟩
theorem d_law_some_number (T : Tx K mg) (C_law_of : Cal P w K mg base 2 "_law_of" P_law_of S_law_of) (C_law_any : Cal P w K mg base 1 "_law_any" P_law_any S_law_any) (C_law_wide : Cal P w K mg base 2 "_law_wide" P_law_wide S_law_wide) {f : Addr} {cdv : Value} {A : Around} {outer : List PySem.Env} {s : Shared} {H : Hp} {E : XK} (hr : Room 2 (A.deeper (envOfC "_law_some_number" (defScope s_law_some_number) s.heap.objs.size f cdv))) :
    DSs (cxOf CX0 P w K mg base N_law_some_number "_law_some_number" (defScope s_law_some_number) f cdv A outer s H E).nox (defBody s_law_some_number) t_law_some_number := by
  exact dss_cons (ds_set (i := 1) sc_law_some_number.nd rfl (Or.inl rfl) (de_bin do_pow (de_int) (de_int)))
    (dss_cons (ds_for PassesOwn.never rfl (di_rng1 rfl T.n_range (dcall C_law_any hr (by decide) (da_cons (dv 0) (da_cons (de_int) (da_nil))))) (dg_name (i := 2) sc_law_some_number.nd rfl (Or.inl rfl)) (dss_one (ds_set (i := 1) sc_law_some_number.nd rfl (Or.inl rfl) (de_bin do_mul (dv 1) (de_bin do_pow (de_int) (de_int))))))
    (dss_cons (ds_set (i := 3) sc_law_some_number.nd rfl (Or.inl rfl) (de_lst (da_cons (de_int) (da_cons (de_int) (da_cons (de_int) (da_cons (de_int) (da_cons (de_int) (da_cons (de_int) (da_cons (de_int) (da_cons (de_int) (da_cons (de_int) (da_cons (de_int) (da_cons (de_int) (da_cons (dcall C_law_any hr (by decide) (da_cons (dv 0) (da_cons (de_int) (da_nil)))) (da_cons (dcall C_law_any hr (by decide) (da_cons (dv 0) (da_cons (de_int) (da_nil)))) (da_cons (dcall C_law_wide hr (by decide) (da_cons (dv 0) (da_cons (de_bin do_pow (de_int) (de_int)) (da_nil)))) (da_nil)))))))))))))))))
    (dss_one (ds_ret (dcall C_law_of hr (by decide) (da_cons (dv 0) (da_cons (de_bin do_add (dv 3) (de_lst (da_cons (dv 1) (da_cons (de_bin do_sub (dv 1) (de_int)) (da_cons (de_bin do_add (dv 1) (de_int)) (da_cons (de_bin do_add (de_bin do_mul (dv 1) (de_int)) (dcall C_law_wide hr (by decide) (da_cons (dv 0) (da_cons (de_bin do_pow (de_int) (de_int)) (da_nil))))) (da_cons (de_bin do_sub (de_bin do_pow (de_int) (de_int)) (de_int)) (da_cons (de_bin do_pow (de_int) (de_int)) (da_nil))))))))) (da_nil))))))))
theorem ok_law_some_number (T : Tx K mg) (C_law_of : Cal P w K mg base 2 "_law_of" P_law_of S_law_of) (C_law_any : Cal P w K mg base 1 "_law_any" P_law_any S_law_any) (C_law_wide : Cal P w K mg base 2 "_law_wide" P_law_wide S_law_wide) {f : Addr} {fd : FuncData} (F : FunD K "_law_some_number" "_law_some_number" (defArgs s_law_some_number) (defBody s_law_some_number) (defScope s_law_some_number) [] [] f fd) (hm : mg "_law_some_number" = some (.ref f)) : Cal P w K mg base 3 "_law_some_number" P_law_some_number S_law_some_number :=
  ⟨f, fd, hm, F.kp, F.bindsN (fun _ _ _ _ _ _ us hl => match us, hl with | [_], _ => rfl), F.ok sc_law_some_number (fun vs H Q E h => keeps_len kp_law_some_number h) (fun cdv A outer s H vs Q E hr h => ⟨liftS K t_law_some_number, PSs.nox (d_law_some_number T C_law_of C_law_any C_law_wide hr).pss, keeps_use (N := N_law_some_number) kp_law_some_number h⟩)⟩
abbrev s_law_some_text : Stmt := top 35
abbrev N_law_some_text : List Str := ["deal", "signs", "step", "start", "turn"]
abbrev P_law_some_text : List Str := ["deal"]
theorem sc_law_some_text : FnScope N_law_some_text P_law_some_text (defScope s_law_some_text) := ⟨rfl, rfl, rfl, by decide +kernel, rfl, by decide +kernel, by decide +kernel⟩
theorem d_law_some_text (T : Tx K mg) (C_law_signs : Cal P w K mg base 1 "_law_signs" P_law_signs S_law_signs) (C_law_of : Cal P w K mg base 2 "_law_of" P_law_of S_law_of) (C_law_any : Cal P w K mg base 1 "_law_any" P_law_any S_law_any) {f : Addr} {cdv : Value} {A : Around} {outer : List PySem.Env} {s : Shared} {H : Hp} {E : XK} (hr : Room 2 (A.deeper (envOfC "_law_some_text" (defScope s_law_some_text) s.heap.objs.size f cdv))) :
    DSs (cxOf CX0 P w K mg base N_law_some_text "_law_some_text" (defScope s_law_some_text) f cdv A outer s H E).nox (defBody s_law_some_text) t_law_some_text := by
  exact dss_cons (ds_set (i := 1) sc_law_some_text.nd rfl (Or.inr rfl) (dcall0 C_law_signs hr (by decide)))
    (dss_cons (ds_asg (de_tup (da_cons (dcall C_law_of hr (by decide) (da_cons (dv 0) (da_cons (de_lst (da_cons (de_int) (da_cons (de_int) (da_cons (de_int) (da_cons (de_int) (da_nil)))))) (da_nil)))) (da_cons (dcall C_law_any hr (by decide) (da_cons (dv 0) (da_cons (de_int) (da_nil)))) (da_nil)))) (dg_tup rfl (dgs_cons (dg_name (i := 2) sc_law_some_text.nd rfl (Or.inr rfl)) (dgs_cons (dg_name (i := 3) sc_law_some_text.nd rfl (Or.inr rfl)) (dgs_nil)))))
    (dss_cons (ds_if (dt_cmp (do_eq hr.units) (dcall C_law_any hr (by decide) (da_cons (dv 0) (da_cons (de_int) (da_nil)))) (de_int) (nomark _)) (dss_one (ds_ret (de_m PySem.F.plainAttrs_str PySem.F.slot_str_join PySem.F.type_str_join ty_str dm_join (de_str) (da_cons (de_lc rfl sc_law_some_text.nd (di_rng1 rfl T.n_range (dcall C_law_of hr (by decide) (da_cons (dv 0) (da_cons (de_lst (da_cons (de_int) (da_cons (de_int) (da_cons (de_int) (da_cons (de_int) (da_cons (de_int) (da_cons (de_int) (da_cons (de_int) (da_nil))))))))) (da_nil))))) (blkOk_by (N := N_law_some_text) (sc := defScope s_law_some_text) (own := [("turn", 4)]) (by decide +kernel)) (fun _ _ _ _ _ => dgc_name (i := 4) sc_law_some_text.nd rfl (by first | exact Or.inl rfl | exact Or.inr rfl) (by decide)) (fun _ _ _ _ _ => dts_nil) (fun _ _ _ _ _ => de_ix (di_all (hu_of hr)) (dv 1) (de_bin do_mod (de_callTy dc_int rfl T.n_int boot_int (da_cons (de_bin do_add (dv 3) (de_bin do_mul (dv 4) (dv 2))) (da_nil))) (de_int)))) (da_nil))))) (dss_nil))
    (dss_one (ds_ret (de_m PySem.F.plainAttrs_str PySem.F.slot_str_join PySem.F.type_str_join ty_str dm_join (de_str) (da_cons (de_lc rfl sc_law_some_text.nd (di_rng1 rfl T.n_range (dcall C_law_of hr (by decide) (da_cons (dv 0) (da_cons (de_lst (da_cons (de_int) (da_cons (de_int) (da_cons (de_int) (da_cons (de_int) (da_cons (de_int) (da_nil))))))) (da_nil))))) (blkOk_by (N := N_law_some_text) (sc := defScope s_law_some_text) (own := [("turn", 4)]) (by decide +kernel)) (fun _ _ _ _ _ => dgc_name (i := 4) sc_law_some_text.nd rfl (by first | exact Or.inl rfl | exact Or.inr rfl) (by decide)) (fun _ _ _ _ _ => dts_nil) (fun _ _ _ _ _ => dcall C_law_of hr (by decide) (da_cons (dv 0) (da_cons (dv 1) (da_nil))))) (da_nil)))))))
theorem ok_law_some_text (T : Tx K mg) (C_law_signs : Cal P w K mg base 1 "_law_signs" P_law_signs S_law_signs) (C_law_of : Cal P w K mg base 2 "_law_of" P_law_of S_law_of) (C_law_any : Cal P w K mg base 1 "_law_any" P_law_any S_law_any) {f : Addr} {fd : FuncData} (F : FunD K "_law_some_text" "_law_some_text" (defArgs s_law_some_text) (defBody s_law_some_text) (defScope s_law_some_text) [] [] f fd) (hm : mg "_law_some_text" = some (.ref f)) : Cal P w K mg base 3 "_law_some_text" P_law_some_text S_law_some_text :=
  ⟨f, fd, hm, F.kp, F.bindsN (fun _ _ _ _ _ _ us hl => match us, hl with | [_], _ => rfl), F.ok sc_law_some_text (fun vs H Q E h => keeps_len kp_law_some_text h) (fun cdv A outer s H vs Q E hr h => ⟨liftS K t_law_some_text, PSs.nox (d_law_some_text T C_law_signs C_law_of C_law_any hr).pss, keeps_use (N := N_law_some_text) kp_law_some_text h⟩)⟩
abbrev s_law_noise : Stmt := top 36
abbrev N_law_noise : List Str := ["deal", "many", "turn"]
abbrev P_law_noise : List Str := ["deal", "many"]
theorem sc_law_noise : FnScope N_law_noise P_law_noise (defScope s_law_noise) := ⟨rfl, rfl, rfl, by decide +kernel, rfl, by decide +kernel, by decide +kernel⟩
theorem d_law_noise (T : Tx K mg) (C_law_octet : Cal P w K mg base 3 "_law_octet" P_law_octet S_law_octet) (C_law_any : Cal P w K mg base 1 "_law_any" P_law_any S_law_any) {f : Addr} {cdv : Value} {A : Around} {outer : List PySem.Env} {s : Shared} {H : Hp} {E : XK} (hr : Room 3 (A.deeper (envOfC "_law_noise" (defScope s_law_noise) s.heap.objs.size f cdv))) :
    DSs (cxOf CX0 P w K mg base N_law_noise "_law_noise" (defScope s_law_noise) f cdv A outer s H E).nox (defBody s_law_noise) t_law_noise := by
  exact dss_one (ds_ret (de_lc rfl sc_law_noise.nd (di_rng1 rfl T.n_range (dcall C_law_any hr (by decide) (da_cons (dv 0) (da_cons (dv 1) (da_nil))))) (blkOk_by (N := N_law_noise) (sc := defScope s_law_noise) (own := [("turn", 2)]) (by decide +kernel)) (fun _ _ _ _ _ => dgc_name (i := 2) sc_law_noise.nd rfl (by first | exact Or.inl rfl | exact Or.inr rfl) (by decide)) (fun _ _ _ _ _ => dts_nil) (fun _ _ _ _ _ => dcall C_law_octet hr (by decide) (da_cons (dv 0) (da_nil)))))
theorem ok_law_noise (T : Tx K mg) (C_law_octet : Cal P w K mg base 3 "_law_octet" P_law_octet S_law_octet) (C_law_any : Cal P w K mg base 1 "_law_any" P_law_any S_law_any) {f : Addr} {fd : FuncData} (F : FunD K "_law_noise" "_law_noise" (defArgs s_law_noise) (defBody s_law_noise) (defScope s_law_noise) [] [] f fd) (hm : mg "_law_noise" = some (.ref f)) : Cal P w K mg base 4 "_law_noise" P_law_noise S_law_noise :=
  ⟨f, fd, hm, F.kp, F.bindsN (fun _ _ _ _ _ _ us hl => match us, hl with | [_, _], _ => rfl), F.ok sc_law_noise (fun vs H Q E h => keeps_len kp_law_noise h) (fun cdv A outer s H vs Q E hr h => ⟨liftS K t_law_noise, PSs.nox (d_law_noise T C_law_octet C_law_any hr).pss, keeps_use (N := N_law_noise) kp_law_noise h⟩)⟩
abbrev s_law_text_at : Stmt := top 37
abbrev N_law_text_at : List Str := ["octets", "at", "told", "codes", "signs", "some", "sign", "octet"]
abbrev P_law_text_at : List Str := ["octets", "at"]
theorem sc_law_text_at : FnScope N_law_text_at P_law_text_at (defScope s_law_text_at) := ⟨rfl, rfl, rfl, by decide +kernel, rfl, by decide +kernel, by decide +kernel⟩
theorem d_law_text_at (T : Tx K mg) (C_law_number_at : Cal P w K mg base 1 "_law_number_at" P_law_number_at S_law_number_at) (C_law_signs : Cal P w K mg base 1 "_law_signs" P_law_signs S_law_signs) {f : Addr} {cdv : Value} {A : Around} {outer : List PySem.Env} {s : Shared} {H : Hp} {E : XK} (hr : Room 1 (A.deeper (envOfC "_law_text_at" (defScope s_law_text_at) s.heap.objs.size f cdv))) :
    DSs (cxOf CX0 P w K mg base N_law_text_at "_law_text_at" (defScope s_law_text_at) f cdv A outer s H E).nox (defBody s_law_text_at) t_law_text_at := by
  exact dss_cons (ds_set (i := 2) sc_law_text_at.nd rfl (Or.inl rfl) (dcall C_law_number_at hr (by decide) (da_cons (dv 0) (da_cons (dv 1) (da_nil)))))
    (dss_cons (ds_if (DW.dt (dw_or (dt_cmp do_is (dv 2) (de_non) (nomark _)) (dw_or1 (dt_cmp do_gt (de_ix (di_all (hu_of hr)) (dv 2) (de_int)) (de_bin do_sub (de_callB dc_len rfl T.n_len PySem.boot_len (da_cons (dv 0) (da_nil))) (de_ix (di_all (hu_of hr)) (dv 2) (de_int))) (nomark _))))) (dss_one (ds_ret (de_non))) (dss_nil))
    (dss_cons (ds_asg (de_tup (da_cons (de_lc rfl sc_law_text_at.nd (di_seq (dcall0 C_law_signs hr (by decide))) (blkOk_by (N := N_law_text_at) (sc := defScope s_law_text_at) (own := [("sign", 6)]) (by decide +kernel)) (fun _ _ _ _ _ => dgc_name (i := 6) sc_law_text_at.nd rfl (by first | exact Or.inl rfl | exact Or.inr rfl) (by decide)) (fun _ _ _ _ _ => dts_nil) (fun _ _ _ _ _ => de_callB dc_ord rfl T.n_ord boot_ord (da_cons (dv 6) (da_nil)))) (da_cons (dcall0 C_law_signs hr (by decide)) (da_nil)))) (dg_tup rfl (dgs_cons (dg_name (i := 3) sc_law_text_at.nd rfl (Or.inr rfl)) (dgs_cons (dg_name (i := 4) sc_law_text_at.nd rfl (Or.inr rfl)) (dgs_nil)))))
    (dss_cons (ds_set (i := 5) sc_law_text_at.nd rfl (Or.inl rfl) (de_sl (dv 0) (dp_some (de_ix (di_all (hu_of hr)) (dv 2) (de_int))) (dp_some (de_bin do_add (de_ix (di_all (hu_of hr)) (dv 2) (de_int)) (de_ix (di_all (hu_of hr)) (dv 2) (de_int))))))
    (dss_cons (ds_if (dt_cmp do_gt (de_callB dc_len rfl T.n_len PySem.boot_len (da_cons (de_lc rfl sc_law_text_at.nd (di_seq (dv 5)) (blkOk_by (N := N_law_text_at) (sc := defScope s_law_text_at) (own := [("octet", 7)]) (by decide +kernel)) (fun _ _ _ _ _ => dgc_name (i := 7) sc_law_text_at.nd rfl (by first | exact Or.inl rfl | exact Or.inr rfl) (by decide)) (fun _ _ _ _ _ => dts_one (dt_cmp (do_notin (hu_of hr)) (dv 7) (dv 3) (by rfl))) (fun _ _ _ _ _ => dv 7)) (da_nil))) (de_int) (nomark _)) (dss_one (ds_ret (de_non))) (dss_nil))
    (dss_one (ds_ret (de_tup (da_cons (de_m PySem.F.plainAttrs_str PySem.F.slot_str_join PySem.F.type_str_join ty_str dm_join (de_str) (da_cons (de_lc rfl sc_law_text_at.nd (di_seq (dv 5)) (blkOk_by (N := N_law_text_at) (sc := defScope s_law_text_at) (own := [("octet", 7)]) (by decide +kernel)) (fun _ _ _ _ _ => dgc_name (i := 7) sc_law_text_at.nd rfl (by first | exact Or.inl rfl | exact Or.inr rfl) (by decide)) (fun _ _ _ _ _ => dts_nil) (fun _ _ _ _ _ => de_ix (di_all (hu_of hr)) (dv 4) (de_m PySem.F.plainAttrs_list PySem.F.slot_list_index PySem.F.type_list_index ty_list dm_index (dv 3) (da_cons (dv 7) (da_nil))))) (da_nil))) (da_cons (de_bin do_add (de_ix (di_all (hu_of hr)) (dv 2) (de_int)) (de_ix (di_all (hu_of hr)) (dv 2) (de_int))) (da_nil))))))))))
theorem ok_law_text_at (T : Tx K mg) (C_law_number_at : Cal P w K mg base 1 "_law_number_at" P_law_number_at S_law_number_at) (C_law_signs : Cal P w K mg base 1 "_law_signs" P_law_signs S_law_signs) {f : Addr} {fd : FuncData} (F : FunD K "_law_text_at" "_law_text_at" (defArgs s_law_text_at) (defBody s_law_text_at) (defScope s_law_text_at) [] [] f fd) (hm : mg "_law_text_at" = some (.ref f)) : Cal P w K mg base 2 "_law_text_at" P_law_text_at S_law_text_at :=
  ⟨f, fd, hm, F.kp, F.bindsN (fun _ _ _ _ _ _ us hl => match us, hl with | [_, _], _ => rfl), F.ok sc_law_text_at (fun vs H Q E h => keeps_len kp_law_text_at h) (fun cdv A outer s H vs Q E hr h => ⟨liftS K t_law_text_at, PSs.nox (d_law_text_at T C_law_number_at C_law_signs hr).pss, keeps_use (N := N_law_text_at) kp_law_text_at h⟩)⟩
abbrev s_law : Stmt := top 38
abbrev N_law : List Str := ["script", "deal", "pairs", "turn", "number", "ahead", "behind", "due", "octets", "text", "body", "whole", "at", "bent", "place", "row"]
abbrev P_law : List Str := ["script"]
theorem sc_law : FnScope N_law P_law (defScope s_law) := ⟨rfl, rfl, rfl, by decide +kernel, rfl, by decide +kernel, by decide +kernel⟩
theorem d_law (T : Tx K mg) (C_law_deal : Cal P w K mg base 1 "_law_deal" P_law_deal S_law_deal) (C_law_all : Cal P w K mg base 3 "_law_all" P_law_all S_law_all) (C_law_number_octets : Cal P w K mg base 1 "_law_number_octets" P_law_number_octets S_law_number_octets) (C_law_some_text : Cal P w K mg base 3 "_law_some_text" P_law_some_text S_law_some_text) (C_law_body : Cal P w K mg base 2 "_law_body" P_law_body S_law_body) (C_law_any : Cal P w K mg base 1 "_law_any" P_law_any S_law_any) (C_law_noise : Cal P w K mg base 4 "_law_noise" P_law_noise S_law_noise) (C_law_some_number : Cal P w K mg base 3 "_law_some_number" P_law_some_number S_law_some_number) (C_sum_of_octets : Cal P w K mg base 1 "sum_of_octets" P_sum_of_octets S_sum_of_octets) (C_read_number : Cal P w K mg base 3 "read_number" P_read_number S_read_number) (C_read_text : Cal P w K mg base 4 "read_text" P_read_text S_read_text) (C_law_of : Cal P w K mg base 2 "_law_of" P_law_of S_law_of) (C_law_sum : Cal P w K mg base 1 "_law_sum" P_law_sum S_law_sum) (C_number_octets : Cal P w K mg base 2 "number_octets" P_number_octets S_number_octets) (C_text_octets : Cal P w K mg base 3 "text_octets" P_text_octets S_text_octets) (C_law_number_at : Cal P w K mg base 1 "_law_number_at" P_law_number_at S_law_number_at) (C_law_text_at : Cal P w K mg base 2 "_law_text_at" P_law_text_at S_law_text_at) (C_law_octet : Cal P w K mg base 3 "_law_octet" P_law_octet S_law_octet) (B_number_octets_number : CalK P w K mg base 2 "number_octets" P_number_octets ["number"] [0] S_number_octets) (B_read_text_octets_at : CalK P w K mg base 4 "read_text" P_read_text ["octets", "at"] [0, 1] S_read_text) (B_sum_of_octets_octets : CalK P w K mg base 1 "sum_of_octets" P_sum_of_octets ["octets"] [0] S_sum_of_octets) (B_text_octets_text : CalK P w K mg base 3 "text_octets" P_text_octets ["text"] [0] S_text_octets) {f : Addr} {cdv : Value} {A : Around} {outer : List PySem.Env} {s : Shared} {H : Hp} {E : XK} (hr : Room 4 (A.deeper (envOfC "law" (defScope s_law) s.heap.objs.size f cdv))) :
    DSs (cxOf CX0 P w K mg base N_law "law" (defScope s_law) f cdv A outer s H E).nox (defBody s_law) t_law := by
  exact dss_cons (ds_set (i := 1) sc_law.nd rfl (Or.inl rfl) (dcall C_law_deal hr (by decide) (da_cons (dv 0) (da_cons (de_int) (da_nil)))))
    (dss_cons (ds_set (i := 2) sc_law.nd rfl (Or.inl rfl) (de_lst (da_nil)))
    (dss_cons (ds_for PassesOwn.never rfl (di_rng1 rfl T.n_range (de_int)) (dg_name (i := 3) sc_law.nd rfl (Or.inl rfl)) (dss_cons (ds_par3 (i := 4) (j := 5) (l := 6) rfl sc_law.nd rfl rfl rfl (by decide) (by decide) (by decide) rfl rfl rfl (da_cons (dcall C_law_some_number hr (by decide) (da_cons (dv 1) (da_nil))) (da_cons (dcall C_law_noise hr (by decide) (da_cons (dv 1) (da_cons (de_int) (da_nil)))) (da_cons (dcall C_law_noise hr (by decide) (da_cons (dv 1) (da_cons (de_int) (da_nil)))) (da_nil)))) (by rfl))
    (dss_cons (ds_set (i := 7) sc_law.nd rfl (Or.inl rfl) (dcall C_law_number_octets hr (by decide) (da_cons (dv 4) (da_nil))))
    (dss_cons (ds_expr (de_m PySem.F.plainAttrs_list PySem.F.slot_list_append PySem.F.type_list_append ty_list dm_append (dv 2) (da_cons (de_tup (da_cons (de_ifExp (dt_cmp do_lt (dv 3) (de_int) (nomark _)) (dcall C_number_octets hr (by decide) (da_cons (dv 4) (da_nil))) (dcallK B_number_octets_number hr (by decide) (dk_cons (dv 4) (dk_nil)))) (da_cons (de_callTy dc_tuple rfl T.n_tuple boot_tuple (da_cons (dv 7) (da_nil))) (da_nil)))) (da_nil))))
    (dss_cons (ds_set (i := 8) sc_law.nd rfl (Or.inl rfl) (de_bin do_add (de_bin do_add (dv 5) (dv 7)) (dv 6)))
    (dss_cons (ds_expr (de_m PySem.F.plainAttrs_list PySem.F.slot_list_append PySem.F.type_list_append ty_list dm_append (dv 2) (da_cons (de_tup (da_cons (dcall C_read_number hr (by decide) (da_cons (de_callTy dc_tuple rfl T.n_tuple boot_tuple (da_cons (dv 8) (da_nil))) (da_cons (de_callB dc_len rfl T.n_len PySem.boot_len (da_cons (dv 5) (da_nil))) (da_nil)))) (da_cons (de_tup (da_cons (dv 4) (da_cons (de_bin do_add (de_callB dc_len rfl T.n_len PySem.boot_len (da_cons (dv 5) (da_nil))) (de_callB dc_len rfl T.n_len PySem.boot_len (da_cons (dv 7) (da_nil)))) (da_nil)))) (da_nil)))) (da_nil))))
    (dss_cons (ds_set (i := 9) sc_law.nd rfl (Or.inl rfl) (dcall C_law_some_text hr (by decide) (da_cons (dv 1) (da_nil))))
    (dss_cons (ds_set (i := 10) sc_law.nd rfl (Or.inl rfl) (dcall C_law_body hr (by decide) (da_cons (dv 9) (da_nil))))
    (dss_cons (ds_expr (de_m PySem.F.plainAttrs_list PySem.F.slot_list_append PySem.F.type_list_append ty_list dm_append (dv 2) (da_cons (de_tup (da_cons (de_ifExp (dt_cmp do_lt (dv 3) (de_int) (nomark _)) (dcall C_text_octets hr (by decide) (da_cons (dv 9) (da_nil))) (dcallK B_text_octets_text hr (by decide) (dk_cons (dv 9) (dk_nil)))) (da_cons (de_callTy dc_tuple rfl T.n_tuple boot_tuple (da_cons (dv 10) (da_nil))) (da_nil)))) (da_nil))))
    (dss_cons (ds_set (i := 11) sc_law.nd rfl (Or.inl rfl) (de_bin do_add (de_bin do_add (dv 5) (dv 10)) (dv 6)))
    (dss_cons (ds_expr (de_m PySem.F.plainAttrs_list PySem.F.slot_list_append PySem.F.type_list_append ty_list dm_append (dv 2) (da_cons (de_tup (da_cons (dcallK B_read_text_octets_at hr (by decide) (dk_cons (de_callTy dc_tuple rfl T.n_tuple boot_tuple (da_cons (dv 11) (da_nil))) (dk_cons (de_callB dc_len rfl T.n_len PySem.boot_len (da_cons (dv 5) (da_nil))) (dk_nil)))) (da_cons (de_tup (da_cons (dv 9) (da_cons (de_bin do_add (de_callB dc_len rfl T.n_len PySem.boot_len (da_cons (dv 5) (da_nil))) (de_callB dc_len rfl T.n_len PySem.boot_len (da_cons (dv 10) (da_nil)))) (da_nil)))) (da_nil)))) (da_nil))))
    (dss_cons (ds_set (i := 12) sc_law.nd rfl (Or.inl rfl) (dcall C_law_any hr (by decide) (da_cons (dv 1) (da_cons (de_callB dc_len rfl T.n_len PySem.boot_len (da_cons (dv 11) (da_nil))) (da_nil)))))
    (dss_cons (ds_set (i := 13) sc_law.nd rfl (Or.inl rfl) (de_bin do_add (de_bin do_add (de_sl (dv 11) (dp_none) (dp_some (dv 12))) (dcall C_law_of hr (by decide) (da_cons (dv 1) (da_cons (de_lst (da_cons (de_lst (da_cons (dcall C_law_octet hr (by decide) (da_cons (dv 1) (da_nil))) (da_nil))) (da_cons (de_lst (da_cons (de_int) (da_nil))) (da_cons (de_lst (da_cons (de_int) (da_nil))) (da_cons (de_lst (da_cons (de_int) (da_nil))) (da_cons (de_lst (da_nil)) (da_cons (de_lst (da_cons (de_int) (da_nil))) (da_cons (de_lst (da_cons (de_int) (da_cons (de_int) (da_nil)))) (da_cons (de_lst (da_cons (de_int) (da_nil))) (da_nil)))))))))) (da_nil))))) (de_sl (dv 11) (dp_some (de_bin do_add (dv 12) (de_int))) (dp_none))))
    (dss_cons (ds_for PassesOwn.never rfl (di_seq (de_lst (da_cons (de_callB dc_len rfl T.n_len PySem.boot_len (da_cons (dv 5) (da_nil))) (da_cons (dv 12) (da_cons (de_int) (da_cons (dcall C_law_any hr (by decide) (da_cons (dv 1) (da_cons (de_bin do_add (de_callB dc_len rfl T.n_len PySem.boot_len (da_cons (dv 11) (da_nil))) (de_int)) (da_nil)))) (da_cons (de_bin do_sub (de_bin do_sub (de_int) (de_int)) (dcall C_law_any hr (by decide) (da_cons (dv 1) (da_cons (de_int) (da_nil))))) (da_cons (de_callB dc_len rfl T.n_len PySem.boot_len (da_cons (dv 13) (da_nil))) (da_cons (de_bin do_pow (de_int) (de_int)) (da_nil)))))))))) (dg_name (i := 14) sc_law.nd rfl (Or.inl rfl)) (dss_cons (ds_expr (de_m PySem.F.plainAttrs_list PySem.F.slot_list_append PySem.F.type_list_append ty_list dm_append (dv 2) (da_cons (de_tup (da_cons (dcall C_read_number hr (by decide) (da_cons (de_callTy dc_tuple rfl T.n_tuple boot_tuple (da_cons (dv 13) (da_nil))) (da_cons (dv 14) (da_nil)))) (da_cons (dcall C_law_number_at hr (by decide) (da_cons (dv 13) (da_cons (dv 14) (da_nil)))) (da_nil)))) (da_nil))))
    (dss_one (ds_expr (de_m PySem.F.plainAttrs_list PySem.F.slot_list_append PySem.F.type_list_append ty_list dm_append (dv 2) (da_cons (de_tup (da_cons (dcall C_read_text hr (by decide) (da_cons (de_callTy dc_tuple rfl T.n_tuple boot_tuple (da_cons (dv 13) (da_nil))) (da_cons (dv 14) (da_nil)))) (da_cons (dcall C_law_text_at hr (by decide) (da_cons (dv 13) (da_cons (dv 14) (da_nil)))) (da_nil)))) (da_nil)))))))
    (dss_cons (ds_set (i := 15) sc_law.nd rfl (Or.inl rfl) (dcall C_law_noise hr (by decide) (da_cons (dv 1) (da_cons (de_int) (da_nil)))))
    (dss_cons (ds_expr (de_m PySem.F.plainAttrs_list PySem.F.slot_list_append PySem.F.type_list_append ty_list dm_append (dv 2) (da_cons (de_tup (da_cons (dcall C_sum_of_octets hr (by decide) (da_cons (de_callTy dc_tuple rfl T.n_tuple boot_tuple (da_cons (dv 15) (da_nil))) (da_nil))) (da_cons (dcall C_law_sum hr (by decide) (da_cons (dv 15) (da_nil))) (da_nil)))) (da_nil))))
    (dss_one (ds_expr (de_m PySem.F.plainAttrs_list PySem.F.slot_list_append PySem.F.type_list_append ty_list dm_append (dv 2) (da_cons (de_tup (da_cons (dcallK B_sum_of_octets_octets hr (by decide) (dk_cons (de_callTy dc_tuple rfl T.n_tuple boot_tuple (da_cons (dv 11) (da_nil))) (dk_nil))) (da_cons (dcall C_law_sum hr (by decide) (da_cons (dv 11) (da_nil))) (da_nil)))) (da_nil)))))))))))))))))))))
    (dss_cons (ds_expr (de_m PySem.F.plainAttrs_list PySem.F.slot_list_append PySem.F.type_list_append ty_list dm_append (dv 2) (da_cons (de_tup (da_cons (dcall C_sum_of_octets hr (by decide) (da_cons (de_bin do_mul (de_tup (da_cons (de_int) (da_nil))) (de_int)) (da_nil))) (da_cons (de_bin do_mod (de_callTy dc_int rfl T.n_int boot_int (da_cons (de_bin do_div (de_bin do_mul (de_bin do_mul (de_int) (de_int)) (de_int)) (de_int)) (da_nil))) (de_int)) (da_nil)))) (da_nil))))
    (dss_one (ds_ret (dcall C_law_all hr (by decide) (da_cons (dv 2) (da_nil))))))))
theorem ok_law (T : Tx K mg) (C_law_deal : Cal P w K mg base 1 "_law_deal" P_law_deal S_law_deal) (C_law_all : Cal P w K mg base 3 "_law_all" P_law_all S_law_all) (C_law_number_octets : Cal P w K mg base 1 "_law_number_octets" P_law_number_octets S_law_number_octets) (C_law_some_text : Cal P w K mg base 3 "_law_some_text" P_law_some_text S_law_some_text) (C_law_body : Cal P w K mg base 2 "_law_body" P_law_body S_law_body) (C_law_any : Cal P w K mg base 1 "_law_any" P_law_any S_law_any) (C_law_noise : Cal P w K mg base 4 "_law_noise" P_law_noise S_law_noise) (C_law_some_number : Cal P w K mg base 3 "_law_some_number" P_law_some_number S_law_some_number) (C_sum_of_octets : Cal P w K mg base 1 "sum_of_octets" P_sum_of_octets S_sum_of_octets) (C_read_number : Cal P w K mg base 3 "read_number" P_read_number S_read_number) (C_read_text : Cal P w K mg base 4 "read_text" P_read_text S_read_text) (C_law_of : Cal P w K mg base 2 "_law_of" P_law_of S_law_of) (C_law_sum : Cal P w K mg base 1 "_law_sum" P_law_sum S_law_sum) (C_number_octets : Cal P w K mg base 2 "number_octets" P_number_octets S_number_octets) (C_text_octets : Cal P w K mg base 3 "text_octets" P_text_octets S_text_octets) (C_law_number_at : Cal P w K mg base 1 "_law_number_at" P_law_number_at S_law_number_at) (C_law_text_at : Cal P w K mg base 2 "_law_text_at" P_law_text_at S_law_text_at) (C_law_octet : Cal P w K mg base 3 "_law_octet" P_law_octet S_law_octet) (B_number_octets_number : CalK P w K mg base 2 "number_octets" P_number_octets ["number"] [0] S_number_octets) (B_read_text_octets_at : CalK P w K mg base 4 "read_text" P_read_text ["octets", "at"] [0, 1] S_read_text) (B_sum_of_octets_octets : CalK P w K mg base 1 "sum_of_octets" P_sum_of_octets ["octets"] [0] S_sum_of_octets) (B_text_octets_text : CalK P w K mg base 3 "text_octets" P_text_octets ["text"] [0] S_text_octets) {f : Addr} {fd : FuncData} (F : FunD K "law" "law" (defArgs s_law) (defBody s_law) (defScope s_law) [] [] f fd) (hm : mg "law" = some (.ref f)) : Cal P w K mg base 5 "law" P_law S_law :=
  ⟨f, fd, hm, F.kp, F.bindsN (fun _ _ _ _ _ _ us hl => match us, hl with | [_], _ => rfl), F.ok sc_law (fun vs H Q E h => keeps_len kp_law h) (fun cdv A outer s H vs Q E hr h => ⟨liftS K t_law, PSs.nox (d_law T C_law_deal C_law_all C_law_number_octets C_law_some_text C_law_body C_law_any C_law_noise C_law_some_number C_sum_of_octets C_read_number C_read_text C_law_of C_law_sum C_number_octets C_text_octets C_law_number_at C_law_text_at C_law_octet B_number_octets_number B_read_text_octets_at B_sum_of_octets_octets B_text_octets_text hr).pss, keeps_use (N := N_law) kp_law h⟩)⟩
end
def dd_octets_of_number : He.DefD := ⟨("octets_of_number", none), "octets_of_number", "octets_of_number", defArgs s_octets_of_number, defBody s_octets_of_number, defScope s_octets_of_number, [], []⟩
def dd_octets_of_text : He.DefD := ⟨("octets_of_text", none), "octets_of_text", "octets_of_text", defArgs s_octets_of_text, defBody s_octets_of_text, defScope s_octets_of_text, [], []⟩
def dd_number_of : He.DefD := ⟨("number_of", none), "number_of", "number_of", defArgs s_number_of, defBody s_number_of, defScope s_number_of, [], []⟩
def dd_behind_number : He.DefD := ⟨("behind_number", none), "behind_number", "behind_number", defArgs s_behind_number, defBody s_behind_number, defScope s_behind_number, [], []⟩
def dd_number_in : He.DefD := ⟨("number_in", none), "number_in", "number_in", defArgs s_number_in, defBody s_number_in, defScope s_number_in, [], []⟩
def dd_sign_of : He.DefD := ⟨("sign_of", none), "sign_of", "sign_of", defArgs s_sign_of, defBody s_sign_of, defScope s_sign_of, [], []⟩
def dd_text_in : He.DefD := ⟨("text_in", none), "text_in", "text_in", defArgs s_text_in, defBody s_text_in, defScope s_text_in, [], []⟩
def dd_number_octets : He.DefD := ⟨("number_octets", none), "number_octets", "number_octets", defArgs s_number_octets, defBody s_number_octets, defScope s_number_octets, [], []⟩
def dd_text_octets : He.DefD := ⟨("text_octets", none), "text_octets", "text_octets", defArgs s_text_octets, defBody s_text_octets, defScope s_text_octets, [], []⟩
def dd_read_number : He.DefD := ⟨("read_number", none), "read_number", "read_number", defArgs s_read_number, defBody s_read_number, defScope s_read_number, [], []⟩
def dd_read_text : He.DefD := ⟨("read_text", none), "read_text", "read_text", defArgs s_read_text, defBody s_read_text, defScope s_read_text, [], []⟩
def dd_sum_of_octets : He.DefD := ⟨("sum_of_octets", none), "sum_of_octets", "sum_of_octets", defArgs s_sum_of_octets, defBody s_sum_of_octets, defScope s_sum_of_octets, [], []⟩
def dd_law_deal : He.DefD := ⟨("_law_deal", none), "_law_deal", "_law_deal", defArgs s_law_deal, defBody s_law_deal, defScope s_law_deal, [], []⟩
def dd_law_any : He.DefD := ⟨("_law_any", none), "_law_any", "_law_any", defArgs s_law_any, defBody s_law_any, defScope s_law_any, [], []⟩
def dd_law_wide : He.DefD := ⟨("_law_wide", none), "_law_wide", "_law_wide", defArgs s_law_wide, defBody s_law_wide, defScope s_law_wide, [], []⟩
def dd_law_of : He.DefD := ⟨("_law_of", none), "_law_of", "_law_of", defArgs s_law_of, defBody s_law_of, defScope s_law_of, [], []⟩
def dd_law_is_kind : He.DefD := ⟨("_law_is_kind", none), "_law_is_kind", "_law_is_kind", defArgs s_law_is_kind, defBody s_law_is_kind, defScope s_law_is_kind, [], []⟩
def dd_law_same : He.DefD := ⟨("_law_same", none), "_law_same", "_law_same", defArgs s_law_same, defBody s_law_same, defScope s_law_same, [], []⟩
def dd_law_all : He.DefD := ⟨("_law_all", none), "_law_all", "_law_all", defArgs s_law_all, defBody s_law_all, defScope s_law_all, [], []⟩
def dd_law_number_octets : He.DefD := ⟨("_law_number_octets", none), "_law_number_octets", "_law_number_octets", defArgs s_law_number_octets, defBody s_law_number_octets, defScope s_law_number_octets, [], []⟩
def dd_law_sum : He.DefD := ⟨("_law_sum", none), "_law_sum", "_law_sum", defArgs s_law_sum, defBody s_law_sum, defScope s_law_sum, [], []⟩
def dd_law_body : He.DefD := ⟨("_law_body", none), "_law_body", "_law_body", defArgs s_law_body, defBody s_law_body, defScope s_law_body, [], []⟩
def dd_law_signs : He.DefD := ⟨("_law_signs", none), "_law_signs", "_law_signs", defArgs s_law_signs, defBody s_law_signs, defScope s_law_signs, [], []⟩
def dd_law_octet : He.DefD := ⟨("_law_octet", none), "_law_octet", "_law_octet", defArgs s_law_octet, defBody s_law_octet, defScope s_law_octet, [], []⟩
def dd_law_number_at : He.DefD := ⟨("_law_number_at", none), "_law_number_at", "_law_number_at", defArgs s_law_number_at, defBody s_law_number_at, defScope s_law_number_at, [], []⟩
def dd_law_some_number : He.DefD := ⟨("_law_some_number", none), "_law_some_number", "_law_some_number", defArgs s_law_some_number, defBody s_law_some_number, defScope s_law_some_number, [], []⟩
def dd_law_some_text : He.DefD := ⟨("_law_some_text", none), "_law_some_text", "_law_some_text", defArgs s_law_some_text, defBody s_law_some_text, defScope s_law_some_text, [], []⟩
def dd_law_noise : He.DefD := ⟨("_law_noise", none), "_law_noise", "_law_noise", defArgs s_law_noise, defBody s_law_noise, defScope s_law_noise, [], []⟩
def dd_law_text_at : He.DefD := ⟨("_law_text_at", none), "_law_text_at", "_law_text_at", defArgs s_law_text_at, defBody s_law_text_at, defScope s_law_text_at, [], []⟩
def dd_law : He.DefD := ⟨("law", none), "law", "law", defArgs s_law, defBody s_law, defScope s_law, [], []⟩
def fn : List He.DefD := [dd_octets_of_number, dd_octets_of_text, dd_number_of, dd_behind_number, dd_number_in, dd_sign_of, dd_text_in, dd_number_octets, dd_text_octets, dd_read_number, dd_read_text, dd_sum_of_octets, dd_law_deal, dd_law_any, dd_law_wide, dd_law_of, dd_law_is_kind, dd_law_same, dd_law_all, dd_law_number_octets, dd_law_sum, dd_law_body, dd_law_signs, dd_law_octet, dd_law_number_at, dd_law_some_number, dd_law_some_text, dd_law_noise, dd_law_text_at, dd_law]
def fa : List He.Fa := [.glo "octets_of_number", .glo "octets_of_text", .glo "number_of", .glo "behind_number", .glo "number_in", .glo "sign_of", .glo "text_in", .glo "number_octets", .glo "text_octets", .glo "read_number", .glo "read_text", .glo "sum_of_octets", .glo "_law_deal", .glo "_law_any", .glo "_law_wide", .glo "_law_of", .glo "_law_is_kind", .glo "_law_same", .glo "_law_all", .glo "_law_number_octets", .glo "_law_sum", .glo "_law_body", .glo "_law_signs", .glo "_law_octet", .glo "_law_number_at", .glo "_law_some_number", .glo "_law_some_text", .glo "_law_noise", .glo "_law_text_at", .glo "law", .free "abs", .free "bool", .free "dict", .free "enumerate", .free "int", .free "isinstance", .free "len", .free "list", .free "ord", .free "range", .free "str", .free "sum", .free "tuple", .int "BASE" (128), .int "BLANK" (32), .int "NEWLINE" (10), .int "PERCENT" (37), .int "PRIME" (65521), .str "SIGNS" " !\"#$\n&'()*+,-./0123456789:;<=>?@ABCDEFGHIJKLMNOPQRSTUVWXYZ[\\]^_`abcdefghijklmnopqrstuvwxyz{|}~"]
abbrev R : PySem.W.OpenRow := PySem.W.OpenLaw.row PySem.Challenge.rw_ownrules_k81_numbers_and_texts_have_octe
abbrev hk : PySem.W.Hook := He.hookD 4 fa fn
def ob (s : PySem.W.SharedT) : He.AlD := He.obsDG 4 fa fn (HandSHeadRun.getT s)
theorem ob_eq (s : PySem.W.SharedT) : ob s = hk.obs s.abs := He.obsDG_eq (HandSHeadRun.getT_eq s)
def lo_0 : List PySem.Str := ["octets_of_number", "octets_of_text", "number_of", "behind_number", "number_in", "sign_of", "text_in", "number_octets", "text_octets", "read_number", "read_text", "sum_of_octets", "_law_deal", "_law_any", "_law_wide", "_law_of", "_law_is_kind", "_law_same", "_law_all", "_law_number_octets", "_law_sum", "_law_body", "_law_signs", "_law_octet", "_law_number_at", "_law_some_number", "_law_some_text", "_law_noise", "_law_text_at", "BASE"]
def lo_1 : List PySem.Str := ["NEWLINE", "BLANK", "PERCENT", "SIGNS", "PRIME"]
abbrev loose : List PySem.Str := lo_0 ++ lo_1
theorem run (w : World) : HandSHeadRun.RunEq R (PySem.W.view R.prog [38]) hk ob 4000 loose w := by
  intro os
  kernel_rfl
theorem facts {P : Program} {w : World} {K : PySem.W.Frag} {h : Heap} {mg : Str → Option Value} {f : Addr} (X : K.In h) (G : h.Ns mainGlobals mg) (hfa : mg ("law" : Str) = some (.ref f)) (c : He.SaysD fa fn K) :
    ∃ fd : FuncData, (∀ (s : Shared) (v : Value), BindsTo s fd ⟨[v], []⟩ [("script", v)]) ∧ ∀ base : Heap, K.In base → base.Ns mainGlobals mg → FnOk P w K mg base CX0 5 f fd ["script"] (liftSp K S_law) := by
  have T : Tx K mg := ⟨He.free_ok X G (c.fact 30 (f := .free "abs") rfl),
    He.free_ok X G (c.fact 31 (f := .free "bool") rfl),
    He.free_ok X G (c.fact 32 (f := .free "dict") rfl),
    He.free_ok X G (c.fact 33 (f := .free "enumerate") rfl),
    He.free_ok X G (c.fact 34 (f := .free "int") rfl),
    He.free_ok X G (c.fact 35 (f := .free "isinstance") rfl),
    He.free_ok X G (c.fact 36 (f := .free "len") rfl),
    He.free_ok X G (c.fact 37 (f := .free "list") rfl),
    He.free_ok X G (c.fact 38 (f := .free "ord") rfl),
    He.free_ok X G (c.fact 39 (f := .free "range") rfl),
    He.free_ok X G (c.fact 40 (f := .free "str") rfl),
    He.free_ok X G (c.fact 41 (f := .free "sum") rfl),
    He.free_ok X G (c.fact 42 (f := .free "tuple") rfl),
    He.int_ok X G (c.fact 43 (f := .int "BASE" (128)) rfl),
    He.int_ok X G (c.fact 44 (f := .int "BLANK" (32)) rfl),
    He.int_ok X G (c.fact 45 (f := .int "NEWLINE" (10)) rfl),
    He.int_ok X G (c.fact 46 (f := .int "PERCENT" (37)) rfl),
    He.int_ok X G (c.fact 47 (f := .int "PRIME" (65521)) rfl),
    He.str_ok X G (c.fact 48 (f := .str "SIGNS" " !\"#$\n&'()*+,-./0123456789:;<=>?@ABCDEFGHIJKLMNOPQRSTUVWXYZ[\\]^_`abcdefghijklmnopqrstuvwxyz{|}~") rfl)⟩
  obtain ⟨fd_octets_of_number, F_octets_of_number⟩ := c.def_ 0 (d := dd_octets_of_number) rfl
  obtain ⟨fd_octets_of_text, F_octets_of_text⟩ := c.def_ 1 (d := dd_octets_of_text) rfl
  obtain ⟨fd_number_of, F_number_of⟩ := c.def_ 2 (d := dd_number_of) rfl
  obtain ⟨fd_behind_number, F_behind_number⟩ := c.def_ 3 (d := dd_behind_number) rfl
  obtain ⟨fd_number_in, F_number_in⟩ := c.def_ 4 (d := dd_number_in) rfl
  obtain ⟨fd_sign_of, F_sign_of⟩ := c.def_ 5 (d := dd_sign_of) rfl
  obtain ⟨fd_text_in, F_text_in⟩ := c.def_ 6 (d := dd_text_in) rfl
  obtain ⟨fd_number_octets, F_number_octets⟩ := c.def_ 7 (d := dd_number_octets) rfl
  obtain ⟨fd_text_octets, F_text_octets⟩ := c.def_ 8 (d := dd_text_octets) rfl
  obtain ⟨fd_read_number, F_read_number⟩ := c.def_ 9 (d := dd_read_number) rfl
  obtain ⟨fd_read_text, F_read_text⟩ := c.def_ 10 (d := dd_read_text) rfl
  obtain ⟨fd_sum_of_octets, F_sum_of_octets⟩ := c.def_ 11 (d := dd_sum_of_octets) rfl
  obtain ⟨fd_law_deal, F_law_deal⟩ := c.def_ 12 (d := dd_law_deal) rfl
  obtain ⟨fd_law_any, F_law_any⟩ := c.def_ 13 (d := dd_law_any) rfl
  obtain ⟨fd_law_wide, F_law_wide⟩ := c.def_ 14 (d := dd_law_wide) rfl
  obtain ⟨fd_law_of, F_law_of⟩ := c.def_ 15 (d := dd_law_of) rfl
  obtain ⟨fd_law_is_kind, F_law_is_kind⟩ := c.def_ 16 (d := dd_law_is_kind) rfl
  obtain ⟨fd_law_same, F_law_same⟩ := c.def_ 17 (d := dd_law_same) rfl
  obtain ⟨fd_law_all, F_law_all⟩ := c.def_ 18 (d := dd_law_all) rfl
  obtain ⟨fd_law_number_octets, F_law_number_octets⟩ := c.def_ 19 (d := dd_law_number_octets) rfl
  obtain ⟨fd_law_sum, F_law_sum⟩ := c.def_ 20 (d := dd_law_sum) rfl
  obtain ⟨fd_law_body, F_law_body⟩ := c.def_ 21 (d := dd_law_body) rfl
  obtain ⟨fd_law_signs, F_law_signs⟩ := c.def_ 22 (d := dd_law_signs) rfl
  obtain ⟨fd_law_octet, F_law_octet⟩ := c.def_ 23 (d := dd_law_octet) rfl
  obtain ⟨fd_law_number_at, F_law_number_at⟩ := c.def_ 24 (d := dd_law_number_at) rfl
  obtain ⟨fd_law_some_number, F_law_some_number⟩ := c.def_ 25 (d := dd_law_some_number) rfl
  obtain ⟨fd_law_some_text, F_law_some_text⟩ := c.def_ 26 (d := dd_law_some_text) rfl
  obtain ⟨fd_law_noise, F_law_noise⟩ := c.def_ 27 (d := dd_law_noise) rfl
  obtain ⟨fd_law_text_at, F_law_text_at⟩ := c.def_ 28 (d := dd_law_text_at) rfl
  obtain ⟨fd_law, F_law⟩ := c.def_ 29 (d := dd_law) rfl
  have e := hfa.symm.trans (He.glo_ok X G (c.fact 29 (f := .glo "law") rfl))
  cases e
  have b := FunD.bindsA (ps := ["script"]) F_law fun _ _ _ _ _ _ us hl => match us, hl with | [_], _ => rfl
  refine ⟨fd_law, fun s v => b s [v] rfl, fun base _ _ => ?_⟩
  have C_octets_of_number := ok_octets_of_number (P := P) (w := w) (base := base) T  F_octets_of_number (He.glo_ok X G (c.fact 0 (f := .glo "octets_of_number") rfl))
  have C_number_of := ok_number_of (P := P) (w := w) (base := base) T  F_number_of (He.glo_ok X G (c.fact 2 (f := .glo "number_of") rfl))
  have C_behind_number := ok_behind_number (P := P) (w := w) (base := base) T  F_behind_number (He.glo_ok X G (c.fact 3 (f := .glo "behind_number") rfl))
  have C_sign_of := ok_sign_of (P := P) (w := w) (base := base) T  F_sign_of (He.glo_ok X G (c.fact 5 (f := .glo "sign_of") rfl))
  have C_sum_of_octets := ok_sum_of_octets (P := P) (w := w) (base := base) T  F_sum_of_octets (He.glo_ok X G (c.fact 11 (f := .glo "sum_of_octets") rfl))
  have B_sum_of_octets_octets := okK_sum_of_octets_octets (P := P) (w := w) (base := base) T  F_sum_of_octets (He.glo_ok X G (c.fact 11 (f := .glo "sum_of_octets") rfl))
  have C_law_deal := ok_law_deal (P := P) (w := w) (base := base) T  F_law_deal (He.glo_ok X G (c.fact 12 (f := .glo "_law_deal") rfl))
  have C_law_any := ok_law_any (P := P) (w := w) (base := base) T  F_law_any (He.glo_ok X G (c.fact 13 (f := .glo "_law_any") rfl))
  have C_law_is_kind := ok_law_is_kind (P := P) (w := w) (base := base) T  F_law_is_kind (He.glo_ok X G (c.fact 16 (f := .glo "_law_is_kind") rfl))
  have C_law_number_octets := ok_law_number_octets (P := P) (w := w) (base := base) T  F_law_number_octets (He.glo_ok X G (c.fact 19 (f := .glo "_law_number_octets") rfl))
  have C_law_sum := ok_law_sum (P := P) (w := w) (base := base) T  F_law_sum (He.glo_ok X G (c.fact 20 (f := .glo "_law_sum") rfl))
  have C_law_signs := ok_law_signs (P := P) (w := w) (base := base) T  F_law_signs (He.glo_ok X G (c.fact 22 (f := .glo "_law_signs") rfl))
  have C_law_number_at := ok_law_number_at (P := P) (w := w) (base := base) T  F_law_number_at (He.glo_ok X G (c.fact 24 (f := .glo "_law_number_at") rfl))
  have C_octets_of_text := ok_octets_of_text (P := P) (w := w) (base := base) T C_octets_of_number F_octets_of_text (He.glo_ok X G (c.fact 1 (f := .glo "octets_of_text") rfl))
  have C_number_in := ok_number_in (P := P) (w := w) (base := base) T C_behind_number C_number_of F_number_in (He.glo_ok X G (c.fact 4 (f := .glo "number_in") rfl))
  have C_number_octets := ok_number_octets (P := P) (w := w) (base := base) T C_octets_of_number F_number_octets (He.glo_ok X G (c.fact 7 (f := .glo "number_octets") rfl))
  have B_number_octets_number := okK_number_octets_number (P := P) (w := w) (base := base) T C_octets_of_number F_number_octets (He.glo_ok X G (c.fact 7 (f := .glo "number_octets") rfl))
  have C_law_wide := ok_law_wide (P := P) (w := w) (base := base) T C_law_any F_law_wide (He.glo_ok X G (c.fact 14 (f := .glo "_law_wide") rfl))
  have C_law_of := ok_law_of (P := P) (w := w) (base := base) T C_law_any F_law_of (He.glo_ok X G (c.fact 15 (f := .glo "_law_of") rfl))
  have C_law_same := ok_law_same (P := P) (w := w) (base := base) T C_law_is_kind F_law_same (He.glo_ok X G (c.fact 17 (f := .glo "_law_same") rfl))
  have C_law_body := ok_law_body (P := P) (w := w) (base := base) T C_law_number_octets F_law_body (He.glo_ok X G (c.fact 21 (f := .glo "_law_body") rfl))
  have C_law_text_at := ok_law_text_at (P := P) (w := w) (base := base) T C_law_number_at C_law_signs F_law_text_at (He.glo_ok X G (c.fact 28 (f := .glo "_law_text_at") rfl))
  have C_text_in := ok_text_in (P := P) (w := w) (base := base) T C_number_in C_sign_of F_text_in (He.glo_ok X G (c.fact 6 (f := .glo "text_in") rfl))
  have C_text_octets := ok_text_octets (P := P) (w := w) (base := base) T C_octets_of_text F_text_octets (He.glo_ok X G (c.fact 8 (f := .glo "text_octets") rfl))
  have B_text_octets_text := okK_text_octets_text (P := P) (w := w) (base := base) T C_octets_of_text F_text_octets (He.glo_ok X G (c.fact 8 (f := .glo "text_octets") rfl))
  have C_read_number := ok_read_number (P := P) (w := w) (base := base) T C_number_in F_read_number (He.glo_ok X G (c.fact 9 (f := .glo "read_number") rfl))
  have C_law_all := ok_law_all (P := P) (w := w) (base := base) T C_law_same F_law_all (He.glo_ok X G (c.fact 18 (f := .glo "_law_all") rfl))
  have C_law_octet := ok_law_octet (P := P) (w := w) (base := base) T C_law_of C_law_any F_law_octet (He.glo_ok X G (c.fact 23 (f := .glo "_law_octet") rfl))
  have C_law_some_number := ok_law_some_number (P := P) (w := w) (base := base) T C_law_of C_law_any C_law_wide F_law_some_number (He.glo_ok X G (c.fact 25 (f := .glo "_law_some_number") rfl))
  have C_law_some_text := ok_law_some_text (P := P) (w := w) (base := base) T C_law_signs C_law_of C_law_any F_law_some_text (He.glo_ok X G (c.fact 26 (f := .glo "_law_some_text") rfl))
  have C_read_text := ok_read_text (P := P) (w := w) (base := base) T C_text_in F_read_text (He.glo_ok X G (c.fact 10 (f := .glo "read_text") rfl))
  have B_read_text_octets_at := okK_read_text_octets_at (P := P) (w := w) (base := base) T C_text_in F_read_text (He.glo_ok X G (c.fact 10 (f := .glo "read_text") rfl))
  have C_law_noise := ok_law_noise (P := P) (w := w) (base := base) T C_law_octet C_law_any F_law_noise (He.glo_ok X G (c.fact 27 (f := .glo "_law_noise") rfl))
  exact F_law.ok sc_law (fun vs H Q E h => keeps_len kp_law h) (fun cdv A outer s H vs Q E hr h => ⟨liftS K t_law, PSs.nox (d_law T C_law_deal C_law_all C_law_number_octets C_law_some_text C_law_body C_law_any C_law_noise C_law_some_number C_sum_of_octets C_read_number C_read_text C_law_of C_law_sum C_number_octets C_text_octets C_law_number_at C_law_text_at C_law_octet B_number_octets_number B_read_text_octets_at B_sum_of_octets_octets B_text_octets_text hr).pss, keeps_use (N := N_law) kp_law h⟩)
end Tk81
end L2.DL
open PySem PySem.W PySem.Calls PyProof.Rows
theorem PySem.Challenge.cw_ownrules_k81_numbers_and_texts_have_octe_holds : PySem.Challenge.rw_ownrules_k81_numbers_and_texts_have_octe.Holds := by
  w_on; o_law
  refine HandSHeadRun.head_any (r := OpenLaw.row PySem.Challenge.rw_ownrules_k81_numbers_and_texts_have_octe) (q := view (OpenLaw.row PySem.Challenge.rw_ownrules_k81_numbers_and_texts_have_octe).prog [38]) (H := L2.DL.Tk81.hk) (ob := L2.DL.Tk81.ob) (M := 4000) (loose := L2.DL.Tk81.loose) (d := HandSHeadRun.topDef (OpenLaw.row PySem.Challenge.rw_ownrules_k81_numbers_and_texts_have_octe).prog 38) (kwd := []) L2.DL.Tk81.ob_eq
    (by kernel_rfl) (fun s => by kernel_rfl) L2.DL.Tk81.run (by kernel_rfl) (by kernel_rfl) (by kernel_rfl) (by rfl) (by first | assumption | decide +kernel) (by decide +kernel) ⟨rfl, rfl, rfl, rfl, rfl, by decide +kernel⟩ ?hw ?hc
  case hw => w_witness2
  case hc =>
    refine L2.walk_ofE (l := PySem.Challenge.rw_ownrules_k81_numbers_and_texts_have_octe) (n := 63) (k := 5) (x := "script") (CX := L2.CX0) rfl (by decide) (by kernel_rfl) ⟨rfl, by decide, by decide⟩ ?F (fun _ _ _ _ z => z)
    intro w mg fa h Y G hmg0
    obtain ⟨K, KX, c⟩ := Y
    have hmg : mg ("law" : PySem.Str) = some (.ref fa) := by
      have e : (HandSHeadRun.topDef (OpenLaw.row PySem.Challenge.rw_ownrules_k81_numbers_and_texts_have_octe).prog 38).name = ("law" : PySem.Str) := by kernel_rfl
      rw [← e]
      exact hmg0
    obtain ⟨fd, hb, hF⟩ := L2.DL.Tk81.facts (P := (PySem.Challenge.rw_ownrules_k81_numbers_and_texts_have_octe).prog) (w := w) KX G hmg c
    exact ⟨K, fd, L2.DL.liftSp K L2.DL.S_law, KX, hb, fun H a ns hl _ hS => L2.DL.law_in hl hS L2.DL.law_spec, hF⟩
