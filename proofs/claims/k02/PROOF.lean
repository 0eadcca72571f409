import PyProof.Rows.All
import Wide.All
import OpenK.AllK
import Wide.FinOn
import HandS.ForMost
import HandS.Iter
import HandS.Deep
import HandS.TupAny
import HandS.Wide
import HandS.SetKeys
import HandS.DictComp
import HandS.SortOrd
import HandS.SortInts
import HandS.Zip
import HandS.IsInst
import HandS.Codes
import HandS.Conv
import HandS.Style
import HandS.TupMul
import HandS.More
import HandS.Defaults
import KE.GoesMore
import HandS.SetFor
import HandS.SetBool
import HandS.Head0
import HandS.Head1
import HandS.Head2
import HandS.HeadEnd
import HandS.HeadHook1
import HandS.HeadHook2
import PySem.Challenge.RW_ownrules_k02_terms_are_built_and_parted
set_option Elab.async false
set_option linter.all false
set_option maxRecDepth 100000
set_option maxHeartbeats 4000000
/-! A data layer over the hand layer: values as plain data, tuples by value; lists and dicts by their address in a small store. -/
namespace L2.DL
open PySem PySem.Spec PyProof.Rows

/-- plain data -/
inductive D where
  | non | bl (b : Bool) | int (i : Int) | str (x : Str) | ty (n : String) | ref (a : Addr) | tup (xs : List D)
/-- what stands at a known address -/
inductive Ob where
  | lst (xs : List D)
  | rol (xs : List D)
  | dic (kvs : List (Key × D))
  | rod (kvs : List (Key × D))
  | raw (o : HO)
abbrev Sto := Addr → Option Ob
noncomputable def put (st : Sto) (a : Addr) (o : Ob) : Sto := fun b => if b = a then some o else st b
theorem put_same {st : Sto} {a : Addr} {o : Ob} : put st a o a = some o := by unfold put; rw [if_pos rfl]
theorem put_ne {st : Sto} {a b : Addr} {o : Ob} (h : b ≠ a) : put st a o b = st b := by unfold put; rw [if_neg h]
theorem put_put {st : Sto} {a : Addr} {o u : Ob} : put (put st a o) a u = put st a u := by
  funext b; unfold put; split <;> rfl

mutual
inductive RelD (K : PySem.W.Frag) (H : Hp) : D → V → Prop
  | non : RelD K H .non .non
  | bl (b : Bool) : RelD K H (.bl b) (.bl b)
  | int (i : Int) : RelD K H (.int i) (.int i)
  | str (x : Str) : RelD K H (.str x) (.str x)
  | ty (n : String) : RelD K H (.ty n) (.ty n)
  | ref (a : Addr) : RelD K H (.ref a) (.ref a)
  | tup {a : Addr} {vs : List V} {ds : List D} : SqT K H a vs → RelDs K H ds vs → RelD K H (.tup ds) (.ref a)
inductive RelDs (K : PySem.W.Frag) (H : Hp) : List D → List V → Prop
  | nil : RelDs K H [] []
  | cons {d : D} {v : V} {ds : List D} {vs : List V} : RelD K H d v → RelDs K H ds vs → RelDs K H (d :: ds) (v :: vs)
end

/-- tuples stay -/
def ExtT (H H' : Hp) : Prop := ∀ a xs, Rd H a (.tup xs) → Rd H' a (.tup xs)
/-- tuples stay, and what is locked -/
structure Ext (H H' : Hp) : Prop where
  t : ExtT H H'
  f : ∀ a o u, H a = some (.frz o u) → H' a = some (.frz o u)
theorem ExtT.sqT {K : PySem.W.Frag} {H H' : Hp} (e : ExtT H H') {a : Addr} {xs : List V} (h : SqT K H a xs) : SqT K H' a xs := by
  rcases h with h | h
  · exact .inl (e _ _ h)
  · exact .inr h
theorem Ext.refl {H : Hp} : Ext H H := ⟨fun _ _ h => h, fun _ _ _ h => h⟩
theorem Ext.trans {H H1 H2 : Hp} (a : Ext H H1) (b : Ext H1 H2) : Ext H H2 := ⟨fun _ _ h => b.t _ _ (a.t _ _ h), fun _ _ _ h => b.f _ _ _ (a.f _ _ _ h)⟩
theorem Ext.sqT {K : PySem.W.Frag} {H H' : Hp} (e : Ext H H') {a : Addr} {xs : List V} (h : SqT K H a xs) : SqT K H' a xs := e.t.sqT h
theorem Ext.upd_new {H : Hp} {p : Addr} {o : HO} (h : H p = none) : Ext H (upd H p o) := ⟨fun a xs r => by
  have ne : a ≠ p := by
    rintro rfl
    rcases r with r | ⟨_, r⟩ <;> rw [h] at r <;> cases r
  rcases r with r | ⟨u, r⟩
  · exact .inl (by rw [upd_ne ne]; exact r)
  · exact .inr ⟨u, by rw [upd_ne ne]; exact r⟩, fun a o u e => by rw [upd_ne (ne_of_none e h)]; exact e⟩
theorem Ext.upd_mut {H : Hp} {p : Addr} {o : HO} (h : Mut (H p)) : Ext H (upd H p o) := ⟨fun a xs r => by
  have ne : a ≠ p := by
    rintro rfl
    rcases r with r | ⟨_, r⟩ <;> rw [r] at h <;> exact h
  rcases r with r | ⟨u, r⟩
  · exact .inl (by rw [upd_ne ne]; exact r)
  · exact .inr ⟨u, by rw [upd_ne ne]; exact r⟩, fun a o u e => by
    have ne : a ≠ p := by
      rintro rfl
      rw [e] at h; exact h
    rw [upd_ne ne]; exact e⟩
mutual
theorem RelD.monoT {K : PySem.W.Frag} {H H' : Hp} (e : ExtT H H') : ∀ {d : D} {v : V}, RelD K H d v → RelD K H' d v
  | _, _, .non => .non
  | _, _, .bl b => .bl b
  | _, _, .int i => .int i
  | _, _, .str x => .str x
  | _, _, .ty n => .ty n
  | _, _, .ref a => .ref a
  | _, _, .tup h r => .tup (e.sqT h) (RelDs.monoT e r)
theorem RelDs.monoT {K : PySem.W.Frag} {H H' : Hp} (e : ExtT H H') : ∀ {ds : List D} {vs : List V}, RelDs K H ds vs → RelDs K H' ds vs
  | _, _, .nil => .nil
  | _, _, .cons r t => .cons (RelD.monoT e r) (RelDs.monoT e t)
end
theorem RelD.mono {K : PySem.W.Frag} {H H' : Hp} (e : Ext H H') {d : D} {v : V} (r : RelD K H d v) : RelD K H' d v := r.monoT e.t
theorem RelDs.mono {K : PySem.W.Frag} {H H' : Hp} (e : Ext H H') {d : List D} {v : List V} (r : RelDs K H d v) : RelDs K H' d v := r.monoT e.t
section
variable {K : PySem.W.Frag} {H : Hp}
theorem RelDs.length : ∀ {ds : List D} {vs : List V}, RelDs K H ds vs → ds.length = vs.length
  | _, _, .nil => rfl
  | _, _, .cons _ t => by simp [RelDs.length t]
theorem RelDs.get : ∀ {ds : List D} {vs : List V} {i : Nat} {d : D}, RelDs K H ds vs → ds[i]? = some d → ∃ v, vs[i]? = some v ∧ RelD K H d v
  | _, _, _, _, .nil, e => by simp at e
  | _, _, 0, _, .cons r _, e => by simp at e; subst e; exact ⟨_, rfl, r⟩
  | _, _, i + 1, d, .cons _ t, e => by
    obtain ⟨u, h1, h2⟩ := RelDs.get (i := i) (d := d) t (by simpa using e)
    exact ⟨u, by simpa using h1, h2⟩
theorem RelDs.getV : ∀ {ds : List D} {vs : List V} {i : Nat} {v : V}, RelDs K H ds vs → vs[i]? = some v → ∃ d, ds[i]? = some d ∧ RelD K H d v
  | _, _, _, _, .nil, e => by simp at e
  | _, _, 0, _, .cons r _, e => by simp at e; subst e; exact ⟨_, rfl, r⟩
  | _, _, i + 1, d, .cons _ t, e => by
    obtain ⟨u, h1, h2⟩ := RelDs.getV (i := i) (v := d) t (by simpa using e)
    exact ⟨u, by simpa using h1, h2⟩
theorem RelDs.append : ∀ {ds es : List D} {vs ws : List V}, RelDs K H ds vs → RelDs K H es ws → RelDs K H (ds ++ es) (vs ++ ws)
  | _, _, _, _, .nil, s => s
  | _, _, _, _, .cons r t, s => .cons r (RelDs.append t s)
theorem RelDs.take : ∀ {ds : List D} {vs : List V} (n : Nat), RelDs K H ds vs → RelDs K H (ds.take n) (vs.take n)
  | _, _, 0, _ => by simpa using RelDs.nil
  | _, _, _ + 1, .nil => by simpa using RelDs.nil
  | _, _, n + 1, .cons r t => by simpa using RelDs.cons r (RelDs.take n t)
theorem RelDs.drop : ∀ {ds : List D} {vs : List V} (n : Nat), RelDs K H ds vs → RelDs K H (ds.drop n) (vs.drop n)
  | _, _, 0, r => r
  | _, _, _ + 1, .nil => by simpa using RelDs.nil
  | _, _, n + 1, .cons _ t => by simpa using RelDs.drop n t
theorem RelDs.set {d : D} {v : V} (r : RelD K H d v) : ∀ {ds : List D} {vs : List V} (i : Nat), RelDs K H ds vs → RelDs K H (ds.set i d) (vs.set i v)
  | _, _, _, .nil => .nil
  | _, _, 0, .cons _ t => .cons r t
  | _, _, i + 1, .cons q t => .cons q (RelDs.set r i t)
theorem RelDs.reverse {ds : List D} {vs : List V} (h : RelDs K H ds vs) : RelDs K H ds.reverse vs.reverse := by
  have go : ∀ {ds : List D} {vs : List V}, RelDs K H ds vs → ∀ {es : List D} {ws : List V}, RelDs K H es ws → RelDs K H (ds.reverse ++ es) (vs.reverse ++ ws) := by
    intro ds
    induction ds with
    | nil => intro vs h es ws h'; cases h; exact h'
    | cons d ds ih =>
      intro vs h es ws h'
      cases h with
      | cons r t =>
        simp only [List.reverse_cons, List.append_assoc]
        exact ih t (.cons r h')
  simpa using go h .nil
theorem RelDs.dropLast {ds : List D} {vs : List V} (h : RelDs K H ds vs) : RelDs K H ds.dropLast vs.dropLast := by
  rw [List.dropLast_eq_take, List.dropLast_eq_take, h.length]
  exact h.take _
theorem RelDs.ints : ∀ {ns : List Int} {vs : List V}, RelDs K H (ns.map D.int) vs → vs = ns.map V.int
  | [], _, .nil => rfl
  | n :: ns, _, .cons r t => by cases r; rw [RelDs.ints t]; rfl
theorem RelDs.of_ints : ∀ (ns : List Int), RelDs K H (ns.map D.int) (ns.map V.int)
  | [] => .nil
  | n :: ns => .cons (.int n) (RelDs.of_ints ns)
theorem RelDs.strs : ∀ {ns : List Str} {vs : List V}, RelDs K H (ns.map D.str) vs → vs = ns.map V.str
  | [], _, .nil => rfl
  | n :: ns, _, .cons r t => by cases r; rw [RelDs.strs t]; rfl
theorem RelDs.of_strs : ∀ (ns : List Str), RelDs K H (ns.map D.str) (ns.map V.str)
  | [] => .nil
  | n :: ns => .cons (.str n) (RelDs.of_strs ns)
theorem RelDs.bls : ∀ {ns : List Bool} {vs : List V}, RelDs K H (ns.map D.bl) vs → vs = ns.map V.bl
  | [], _, .nil => rfl
  | n :: ns, _, .cons r t => by cases r; rw [RelDs.bls t]; rfl
end

/-- pairs of a dict -/
inductive RelK {κ : Type} (K : PySem.W.Frag) (H : Hp) : List (κ × D) → List (κ × V) → Prop
  | nil : RelK K H [] []
  | cons {k : κ} {d : D} {v : V} {ds : List (κ × D)} {vs : List (κ × V)} : RelD K H d v → RelK K H ds vs → RelK K H ((k, d) :: ds) ((k, v) :: vs)
theorem RelK.monoT {κ : Type} {K : PySem.W.Frag} {H H' : Hp} (e : ExtT H H') : ∀ {ds : List (κ × D)} {vs : List (κ × V)}, RelK K H ds vs → RelK K H' ds vs
  | _, _, .nil => .nil
  | _, _, .cons r t => .cons (r.monoT e) (RelK.monoT e t)
theorem RelK.mono {κ : Type} {K : PySem.W.Frag} {H H' : Hp} (e : Ext H H') {ds : List (κ × D)} {vs : List (κ × V)} (r : RelK K H ds vs) : RelK K H' ds vs := r.monoT e.t
theorem RelK.keys {κ : Type} {K : PySem.W.Frag} {H : Hp} : ∀ {ds : List (κ × D)} {vs : List (κ × V)}, RelK K H ds vs → vs.map (·.1) = ds.map (·.1)
  | _, _, .nil => rfl
  | _, _, .cons r t => by simp [RelK.keys t]
theorem RelK.length {κ : Type} {K : PySem.W.Frag} {H : Hp} {ds : List (κ × D)} {vs : List (κ × V)} (h : RelK K H ds vs) : vs.length = ds.length := by
  have := congrArg List.length h.keys
  simpa using this

def RelOb (K : PySem.W.Frag) (H : Hp) (a : Addr) : Ob → Prop
  | .lst ds => ∃ vs, H a = some (.lst vs) ∧ RelDs K H ds vs
  | .rol ds => ∃ vs, SqL K H a vs ∧ RelDs K H ds vs
  | .dic kvs => ∃ ws, H a = some (.dK ws) ∧ RelK K H kvs ws
  | .rod kvs => ∃ ws u, H a = some (.frz u (.dK ws)) ∧ RelK K H kvs ws
  | .raw o => H a = some o
def RelSto (K : PySem.W.Frag) (H : Hp) (st : Sto) : Prop := ∀ a o, st a = some o → RelOb K H a o
/-- what the address holds stays, tuples stay -/
theorem RelOb.keep {K : PySem.W.Frag} {H H' : Hp} {a : Addr} {o : Ob} (h : RelOb K H a o) (e : ExtT H H') (s : ∀ u, H a = some u → H' a = some u) : RelOb K H' a o := by
  cases o with
  | lst ds => obtain ⟨vs, h1, h2⟩ := h; exact ⟨vs, s _ h1, h2.monoT e⟩
  | rol ds =>
    obtain ⟨vs, h1, h2⟩ := h
    refine ⟨vs, ?_, h2.monoT e⟩
    rcases h1 with (h1 | ⟨u, h1⟩) | h1
    · exact .inl (.inl (s _ h1))
    · exact .inl (.inr ⟨u, s _ h1⟩)
    · exact .inr h1
  | dic kvs => obtain ⟨ws, h1, h2⟩ := h; exact ⟨ws, s _ h1, h2.monoT e⟩
  | rod kvs =>
    obtain ⟨ws, u, h1, h2⟩ := h
    exact ⟨ws, u, s _ h1, h2.monoT e⟩
  | raw u => exact s _ h
/-- an object is laid anew or changed -/
theorem RelSto.put {K : PySem.W.Frag} {H : Hp} {st : Sto} {a : Addr} {o : Ob} {u : HO} (h : RelSto K H st) (e : Ext H (upd H a u)) (n : RelOb K (upd H a u) a o) : RelSto K (upd H a u) (put st a o) := fun b ob hb => by
  by_cases q : b = a
  · subst q; rw [put_same] at hb; cases hb; exact n
  · rw [put_ne q] at hb
    exact (h b ob hb).keep e.t fun v hv => by rw [upd_ne q]; exact hv
/-- a new object that is not named -/
theorem RelSto.new {K : PySem.W.Frag} {H : Hp} {st : Sto} {a : Addr} {u : HO} (h : RelSto K H st) (hn : H a = none) : RelSto K (upd H a u) st := fun b ob hb =>
  (h b ob hb).keep (Ext.upd_new hn).t fun v hv => by
    rw [upd_ne (ne_of_none hv hn)]; exact hv
/-- forgetting -/
def Sub (st st' : Sto) : Prop := ∀ a o, st a = some o → st' a = some o
theorem Sub.refl {st : Sto} : Sub st st := fun _ _ h => h
theorem Sub.trans {a b c : Sto} (h : Sub a b) (k : Sub b c) : Sub a c := fun _ _ e => k _ _ (h _ _ e)
theorem Sub.put {st st' : Sto} {a : Addr} {o : Ob} (h : Sub st st') (n : st a = none) : Sub st (put st' a o) := fun b u e => by
  rw [put_ne (by rintro rfl; rw [n] at e; cases e)]; exact h _ _ e
theorem Sub.new {st : Sto} {a : Addr} {o : Ob} (n : st a = none) : Sub st (L2.DL.put st a o) := Sub.refl.put n
theorem RelSto.sub {K : PySem.W.Frag} {H : Hp} {st st' : Sto} (h : RelSto K H st') (s : Sub st st') : RelSto K H st := fun a o e => h a o (s a o e)
/-- an address is not named, but by what is read alone -/
def Nf (st : Sto) (a : Addr) : Prop := st a = none ∨ ∃ xs, st a = some (.rol xs)
theorem RelSto.fresh {K : PySem.W.Frag} {H : Hp} {st : Sto} {a : Addr} (h : RelSto K H st) (hn : H a = none) : Nf st a := by
  cases e : st a with
  | none => exact .inl e
  | some o =>
    have q := h a o e
    cases o with
    | lst ds => obtain ⟨vs, h1, _⟩ := q; rw [hn] at h1; cases h1
    | rol ds => exact .inr ⟨ds, e⟩
    | dic kvs => obtain ⟨ws, h1, _⟩ := q; rw [hn] at h1; cases h1
    | rod kvs =>
      obtain ⟨ws, u, h1, _⟩ := q
      rw [hn] at h1; cases h1
    | raw u => have h1 : H a = some u := q; rw [hn] at h1; cases h1
/-- a list that is read -/
def rdL : Option Ob → Option (List D)
  | some (.lst xs) => some xs
  | some (.rol xs) => some xs
  | _ => none
theorem RelSto.rdL {K : PySem.W.Frag} {H : Hp} {st : Sto} {a : Addr} {ds : List D} (h : RelSto K H st) (e : rdL (st a) = some ds) : ∃ vs, SqL K H a vs ∧ RelDs K H ds vs := by
  cases q : st a with
  | none => rw [q] at e; cases e
  | some o =>
    rw [q] at e
    have r := h a o q
    cases o with
    | lst xs => cases e; obtain ⟨vs, h1, h2⟩ := r; exact ⟨vs, .of h1, h2⟩
    | rol xs => cases e; obtain ⟨vs, h1, h2⟩ := r; exact ⟨vs, h1, h2⟩
    | dic kvs => cases e
    | rod kvs => cases e
    | raw u => cases e
/-- a dict that is read -/
def rdD : Option Ob → Option (List (Key × D))
  | some (.dic kvs) => some kvs
  | some (.rod kvs) => some kvs
  | _ => none
theorem RelSto.rdD {K : PySem.W.Frag} {H : Hp} {st : Sto} {a : Addr} {ds : List (Key × D)} (h : RelSto K H st) (e : rdD (st a) = some ds) : ∃ vs, Rd H a (.dK vs) ∧ RelK K H ds vs := by
  cases q : st a with
  | none => rw [q] at e; cases e
  | some o =>
    rw [q] at e
    have r := h a o q
    cases o with
    | lst xs => cases e
    | rol xs => cases e
    | dic kvs => cases e; obtain ⟨vs, h1, h2⟩ := r; exact ⟨vs, .of h1, h2⟩
    | rod kvs => cases e; obtain ⟨vs, u, h1, h2⟩ := r; exact ⟨vs, .inr ⟨u, h1⟩, h2⟩
    | raw u => cases e
end L2.DL

namespace L2.DL
open PySem PySem.Spec PyProof.Rows

abbrev Env := List (Option D)
abbrev DK := D → Sto → Prop
abbrev ME := Env → Sto → DK → Prop
abbrev MT := Env → Sto → (Bool → Sto → Prop) → Prop
abbrev MA := Env → Sto → (List D → Sto → Prop) → Prop
structure DEnds where
  nx : Env → Sto → Prop
  rt : DK
  bk : Env → Sto → Prop := fun _ _ => False
  ct : Env → Sto → Prop := fun _ _ => False
abbrev MS := DEnds → Env → Sto → Prop

def RelX (K : PySem.W.Frag) (H : Hp) : Option D → Option V → Prop
  | some d, some v => RelD K H d v
  | some _, none => False
  | none, _ => True
/-- slots: what is told of them -/
inductive RelE (K : PySem.W.Frag) (H : Hp) : Env → St → Prop
  | nil : RelE K H [] []
  | cons {d : Option D} {v : Option V} {env : Env} {σ : St} : RelX K H d v → RelE K H env σ → RelE K H (d :: env) (v :: σ)
section
variable {K : PySem.W.Frag} {H H' : Hp}
theorem RelX.mono (e : Ext H H') : ∀ {d : Option D} {v : Option V}, RelX K H d v → RelX K H' d v
  | some _, some _, h => RelD.mono e h
  | some _, none, h => h
  | none, _, _ => trivial
theorem RelE.mono (e : Ext H H') : ∀ {env : Env} {σ : St}, RelE K H env σ → RelE K H' env σ
  | _, _, .nil => .nil
  | _, _, .cons r t => .cons (r.mono e) (RelE.mono e t)
theorem RelE.get : ∀ {env : Env} {σ : St} {i : Nat} {d : D}, RelE K H env σ → env[i]? = some (some d) → ∃ v, σ[i]? = some (some v) ∧ RelD K H d v
  | _, _, _, _, .nil, e => by simp at e
  | _, _, 0, d, .cons (v := v) r _, e => by
    simp at e; subst e
    cases v with
    | none => exact r.elim
    | some v => exact ⟨v, rfl, r⟩
  | _, _, i + 1, d, .cons _ t, e => by
    obtain ⟨u, h1, h2⟩ := RelE.get (i := i) (d := d) t (by simpa using e)
    exact ⟨u, by simpa using h1, h2⟩
theorem RelE.set {d : D} {v : V} (r : RelD K H d v) : ∀ {env : Env} {σ : St} (i : Nat), RelE K H env σ → RelE K H (env.set i (some d)) (σ.set i (some v))
  | _, _, _, .nil => .nil
  | _, _, 0, .cons _ t => .cons r t
  | _, _, i + 1, .cons q t => .cons q (RelE.set r i t)
theorem RelE.forget : ∀ {env : Env} {σ : St} (i : Nat), RelE K H env σ → RelE K H (env.set i none) (σ.set i none)
  | _, _, _, .nil => .nil
  | _, _, 0, .cons _ t => .cons trivial t
  | _, _, i + 1, .cons q t => .cons q (RelE.forget i t)
theorem RelE.start (N : List Str) {ds : List D} {vs : List V} (h : RelDs K H ds vs) : RelE K H (ds.map some ++ List.replicate (N.length - ds.length) none) (start N vs) := by
  unfold L2.start
  rw [h.length]
  generalize N.length - vs.length = n
  induction ds generalizing vs with
  | nil =>
    cases h
    induction n with
    | zero => exact .nil
    | succ n ih => exact .cons trivial ih
  | cons d ds ih =>
    cases h with
    | cons r t => exact .cons r (ih t)
end
def wipeE (env : Env) : List Nat → Env
  | [] => env
  | v :: vs => (wipeE env vs).set v none
theorem RelE.wipe {K : PySem.W.Frag} {H : Hp} {env : Env} {σ : St} (h : RelE K H env σ) : ∀ vs : List Nat, RelE K H (wipeE env vs) (wipe σ vs)
  | [] => h
  | v :: vs => (RelE.wipe h vs).forget v

/-! ### from data readings to the hand layer's -/
def lift (K : PySem.W.Frag) (m : ME) : TE := fun σ H Q' => ∃ env st Q, RelE K H env σ ∧ RelSto K H st ∧ m env st Q ∧
  ∀ d st' v H', Q d st' → Ext H H' → RelD K H' d v → RelSto K H' st' → Q' v H'
def liftT (K : PySem.W.Frag) (m : MT) : TT := fun σ H Q' => ∃ env st Q, RelE K H env σ ∧ RelSto K H st ∧ m env st Q ∧
  ∀ b st' H', Q b st' → Ext H H' → RelSto K H' st' → Q' b H'
def liftA (K : PySem.W.Frag) (m : MA) : TA := fun σ H Q' => ∃ env st Q, RelE K H env σ ∧ RelSto K H st ∧ m env st Q ∧
  ∀ ds st' vs H', Q ds st' → Ext H H' → RelDs K H' ds vs → RelSto K H' st' → Q' vs H'
def liftS (K : PySem.W.Frag) (m : MS) : TS := fun D' σ H => ∃ env st D, RelE K H env σ ∧ RelSto K H st ∧ m D env st ∧
  (∀ env' st' σ' H', D.nx env' st' → Ext H H' → RelE K H' env' σ' → RelSto K H' st' → D'.nx σ' H') ∧
  (∀ d st' v H', D.rt d st' → Ext H H' → RelD K H' d v → RelSto K H' st' → D'.rt v H') ∧
  (∀ env' st' σ' H', D.bk env' st' → Ext H H' → RelE K H' env' σ' → RelSto K H' st' → D'.bk σ' H') ∧
  (∀ env' st' σ' H', D.ct env' st' → Ext H H' → RelE K H' env' σ' → RelSto K H' st' → D'.ct σ' H')
/-- two-place operations by values -/
abbrev M2 := D → D → Sto → DK → Prop
def lift2 (K : PySem.W.Frag) (r : M2) : R2 := fun x y H Q' => ∃ dx dy st Q, RelD K H dx x ∧ RelD K H dy y ∧ RelSto K H st ∧ r dx dy st Q ∧
  ∀ d st' v H', Q d st' → Ext H H' → RelD K H' d v → RelSto K H' st' → Q' v H'
/-- calls by values -/
abbrev MC := List D → Sto → DK → Prop
def liftC (K : PySem.W.Frag) (r : MC) : List V → Hp → VK → Prop := fun xs H Q' => ∃ ds st Q, RelDs K H ds xs ∧ RelSto K H st ∧ r ds st Q ∧
  ∀ d st' v H', Q d st' → Ext H H' → RelD K H' d v → RelSto K H' st' → Q' v H'

structure DE (X : Cx) (e : Expr) (m : ME) : Prop where
  pe : PE X e (lift X.K m)
structure DT (X : Cx) (e : Expr) (m : MT) : Prop where
  pt : PT X e (liftT X.K m)
structure DW (X : Cx) (e : Expr) (m : MT) : Prop where
  pw : PW X e (liftT X.K m)
structure DA (X : Cx) (es : List Expr) (m : MA) : Prop where
  pa : PA X es (liftA X.K m)
structure DS (X : Cx) (st : Stmt) (m : MS) : Prop where
  ps : PS X st (liftS X.K m)
structure DSs (X : Cx) (st : List Stmt) (m : MS) : Prop where
  pss : PSs X st (liftS X.K m)
structure DO2 (X : Cx) (f : Value → Value → Sem Value) (r : M2) : Prop where
  op : OpR X f (lift2 X.K r)
structure DC (X : Cx) (f : Value) (r : MC) : Prop where
  call : CallR X f (liftC X.K r)

theorem pe_mono {X : Cx} {e : Expr} {t t' : TE} (h : PE X e t) (k : ∀ σ H Q, t' σ H Q → t σ H Q) : PE X e t' := ⟨fun pins s σ H Q I hw => h.run pins s σ H Q I (k _ _ _ hw)⟩
theorem pt_mono {X : Cx} {e : Expr} {t t' : TT} (h : PT X e t) (k : ∀ σ H Q, t' σ H Q → t σ H Q) : PT X e t' := ⟨fun pins s σ H Q I hw => h.run pins s σ H Q I (k _ _ _ hw)⟩
theorem pw_mono {X : Cx} {e : Expr} {t t' : TT} (h : PW X e t) (k : ∀ σ H Q, t' σ H Q → t σ H Q) : PW X e t' := ⟨fun wh pins s σ H Q I hw => h.run wh pins s σ H Q I (k _ _ _ hw)⟩
theorem pa_mono {X : Cx} {e : List Expr} {t t' : TA} (h : PA X e t) (k : ∀ σ H Q, t' σ H Q → t σ H Q) : PA X e t' := ⟨fun pos pins s σ H Q I hw => h.run pos pins s σ H Q I (k _ _ _ hw)⟩
theorem ps_mono {X : Cx} {e : Stmt} {t t' : TS} (h : PS X e t) (k : ∀ D σ H, t' D σ H → t D σ H) : PS X e t' := ⟨fun pins s σ H D I hw => h.run pins s σ H D I (k _ _ _ hw)⟩
theorem pss_mono {X : Cx} {e : List Stmt} {t t' : TS} (h : PSs X e t) (k : ∀ D σ H, t' D σ H → t D σ H) : PSs X e t' := ⟨fun pins s σ H D I hw => h.run pins s σ H D I (k _ _ _ hw)⟩

/-- into a lift -/
theorem lift_in {K : PySem.W.Frag} {m : ME} {env : Env} {st : Sto} {σ : St} {H : Hp} {Q : DK} {Q' : VK} (re : RelE K H env σ) (rs : RelSto K H st) (h : m env st Q)
    (k : ∀ d st' v H', Q d st' → Ext H H' → RelD K H' d v → RelE K H' env σ → RelSto K H' st' → Q' v H') : lift K m σ H Q' :=
  ⟨env, st, Q, re, rs, h, fun d st' v H' q e r s => k d st' v H' q e r (re.mono e) s⟩
theorem liftT_in {K : PySem.W.Frag} {m : MT} {env : Env} {st : Sto} {σ : St} {H : Hp} {Q : Bool → Sto → Prop} {Q' : Bool → Hp → Prop} (re : RelE K H env σ) (rs : RelSto K H st) (h : m env st Q)
    (k : ∀ b st' H', Q b st' → Ext H H' → RelE K H' env σ → RelSto K H' st' → Q' b H') : liftT K m σ H Q' :=
  ⟨env, st, Q, re, rs, h, fun b st' H' q e s => k b st' H' q e (re.mono e) s⟩
theorem liftA_in {K : PySem.W.Frag} {m : MA} {env : Env} {st : Sto} {σ : St} {H : Hp} {Q : List D → Sto → Prop} {Q' : List V → Hp → Prop} (re : RelE K H env σ) (rs : RelSto K H st) (h : m env st Q)
    (k : ∀ ds st' vs H', Q ds st' → Ext H H' → RelDs K H' ds vs → RelE K H' env σ → RelSto K H' st' → Q' vs H') : liftA K m σ H Q' :=
  ⟨env, st, Q, re, rs, h, fun d st' v H' q e r s => k d st' v H' q e r (re.mono e) s⟩

/-! ### names, constants -/
def mVar (i : Nat) : ME := fun env st Q => ∃ d, env[i]? = some (some d) ∧ Q d st
def mC (d : D) : ME := fun _ st Q => Q d st
section
variable {X : Cx} {a b e : Expr} {es : List Expr} {ma mb m : ME} {pos : Pos}
theorem de_var {i : Nat} {x : Str} (hN : X.N[i]? = some x) (hv : Vis X.env.scope x) (hd : (x == ("__debug__" : Str)) = false := by decide) (hcd : (x == ("__classdict__" : Str)) = false := by decide) : DE X (.Name x pos) (mVar i) :=
  ⟨pe_mono (pe_var hN hv hd hcd) fun σ H Q ⟨env, st, Q0, re, rs, ⟨d, e, h⟩, k⟩ => by
    obtain ⟨v, e1, r⟩ := re.get e
    exact ⟨v, e1, k d st v H h .refl r rs⟩⟩
theorem de_int {i : Int} {j pos} : DE X (.Constant (.int i) j pos) (mC (.int i)) := ⟨pe_mono pe_int fun σ H Q ⟨env, st, Q0, re, rs, h, k⟩ => k _ st _ H h .refl (.int i) rs⟩
theorem de_bl {b : Bool} {j pos} : DE X (.Constant (.bool b) j pos) (mC (.bl b)) := ⟨pe_mono pe_bl fun σ H Q ⟨env, st, Q0, re, rs, h, k⟩ => k _ st _ H h .refl (.bl b) rs⟩
theorem de_non {j pos} : DE X (.Constant .none j pos) (mC .non) := ⟨pe_mono pe_non fun σ H Q ⟨env, st, Q0, re, rs, h, k⟩ => k _ st _ H h .refl .non rs⟩
theorem de_str {x : Str} {j pos} : DE X (.Constant (.str x) j pos) (mC (.str x)) := ⟨pe_mono pe_str fun σ H Q ⟨env, st, Q0, re, rs, h, k⟩ => k _ st _ H h .refl (.str x) rs⟩
/-- a constant of the module: an int, a text -/
theorem de_glob {x : Str} {v : V} {d : D} {u : Value} (hg : Gl X x) (hm : X.mg x = some u) (r : RelV v u) (rd : ∀ H, RelD X.K H d v) (hd : (x == ("__debug__" : Str)) = false := by decide) : DE X (.Name x pos) (mC d) :=
  ⟨pe_mono (pe_glob hg hm r hd) fun σ H Q ⟨env, st, Q0, re, rs, h, k⟩ => k _ st _ H h .refl (rd H) rs⟩
theorem de_bltn {x : Str} {n : String} (hg : Gl X x) (hm : X.mg x = none) (hv : bootBuiltins x = some (.type n)) (hn : x ≠ "__name__" := by decide) (hd : (x == ("__debug__" : Str)) = false := by decide) : DE X (.Name x pos) (mC (.ty n)) :=
  ⟨pe_mono (pe_bltn (v := .ty n) hg hm hv rfl hn hd) fun σ H Q ⟨env, st, Q0, re, rs, h, k⟩ => k _ st _ H h .refl (.ty n) rs⟩

/-! ### operators -/
def mBin (r : M2) (ma mb : ME) : ME := fun env st Q => ma env st fun x st1 => mb env st1 fun y st2 => r x y st2 Q
theorem lift_bin {K : PySem.W.Frag} {r : M2} {σ : St} {H : Hp} {Q : VK} (h : lift K (mBin r ma mb) σ H Q) : tOp (lift2 K r) (lift K ma) (lift K mb) σ H Q := by
  obtain ⟨env, st, Q0, re, rs, h, k⟩ := h
  refine lift_in re rs h fun x st1 x' H1 q1 e1 rx re1 rs1 => ?_
  refine lift_in re1 rs1 q1 fun y st2 y' H2 q2 e2 ry re2 rs2 => ?_
  exact ⟨x, y, st2, Q0, rx.mono e2, ry, rs2, q2, fun d st' v H' q e r s => k d st' v H' q (e1.trans (e2.trans e)) r s⟩
theorem de_bin {op : Operator} {r : M2} (ho : DO2 X (binaryOp op) r) (ha : DE X a ma) (hb : DE X b mb) : DE X (.BinOp a op b pos) (mBin r ma mb) :=
  ⟨pe_mono (pe_op ho.op ha.pe hb.pe) fun _ _ _ => lift_bin⟩
theorem de_cmp {op : CmpOp} {r : M2} (ho : DO2 X (compareOp op) r) (ha : DE X a ma) (hb : DE X b mb) (hm : behindInMarks op b = false) : DE X (.Compare a [op] [b] pos) (mBin r ma mb) :=
  ⟨pe_mono (pe_cmpR ho.op ha.pe hb.pe hm) fun _ _ _ => lift_bin⟩
/-- a value that is a bool, as a test -/
def mTest (m : ME) : MT := fun env st Q => m env st fun x st1 => ∃ k, x = .bl k ∧ Q k st1
theorem RelD.bl_of {K : PySem.W.Frag} {H : Hp} {k : Bool} {v : V} (r : RelD K H (.bl k) v) : v = .bl k := by cases r; rfl
theorem RelD.int_of {K : PySem.W.Frag} {H : Hp} {k : Int} {v : V} (r : RelD K H (.int k) v) : v = .int k := by cases r; rfl
theorem RelD.str_of {K : PySem.W.Frag} {H : Hp} {k : Str} {v : V} (r : RelD K H (.str k) v) : v = .str k := by cases r; rfl
theorem RelD.ref_of {K : PySem.W.Frag} {H : Hp} {k : Addr} {v : V} (r : RelD K H (.ref k) v) : v = .ref k := by cases r; rfl
theorem RelD.non_of {K : PySem.W.Frag} {H : Hp} {v : V} (r : RelD K H .non v) : v = .non := by cases r; rfl
theorem RelD.ty_of {K : PySem.W.Frag} {H : Hp} {n : String} {v : V} (r : RelD K H (.ty n) v) : v = .ty n := by cases r; rfl
theorem RelD.tup_of {K : PySem.W.Frag} {H : Hp} {ds : List D} {v : V} (r : RelD K H (.tup ds) v) : ∃ a vs, v = .ref a ∧ SqT K H a vs ∧ RelDs K H ds vs := by
  cases r with
  | tup h t => exact ⟨_, _, rfl, h, t⟩
theorem dt_cmp {op : CmpOp} {r : M2} (ho : DO2 X (compareOp op) r) (ha : DE X a ma) (hb : DE X b mb) (hm : behindInMarks op b = false) : DT X (.Compare a [op] [b] pos) (mTest (mBin r ma mb)) :=
  ⟨pt_mono (pt_cmpR ho.op ha.pe hb.pe hm) fun σ H Q ⟨env, st, Q0, re, rs, h, k⟩ => by
    refine lift_bin ⟨env, st, _, re, rs, h, fun d st' v H' ⟨c, e, q⟩ ex r s => ?_⟩
    subst e
    exact ⟨c, r.bl_of, k c st' H' q ex s⟩⟩
theorem dt_val (ha : DE X a ma) (he : ∀ whole, isTrue a X.env whole = (do let v ← whole; standAt a.pos; holding [v] (truthy v)) := by intro _; rfl) : DT X a (mTest ma) :=
  ⟨pt_mono (pt_val ha.pe he) fun σ H Q ⟨env, st, Q0, re, rs, h, k⟩ => ⟨env, st, _, re, rs, h, fun d st' v H' ⟨c, e, q⟩ ex r s => by
    subst e
    exact ⟨c, r.bl_of, k c st' H' q ex s⟩⟩⟩

/-! ### and, or, not -/
variable {tA tB : MT} {rest : List Expr}
def mAnd (t u : MT) : MT := fun env st Q => t env st fun c st1 => if c = true then u env st1 Q else Q false st1
def mOr (t u : MT) : MT := fun env st Q => t env st fun c st1 => if c = true then Q true st1 else u env st1 Q
def mNot (t : MT) : MT := fun env st Q => t env st fun c st1 => Q (!c) st1
theorem dw_and1 (ha : DT X a tA) : DW X (.BoolOp .And [a] pos) tA := ⟨pw_and1 ha.pt⟩
theorem dw_or1 (ha : DT X a tA) : DW X (.BoolOp .Or [a] pos) tA := ⟨pw_or1 ha.pt⟩
theorem dw_and (ha : DT X a tA) (hb : DW X (.BoolOp .And (b :: rest) pos) tB) : DW X (.BoolOp .And (a :: b :: rest) pos) (mAnd tA tB) :=
  ⟨pw_mono (pw_and ha.pt hb.pw) fun σ H Q ⟨env, st, Q0, re, rs, h, k⟩ => by
    refine liftT_in re rs h fun c st1 H1 q e re1 rs1 => ?_
    cases c with
    | true => exact ⟨env, st1, _, re1, rs1, q, fun b st' H' q2 e2 s2 => k b st' H' q2 (e.trans e2) s2⟩
    | false => exact k false st1 H1 q e rs1⟩
theorem dw_or (ha : DT X a tA) (hb : DW X (.BoolOp .Or (b :: rest) pos) tB) : DW X (.BoolOp .Or (a :: b :: rest) pos) (mOr tA tB) :=
  ⟨pw_mono (pw_or ha.pt hb.pw) fun σ H Q ⟨env, st, Q0, re, rs, h, k⟩ => by
    refine liftT_in re rs h fun c st1 H1 q e re1 rs1 => ?_
    cases c with
    | false => exact ⟨env, st1, _, re1, rs1, q, fun b st' H' q2 e2 s2 => k b st' H' q2 (e.trans e2) s2⟩
    | true => exact k true st1 H1 q e rs1⟩
theorem DW.dt (h : DW X a tA) : DT X a tA := ⟨h.pw.pt⟩
theorem dt_not (ha : DT X a tA) : DT X (.UnaryOp .Not a pos) (mNot tA) :=
  ⟨pt_mono (pt_not ha.pt) fun σ H Q ⟨env, st, Q0, re, rs, h, k⟩ => liftT_in re rs h fun c st1 H1 q e re1 rs1 => k _ st1 H1 q e rs1⟩
/-- as values: all but the last are bools -/
def mAndV (ma mb : ME) : ME := fun env st Q => ma env st fun x st1 => ∃ c, x = .bl c ∧ if c = true then mb env st1 Q else Q (.bl false) st1
def mOrV (ma mb : ME) : ME := fun env st Q => ma env st fun x st1 => ∃ c, x = .bl c ∧ if c = true then Q (.bl true) st1 else mb env st1 Q
def mNotV (ma : ME) : ME := fun env st Q => ma env st fun x st1 => ∃ c, x = .bl c ∧ Q (.bl (!c)) st1
theorem de_one {op} (h : DE X a m) : DE X (.BoolOp op [a] pos) m := ⟨pe_one h.pe⟩
theorem de_and (ha : DE X a ma) (hb : DE X (.BoolOp .And (b :: rest) pos) mb) : DE X (.BoolOp .And (a :: b :: rest) pos) (mAndV ma mb) :=
  ⟨pe_mono (pe_and ha.pe hb.pe) fun σ H Q ⟨env, st, Q0, re, rs, h, k⟩ => by
    refine lift_in re rs h fun x st1 x' H1 q e rx re1 rs1 => ?_
    obtain ⟨c, rfl, q⟩ := q
    refine ⟨c, rx.bl_of, ?_⟩
    cases c with
    | true => exact ⟨env, st1, _, re1, rs1, q, fun d st' v H' q2 e2 r2 s2 => k d st' v H' q2 (e.trans e2) r2 s2⟩
    | false => exact k _ st1 _ H1 q e (.bl false) rs1⟩
theorem de_or (ha : DE X a ma) (hb : DE X (.BoolOp .Or (b :: rest) pos) mb) : DE X (.BoolOp .Or (a :: b :: rest) pos) (mOrV ma mb) :=
  ⟨pe_mono (pe_or ha.pe hb.pe) fun σ H Q ⟨env, st, Q0, re, rs, h, k⟩ => by
    refine lift_in re rs h fun x st1 x' H1 q e rx re1 rs1 => ?_
    obtain ⟨c, rfl, q⟩ := q
    refine ⟨c, rx.bl_of, ?_⟩
    cases c with
    | false => exact ⟨env, st1, _, re1, rs1, q, fun d st' v H' q2 e2 r2 s2 => k d st' v H' q2 (e.trans e2) r2 s2⟩
    | true => exact k _ st1 _ H1 q e (.bl true) rs1⟩
theorem de_not (ha : DE X a ma) : DE X (.UnaryOp .Not a pos) (mNotV ma) :=
  ⟨pe_mono (pe_not ha.pe) fun σ H Q ⟨env, st, Q0, re, rs, h, k⟩ => by
    refine lift_in re rs h fun x st1 x' H1 q e rx re1 rs1 => ?_
    obtain ⟨c, rfl, q⟩ := q
    exact ⟨c, rx.bl_of, k _ st1 _ H1 q e (.bl _) rs1⟩⟩
def mIf (t : MT) (ma mb : ME) : ME := fun env st Q => t env st fun c st1 => if c = true then ma env st1 Q else mb env st1 Q
theorem de_ifExp {c : Expr} (hc : DT X c tA) (ha : DE X a ma) (hb : DE X b mb) : DE X (.IfExp c a b pos) (mIf tA ma mb) :=
  ⟨pe_mono (pe_ifExp hc.pt ha.pe hb.pe) fun σ H Q ⟨env, st, Q0, re, rs, h, k⟩ => by
    refine liftT_in re rs h fun c st1 H1 q e re1 rs1 => ?_
    cases c with
    | true => exact ⟨env, st1, _, re1, rs1, q, fun d st' v H' q2 e2 r2 s2 => k d st' v H' q2 (e.trans e2) r2 s2⟩
    | false => exact ⟨env, st1, _, re1, rs1, q, fun d st' v H' q2 e2 r2 s2 => k d st' v H' q2 (e.trans e2) r2 s2⟩⟩

/-! ### arguments, displays -/
def mNil : MA := fun _ st Q => Q [] st
def mCons (ma : ME) (mr : MA) : MA := fun env st Q => ma env st fun x st1 => mr env st1 fun xs st2 => Q (x :: xs) st2
variable {mr : MA}
theorem da_nil : DA X [] mNil := ⟨pa_mono pa_nil fun σ H Q ⟨env, st, Q0, re, rs, h, k⟩ => k [] st [] H h .refl .nil rs⟩
theorem da_cons (ha : DE X e ma) (hr : DA X es mr) (hs : starEach (e :: es) X.env = (false, eval e X.env) :: starEach es X.env := by rfl) : DA X (e :: es) (mCons ma mr) :=
  ⟨pa_mono (pa_cons ha.pe hr.pa hs) fun σ H Q ⟨env, st, Q0, re, rs, h, k⟩ => by
    refine lift_in re rs h fun x st1 x' H1 q1 e1 rx re1 rs1 => ?_
    refine liftA_in re1 rs1 q1 fun xs st2 xs' H2 q2 e2 rxs re2 rs2 => ?_
    exact k _ st2 _ H2 q2 (e1.trans e2) (.cons (rx.mono e2) rxs) rs2⟩
def mTup (m : MA) : ME := fun env st Q => m env st fun xs st1 => xs.length ≤ sizeLine ∧ Q (.tup xs) st1
def mLst (m : MA) : ME := fun env st Q => m env st fun xs st1 => xs.length ≤ sizeLine ∧ ∀ p, Nf st1 p → Q (.ref p) (put st1 p (.lst xs))
theorem de_tup {x1} (h : DA X es mr) : DE X (.Tuple es x1 pos) (mTup mr) :=
  ⟨pe_mono (pe_tup h.pa) fun σ H Q ⟨env, st, Q0, re, rs, h, k⟩ => by
    refine liftA_in re rs h fun xs st1 xs' H1 q1 e1 rx re1 rs1 => ?_
    obtain ⟨hl, q1⟩ := q1
    refine ⟨by rw [← rx.length]; exact hl, fun p hp => ?_⟩
    have ex : Ext H1 (upd H1 p (.tup xs')) := .upd_new hp
    exact k _ st1 _ _ q1 (e1.trans ex) (.tup (.of upd_same) (rx.mono ex)) (rs1.new hp)⟩
theorem de_lst (h : DA X es mr) : DE X (.List es pos) (mLst mr) :=
  ⟨pe_mono (pe_lst h.pa) fun σ H Q ⟨env, st, Q0, re, rs, h, k⟩ => by
    refine liftA_in re rs h fun xs st1 xs' H1 q1 e1 rx re1 rs1 => ?_
    obtain ⟨hl, q1⟩ := q1
    refine ⟨by rw [← rx.length]; exact hl, fun p hp => ?_⟩
    have ex : Ext H1 (upd H1 p (.lst xs')) := .upd_new hp
    exact k _ _ _ _ (q1 p (rs1.fresh hp)) (e1.trans ex) (.ref p) (rs1.put ex ⟨xs', upd_same, rx.mono ex⟩)⟩

/-! ### built-in functions and types called -/
def mCall (r : MC) (m : MA) : ME := fun env st Q => m env st fun xs st1 => r xs st1 Q
theorem lift_call {K : PySem.W.Frag} {r : MC} {σ : St} {H : Hp} {Q : VK} (h : lift K (mCall r mr) σ H Q) : tCB (liftC K r) (liftA K mr) σ H Q := by
  obtain ⟨env, st, Q0, re, rs, h, k⟩ := h
  refine liftA_in re rs h fun xs st1 xs' H1 q1 e1 rx re1 rs1 => ?_
  exact ⟨xs, st1, Q0, rx, rs1, q1, fun d st' v H' q e r s => k d st' v H' q (e1.trans e) r s⟩
theorem de_callB {x : Str} {id : String} {p pos : Pos} {r : MC} (hc : DC X (.builtin id) r) (hg : Gl X x) (hm : X.mg x = none) (hv : bootBuiltins x = some (.builtin id)) (ha : DA X (e :: es) mr) (hn : x ≠ "__name__" := by decide) (hdb : (x == ("__debug__" : Str)) = false := by decide)
    (he : starEach (e :: es) X.env = (false, eval e X.env) :: starEach es X.env := by rfl) (hpl : (backTo pos (starEach es X.env)).any (·.1) = false := by rfl) : DE X (.Call (.Name x p) (e :: es) [] pos) (mCall r mr) :=
  ⟨pe_mono (pe_callB hc.call hg hm hv ha.pa hn hdb he hpl) fun _ _ _ => lift_call⟩
theorem de_callTy {x : Str} {T : String} {p pos : Pos} {r : MC} (hc : DC X (.type T) r) (hg : Gl X x) (hm : X.mg x = none) (hv : bootBuiltins x = some (.type T)) (ha : DA X (e :: es) mr) (hn : x ≠ "__name__" := by decide) (hdb : (x == ("__debug__" : Str)) = false := by decide)
    (he : starEach (e :: es) X.env = (false, eval e X.env) :: starEach es X.env := by rfl) (hpl : (backTo pos (starEach es X.env)).any (·.1) = false := by rfl) : DE X (.Call (.Name x p) (e :: es) [] pos) (mCall r mr) :=
  ⟨pe_mono (pe_callTy hc.call hg hm hv ha.pa hn hdb he hpl) fun _ _ _ => lift_call⟩

/-! ### defs of the text -/
/-- a def's promise over data -/
abbrev DSp := List D → Sto → DK → Prop
def liftSp (K : PySem.W.Frag) (sp : DSp) : Sp := fun vs H Q' _ => ∃ ds st Q, RelDs K H ds vs ∧ RelSto K H st ∧ sp ds st Q ∧
  ∀ d st' v H', Q d st' → Ext H H' → RelD K H' d v → RelSto K H' st' → Q' v H'
theorem de_call {x : Str} {k : Nat} {f : Addr} {fd : FuncData} {ps : List Str} {sp : DSp} {p pos : Pos} (F : FnOk X.prog X.w X.K X.mg X.base CX0 k f fd ps (liftSp X.K sp)) (hr : Room k X.A) (hg : Gl X x) (hm : X.mg x = some (.ref f)) (hk : PySem.W.keepIn X.K (.ref f) = true) (hb : Binds X.K fd ps [])
    (ha : DA X (e :: es) mr) (hdb : (x == ("__debug__" : Str)) = false := by decide) (he : starEach (e :: es) X.env = (false, eval e X.env) :: starEach es X.env := by rfl) (hpl : (backTo pos (starEach es X.env)).any (·.1) = false := by rfl) :
    DE X (.Call (.Name x p) (e :: es) [] pos) (mCall sp mr) :=
  ⟨pe_mono (pe_call F hr hg hm hk hb .nil pass0 ha.pa hdb he hpl) fun σ H Q h => by
    obtain ⟨env, st, Q0, re, rs, h, k⟩ := h
    refine liftA_in re rs h fun xs st1 xs' H1 q1 e1 rx re1 rs1 => ?_
    rw [List.append_nil]
    exact ⟨xs, st1, Q0, rx, rs1, q1, fun d st' v H' q e r s => k d st' v H' q (e1.trans e) r s⟩⟩
theorem de_call0 {x : Str} {k : Nat} {f : Addr} {fd : FuncData} {ps : List Str} {sp : DSp} {p pos : Pos} (F : FnOk X.prog X.w X.K X.mg X.base CX0 k f fd ps (liftSp X.K sp)) (hr : Room k X.A) (hg : Gl X x) (hm : X.mg x = some (.ref f)) (hk : PySem.W.keepIn X.K (.ref f) = true) (hb : Binds X.K fd ps [])
    (hdb : (x == ("__debug__" : Str)) = false := by decide) : DE X (.Call (.Name x p) [] [] pos) (mCall sp mNil) :=
  ⟨pe_mono (pe_call0 F hr hg hm hk hb .nil pass0 hdb) fun σ H Q h => by
    obtain ⟨env, st, Q0, re, rs, h, k⟩ := h
    exact ⟨[], st, Q0, .nil, rs, h, k⟩⟩
end
end L2.DL

namespace L2.DL
open PySem PySem.Spec PyProof.Rows

/-! ### data compared -/
mutual
def toPy : D → Option PyData
  | .non => some .none
  | .bl b => some (.bool b)
  | .int i => some (.int i)
  | .str x => some (.str x)
  | .ty _ => none
  | .ref _ => none
  | .tup xs => (toPys xs).map .tuple
def toPys : List D → Option (List PyData)
  | [] => some []
  | d :: ds => (toPy d).bind fun p => (toPys ds).map fun ps => p :: ps
end
def pyOf (st : Sto) : D → Option PyData
  | .ref a => ((rdL (st a)).bind toPys).map .list
  | d => toPy d
mutual
theorem dp_of {K : PySem.W.Frag} {H : Hp} : ∀ {d : D} {v : V} {p : PyData}, RelD K H d v → toPy d = some p → Dp K H v p
  | .non, _, p, r, e => by cases r; simp only [toPy, Option.some.injEq] at e; subst e; exact .non
  | .bl b, _, p, r, e => by cases r; simp only [toPy, Option.some.injEq] at e; subst e; exact .bl b
  | .int b, _, p, r, e => by cases r; simp only [toPy, Option.some.injEq] at e; subst e; exact .int b
  | .str b, _, p, r, e => by cases r; simp only [toPy, Option.some.injEq] at e; subst e; exact .str b
  | .ty n, _, p, r, e => by simp [toPy] at e
  | .ref a, _, p, r, e => by simp [toPy] at e
  | .tup ds, _, p, r, e => by
    cases r with
    | tup h t =>
      simp only [toPy, Option.map_eq_some_iff] at e
      obtain ⟨ps, e, rfl⟩ := e
      exact .tup h (dps_of t e)
theorem dps_of {K : PySem.W.Frag} {H : Hp} : ∀ {ds : List D} {vs : List V} {ps : List PyData}, RelDs K H ds vs → toPys ds = some ps → DpAll K H vs ps
  | [], _, ps, r, e => by cases r; simp only [toPys, Option.some.injEq] at e; subst e; exact .nil
  | d :: ds, _, ps, r, e => by
    cases r with
    | cons r t =>
      simp only [toPys, Option.bind_eq_some_iff, Option.map_eq_some_iff] at e
      obtain ⟨p, e1, qs, e2, rfl⟩ := e
      exact .cons (dp_of r e1) (dps_of t e2)
end
theorem pyOf_dp {K : PySem.W.Frag} {H : Hp} {st : Sto} {d : D} {v : V} {p : PyData} (rs : RelSto K H st) (r : RelD K H d v) (e : pyOf st d = some p) : Dp K H v p := by
  cases d with
  | ref a =>
    cases r
    simp only [pyOf, Option.map_eq_some_iff, Option.bind_eq_some_iff] at e
    obtain ⟨ps, ⟨xs, e1, e2⟩, rfl⟩ := e
    obtain ⟨vs, h1, h2⟩ := rs.rdL e1
    exact .lst h1 (dps_of h2 e2)
  | _ => exact dp_of r e

theorem opr_mono {X : Cx} {f : Value → Value → Sem Value} {r r' : R2} (h : OpR X f r) (k : ∀ x y H Q, r' x y H Q → r x y H Q) : OpR X f r' :=
  fun pins s σ H x y v u Q I rx ry q => h pins s σ H x y v u Q I rx ry (k _ _ _ _ q)
theorem callr_mono {X : Cx} {f : Value} {r r' : List V → Hp → VK → Prop} (h : CallR X f r) (k : ∀ xs H Q, r' xs H Q → r xs H Q) : CallR X f r' :=
  fun pins s σ H xs us Q I rx q => h pins s σ H xs us Q I rx (k _ _ _ q)
theorem ixr_mono {X : Cx} {r r' : R2} (h : IxR X r) (k : ∀ x y H Q, r' x y H Q → r x y H Q) : IxR X r' :=
  fun value slice pins s σ H x y v u Q I rx ry q hs => h value slice pins s σ H x y v u Q I rx ry (k _ _ _ _ q) hs
theorem mtr_mono {X : Cx} {id : String} {r r' : V → List V → Hp → VK → Prop} (h : MtR X id r) (k : ∀ x xs H Q, r' x xs H Q → r x xs H Q) : MtR X id r' :=
  fun pins s σ H x xs v us Q I rx rs q => h pins s σ H x xs v us Q I rx rs (k _ _ _ _ q)

/-! ### two-place operations -/
def oAdd : M2
  | .int i, .int j, st, Q => Q (.int (i + j)) st
  | .str i, .str j, st, Q => i.length + j.length ≤ sizeLine ∧ Q (.str (i ++ j)) st
  | .tup a, .tup b, st, Q => a.length + b.length ≤ sizeLine ∧ Q (.tup (a ++ b)) st
  | .ref a, .ref b, st, Q => ∃ xs ys, st a = some (.lst xs) ∧ st b = some (.lst ys) ∧ xs.length + ys.length ≤ sizeLine ∧ ∀ p, Nf st p → Q (.ref p) (put st p (.lst (xs ++ ys)))
  | _, _, _, _ => False
def oSub : M2
  | .int i, .int j, st, Q => Q (.int (i - j)) st
  | _, _, _, _ => False
def oMul : M2
  | .int i, .int j, st, Q => CMulW i j ∧ Q (.int (i * j)) st
  | .ref a, .int k, st, Q => ∃ xs, st a = some (.lst xs) ∧ (-(2 ^ 63) ≤ k ∧ k < 2 ^ 63) ∧ xs.length * k.toNat ≤ sizeLine ∧ ∀ p, Nf st p → Q (.ref p) (put st p (.lst (List.replicate k.toNat xs).flatten))
  | .tup xs, .int k, st, Q => xs ≠ [] ∧ 2 ≤ k ∧ (xs.length : Int) * k ≤ 1000000 ∧ Q (.tup (List.replicate k.toNat xs).flatten) st
  | _, _, _, _ => False
def oDiv : M2
  | .int i, .int j, st, Q => CDivW i j ∧ Q (.int (i / j)) st
  | _, _, _, _ => False
def oMod : M2
  | .int i, .int j, st, Q => 0 < j ∧ Q (.int (i % j)) st
  | _, _, _, _ => False
def oPow : M2
  | .int i, .int j, st, Q => CPow i j ∧ Q (.int (i ^ j.toNat)) st
  | _, _, _, _ => False
/-- == of flat values of kinds that do not mix -/
def eqSc : D → D → Option Bool
  | .non, .non => some true
  | .non, .int _ => some false
  | .int _, .non => some false
  | .non, .bl _ => some false
  | .bl _, .non => some false
  | .non, .str _ => some false
  | .str _, .non => some false
  | .int i, .int j => some (decide (i = j))
  | .bl i, .bl j => some (decide (i = j))
  | .str i, .str j => some (decide (i = j))
  | .int _, .str _ => some false
  | .str _, .int _ => some false
  | .bl _, .str _ => some false
  | .str _, .bl _ => some false
  | _, _ => none
def oEq (x y : D) (st : Sto) (Q : DK) : Prop := (∃ b, eqSc x y = some b ∧ Q (.bl b) st) ∨ ∃ p q, pyOf st x = some p ∧ pyOf st y = some q ∧ SeqAt.shaped p = true ∧ SeqAt.shaped q = true ∧ Q (.bl (p.eqv q)) st
def oNe (x y : D) (st : Sto) (Q : DK) : Prop := (∃ b, eqSc x y = some b ∧ Q (.bl (!b)) st) ∨ ∃ p q, pyOf st x = some p ∧ pyOf st y = some q ∧ SeqAt.shaped p = true ∧ SeqAt.shaped q = true ∧ Q (.bl (!p.eqv q)) st
def oLt : M2
  | .int i, .int j, st, Q => Q (.bl (decide (i < j))) st
  | .str i, .str j, st, Q => Q (.bl (decide (i.cps.toList < j.cps.toList))) st
  | _, _, _, _ => False
def oLe : M2
  | .int i, .int j, st, Q => Q (.bl (decide (i ≤ j))) st
  | _, _, _, _ => False
def oGt : M2
  | .int i, .int j, st, Q => Q (.bl (decide (j < i))) st
  | _, _, _, _ => False
def oGe : M2
  | .int i, .int j, st, Q => Q (.bl (decide (j ≤ i))) st
  | _, _, _, _ => False
def oIs : M2
  | x, .non, st, Q => Q (.bl (match x with | .non => true | _ => false)) st
  | x, .bl b, st, Q => Q (.bl (match x with | .bl a => decide (a = b) | _ => false)) st
  | _, _, _, _ => False
def oIsNot : M2
  | x, .non, st, Q => Q (.bl (match x with | .non => false | _ => true)) st
  | x, .bl b, st, Q => Q (.bl (match x with | .bl a => !decide (a = b) | _ => true)) st
  | _, _, _, _ => False
/-- flat values and their == -/
def flatD : D → Bool
  | .non => true
  | .bl _ => true
  | .int _ => true
  | .str _ => true
  | _ => false
def eqF : D → D → Bool
  | .non, .non => true
  | .bl a, .bl b => a == b
  | .bl a, .int b => (if a then 1 else 0) == b
  | .int a, .bl b => a == (if b then 1 else 0)
  | .int a, .int b => a == b
  | .str a, .str b => a == b
  | _, _ => false
def inF (x : D) (xs : List D) : Bool := xs.any fun y => eqF y x
def keyD : D → Option Key
  | .int i => some (.inl i)
  | .str x => some (.inr x)
  | _ => none
def valD {κ : Type} [DecidableEq κ] (kvs : List (κ × D)) (k : κ) : Option D := (kvs.find? fun kv => decide (kv.1 = k)).map (·.2)
def oIn : M2
  | .str c, .str z, st, Q => Q (.bl (!(Builtin.Str.occurrences z c 0 z.length 1).isEmpty)) st
  | x, .tup xs, st, Q => flatD x = true ∧ xs.all flatD = true ∧ Q (.bl (inF x xs)) st
  | x, .ref a, st, Q => (∃ xs, rdL (st a) = some xs ∧ flatD x = true ∧ xs.all flatD = true ∧ Q (.bl (inF x xs)) st) ∨
      (∃ kvs k, rdD (st a) = some kvs ∧ keyD x = some k ∧ Q (.bl (valD kvs k).isSome) st)
  | _, _, _, _ => False
def oNotIn (x y : D) (st : Sto) (Q : DK) : Prop := oIn x y st fun d st' => ∃ b, d = .bl b ∧ Q (.bl (!b)) st'

section
variable {X : Cx}
theorem RelK.valD {κ : Type} [DecidableEq κ] {K : PySem.W.Frag} {H : Hp} : ∀ {ds : List (κ × D)} {vs : List (κ × V)} (k : κ), RelK K H ds vs → RelX K H (DL.valD ds k) (valV vs k) ∧ (DL.valD ds k).isSome = (valV vs k).isSome
  | _, _, k, .nil => ⟨trivial, rfl⟩
  | _, _, k, .cons (k := k') (d := d) (v := v) (ds := ds) (vs := vs) r t => by
    unfold DL.valD valV
    by_cases h : k' = k
    · subst h
      simp only [List.find?_cons, decide_true]
      exact ⟨r, rfl⟩
    · simp only [List.find?_cons, decide_eq_false h]
      exact RelK.valD k t
theorem do_add : DO2 X (binaryOp .Add) oAdd :=
  ⟨opr_mono (((op_add (X := X)).or op_add_str).or (op_catA.or op_cat)) fun x y H Q ⟨dx, dy, st, Q0, rx, ry, rs, h, k⟩ => by
    cases dx <;> cases dy <;> simp only [oAdd] at h <;> try exact h.elim
    · cases rx; cases ry
      exact .inl (.inl ⟨_, _, rfl, rfl, k _ st _ H h .refl (.int _) rs⟩)
    · cases rx; cases ry
      obtain ⟨hl, h⟩ := h
      exact .inl (.inr ⟨_, _, rfl, rfl, hl, k _ st _ H h .refl (.str _) rs⟩)
    · cases rx; cases ry
      obtain ⟨xs, ys, h1, h2, hl, h⟩ := h
      obtain ⟨vs, g1, r1⟩ := rs _ _ h1
      obtain ⟨ws, g2, r2⟩ := rs _ _ h2
      refine .inr (.inr ⟨_, _, vs, ws, rfl, rfl, g1, g2, by rw [← r1.length, ← r2.length]; exact hl, fun p hp => ?_⟩)
      have ex : Ext H (upd H p (.lst (vs ++ ws))) := .upd_new hp
      exact k _ _ _ _ (h p (rs.fresh hp)) ex (.ref p) (rs.put ex ⟨_, upd_same, (r1.append r2).mono ex⟩)
    · obtain ⟨a, vs, rfl, g1, r1⟩ := rx.tup_of
      obtain ⟨b, ws, rfl, g2, r2⟩ := ry.tup_of
      obtain ⟨hl, h⟩ := h
      refine .inr (.inl ⟨a, b, vs, ws, rfl, rfl, g1, g2, by rw [← r1.length, ← r2.length]; exact hl, fun e => ?_, fun _ e => ?_, fun _ _ p hp => ?_⟩)
      · subst e
        cases r1
        exact k _ st _ H h .refl (by simpa using ry) rs
      · subst e
        cases r2
        exact k _ st _ H h .refl (by simpa using rx) rs
      · have ex : Ext H (upd H p (.tup (vs ++ ws))) := .upd_new hp
        exact k _ st _ _ h ex (.tup (.of upd_same) ((r1.append r2).mono ex)) (rs.new hp)⟩
theorem do_sub : DO2 X (binaryOp .Sub) oSub :=
  ⟨opr_mono op_sub fun x y H Q ⟨dx, dy, st, Q0, rx, ry, rs, h, k⟩ => by
    cases dx <;> cases dy <;> simp only [oSub] at h <;> try exact h.elim
    cases rx; cases ry
    exact ⟨_, _, rfl, rfl, k _ st _ H h .refl (.int _) rs⟩⟩
theorem RelDs.rep {K : PySem.W.Frag} {H : Hp} {ds : List D} {vs : List V} (r : RelDs K H ds vs) : ∀ k : Nat, RelDs K H (List.replicate k ds).flatten (List.replicate k vs).flatten
  | 0 => .nil
  | k + 1 => by
    rw [List.replicate_succ, List.replicate_succ, List.flatten_cons, List.flatten_cons]
    exact r.append (RelDs.rep r k)
/-- a tuple some times -/
theorem op_times : OpR X (binaryOp .Mult) (fun x y H Q => ∃ (l : Addr) (k : Int) (xs : List V), x = .ref l ∧ y = .int k ∧ SqT X.K H l xs ∧ xs ≠ [] ∧ 2 ≤ k ∧ (xs.length : Int) * k ≤ 1000000 ∧ ∀ p, H p = none → Q (.ref p) (upd H p (.tup (List.replicate k.toNat xs).flatten))) := by
  intro pins s σ H x y v u Q I rx ry w
  obtain ⟨l, k, xs, rfl, rfl, hT, ne, k2, km, q⟩ := w
  cases rx
  obtain ⟨t, rfl⟩ := ry
  obtain ⟨its, r, ⟨⟨cls, dd, data, sl⟩, ho, hc, n, hd⟩, hs⟩ := I.tuple hT
  simp only at hc hd
  subst hc hd
  have le : xs.length = its.length := r.length
  have tn : k.toNat * xs.length ≤ 1000000 := by
    have e : ((k.toNat * xs.length : Nat) : Int) = (xs.length : Int) * k := by rw [Int.natCast_mul, Int.mul_comm, Int.toNat_of_nonneg (by omega)]
    omega
  have i0 : its.toArray.isEmpty = false := by
    cases its with
    | cons a b => rfl
    | nil => exact absurd (List.eq_nil_of_length_eq_zero le) ne
  have z0 : ((its.toArray.size : Nat) : Int) * k ≤ 1000000 := by rw [List.size_toArray, ← le]; exact km
  have fl : (List.replicate k.toNat its).flatten.length ≤ sizeLine := by rw [PyProof.Rows.lm_len_rep_flat, ← le, sizeLine_eq]; omega
  have kl : k ≤ 1000000 := by
    have p1 : 1 ≤ (xs.length : Int) := by
      have := List.length_pos_iff.mpr ne
      omega
    have := Int.mul_le_mul_of_nonneg_right p1 (show (0 : Int) ≤ k by omega)
    omega
  have d0 : (decide (k < -(2 ^ 63)) || decide (k ≥ 2 ^ 63)) = false := by simp; omega
  have d1 : (its.toArray.isEmpty || k == 1) = false := by rw [i0]; simp; omega
  have d2 : (decide (k ≤ 0) || its.toArray.isEmpty) = false := by rw [i0]; simp; omega
  have d4 : Builtin.Tuple.tupleTooMany (((its.toArray.size : Nat) : Int) * k) = false := by unfold Builtin.Tuple.tupleTooMany; rw [sizeLine_eq]; simp only [decide_eq_false_iff_not]; omega
  have M := tuple_mulW l its.toArray n dd sl k t d0 d1 d2 (by omega) d4 (by rw [size_rep, List.size_toArray]; exact fl)
  refine wpAny_binaryOp_repeat_ref (T := "tuple") (U := "int") (by decide) ⟨_, ho, rfl⟩ (fun s' => typeIs_int s' k t) noFill_tuple_mul F.fills_int_mul F.slot_int_rmul repeat_tuple F.slot_int_index.lookup
    (call_meets F.slot_int_rmul (typeIs_int s k t) F.entry_int_rmul (F.args_int_rmul_2 _ _) (int_rmul_tuple k t l its.toArray n dd sl) ⟨ho, rfl, ⟨_, ho, rfl⟩, call_meets F.slot_tuple_mul ⟨_, ho, rfl⟩ F.entry_tuple_mul (F.args_tuple_mul_2 _ _) M ⟨ho, ?_⟩⟩)
  rw [size_rep]
  refine ⟨.ref s.heap.objs.size, _, I.laid (t' := s.toks) (o := .tup (List.replicate k.toNat xs).flatten) (fun b ob q => Heap.get?_push_of_some _ q) (Nat.le_refl _) ?_, rfl, q _ (I.hok.fresh (Nat.le_refl _))⟩
  exact ⟨by rw [PyProof.Rows.lm_len_rep_flat, sizeLine_eq]; omega, _, r.rep k.toNat, IsTup.new _ _⟩
theorem do_mul : DO2 X (binaryOp .Mult) oMul :=
  ⟨opr_mono (((op_mulW (X := X)).or op_rep).or op_times) fun x y H Q ⟨dx, dy, st, Q0, rx, ry, rs, h, k⟩ => by
    cases dx <;> cases dy <;> simp only [oMul] at h <;> try exact h.elim
    · cases rx; cases ry
      exact .inl (.inl ⟨_, _, rfl, rfl, h.1, k _ st _ H h.2 .refl (.int _) rs⟩)
    · cases rx; cases ry
      obtain ⟨xs, e, ⟨b1, b2⟩, hl, h⟩ := h
      obtain ⟨vs, g, r⟩ := rs _ _ e
      have ex : ∀ p u, H p = none → Ext H (upd H p u) := fun p u hp => .upd_new hp
      exact .inl (.inr ⟨_, _, vs, rfl, rfl, g, b1, b2, by rw [← r.length]; exact hl, fun p hp =>
        k _ _ _ _ (h p (rs.fresh hp)) (ex p _ hp) (.ref p) (rs.put (ex p _ hp) ⟨_, upd_same, (r.rep _).mono (ex p _ hp)⟩)⟩)
    · cases ry
      obtain ⟨ne, k2, km, h⟩ := h
      obtain ⟨a, vs, rfl, g, r⟩ := rx.tup_of
      refine .inr ⟨a, _, vs, rfl, rfl, g, fun e => ?_, k2, by rw [← r.length]; exact km, fun p hp => ?_⟩
      · have := r.length
        rw [e] at this
        exact ne (List.eq_nil_of_length_eq_zero this)
      · have ex : ∀ u, Ext H (upd H p u) := fun u => .upd_new hp
        exact k _ st _ _ h (ex _) (.tup (.of upd_same) ((r.rep _).mono (ex _))) (rs.new hp)⟩
theorem do_div : DO2 X (binaryOp .FloorDiv) oDiv :=
  ⟨opr_mono op_fdivW fun x y H Q ⟨dx, dy, st, Q0, rx, ry, rs, h, k⟩ => by
    cases dx <;> cases dy <;> simp only [oDiv] at h <;> try exact h.elim
    cases rx; cases ry
    exact ⟨_, _, rfl, rfl, h.1, k _ st _ H h.2 .refl (.int _) rs⟩⟩
theorem do_mod : DO2 X (binaryOp .Mod) oMod :=
  ⟨opr_mono op_mod fun x y H Q ⟨dx, dy, st, Q0, rx, ry, rs, h, k⟩ => by
    cases dx <;> cases dy <;> simp only [oMod] at h <;> try exact h.elim
    cases rx; cases ry
    exact ⟨_, _, rfl, rfl, h.1, k _ st _ H h.2 .refl (.int _) rs⟩⟩
theorem do_pow : DO2 X (binaryOp .Pow) oPow :=
  ⟨opr_mono op_pow fun x y H Q ⟨dx, dy, st, Q0, rx, ry, rs, h, k⟩ => by
    cases dx <;> cases dy <;> simp only [oPow] at h <;> try exact h.elim
    cases rx; cases ry
    exact ⟨_, _, rfl, rfl, h.1, k _ st _ H h.2 .refl (.int _) rs⟩⟩
theorem eqSc_rel {K : PySem.W.Frag} {H : Hp} {x y : D} {v w : V} {b : Bool} (r : RelD K H x v) (q : RelD K H y w) (e : eqSc x y = some b) : scal v w = true ∧ decide (v = w) = b := by
  cases r <;> cases q <;> simp only [eqSc, Option.some.injEq, reduceCtorEq] at e <;> subst e <;> refine ⟨rfl, ?_⟩ <;> simp
theorem do_eq (hu : X.A.units + 64 < cLine) : DO2 X (compareOp .Eq) oEq :=
  ⟨opr_mono ((op_eq (X := X)).or (op_eqD hu)) fun x y H Q ⟨dx, dy, st, Q0, rx, ry, rs, h, k⟩ => by
    rcases h with ⟨b, e, h⟩ | ⟨p, q, e1, e2, s1, s2, h⟩
    · obtain ⟨s1, e1⟩ := eqSc_rel rx ry e
      exact .inl ⟨s1, by rw [e1]; exact k _ st _ H h .refl (.bl _) rs⟩
    · exact .inr ⟨p, q, pyOf_dp rs rx e1, pyOf_dp rs ry e2, s1, s2, k _ st _ H h .refl (.bl _) rs⟩⟩
theorem do_ne (hu : X.A.units + 64 < cLine) : DO2 X (compareOp .NotEq) oNe :=
  ⟨opr_mono ((op_ne (X := X)).or (op_neD hu)) fun x y H Q ⟨dx, dy, st, Q0, rx, ry, rs, h, k⟩ => by
    rcases h with ⟨b, e, h⟩ | ⟨p, q, e1, e2, s1, s2, h⟩
    · obtain ⟨s1, e1⟩ := eqSc_rel rx ry e
      exact .inl ⟨s1, by rw [e1]; exact k _ st _ H h .refl (.bl _) rs⟩
    · exact .inr ⟨p, q, pyOf_dp rs rx e1, pyOf_dp rs ry e2, s1, s2, k _ st _ H h .refl (.bl _) rs⟩⟩
theorem do_lt : DO2 X (compareOp .Lt) oLt :=
  ⟨opr_mono ((op_lt (X := X)).or op_lt_str) fun x y H Q ⟨dx, dy, st, Q0, rx, ry, rs, h, k⟩ => by
    cases dx <;> cases dy <;> simp only [oLt] at h <;> try exact h.elim
    · cases rx; cases ry
      exact .inl ⟨_, _, rfl, rfl, k _ st _ H h .refl (.bl _) rs⟩
    · cases rx; cases ry
      exact .inr ⟨_, _, rfl, rfl, k _ st _ H h .refl (.bl _) rs⟩⟩
theorem do_le : DO2 X (compareOp .LtE) oLe :=
  ⟨opr_mono op_le fun x y H Q ⟨dx, dy, st, Q0, rx, ry, rs, h, k⟩ => by
    cases dx <;> cases dy <;> simp only [oLe] at h <;> try exact h.elim
    cases rx; cases ry
    exact ⟨_, _, rfl, rfl, k _ st _ H h .refl (.bl _) rs⟩⟩
theorem do_gt : DO2 X (compareOp .Gt) oGt :=
  ⟨opr_mono op_gt fun x y H Q ⟨dx, dy, st, Q0, rx, ry, rs, h, k⟩ => by
    cases dx <;> cases dy <;> simp only [oGt] at h <;> try exact h.elim
    cases rx; cases ry
    exact ⟨_, _, rfl, rfl, k _ st _ H h .refl (.bl _) rs⟩⟩
theorem do_ge : DO2 X (compareOp .GtE) oGe :=
  ⟨opr_mono op_ge fun x y H Q ⟨dx, dy, st, Q0, rx, ry, rs, h, k⟩ => by
    cases dx <;> cases dy <;> simp only [oGe] at h <;> try exact h.elim
    cases rx; cases ry
    exact ⟨_, _, rfl, rfl, k _ st _ H h .refl (.bl _) rs⟩⟩
theorem RelD.isNon {K : PySem.W.Frag} {H : Hp} {d : D} {v : V} (r : RelD K H d v) : decide (v = .non) = (match d with | .non => true | _ => false) := by
  cases r <;> simp
theorem rel_bool {x : V} {v : Value} {b : Bool} (r : RelV x v) : plainIs v (.bool b) = true ∧ (v == Value.bool b) = decide (x = .bl b) := by
  cases x with
  | non => cases r; exact ⟨rfl, rfl⟩
  | bl c => cases r; cases b <;> cases c <;> exact ⟨rfl, rfl⟩
  | int i => obtain ⟨t, rfl⟩ := r; exact ⟨rfl, rfl⟩
  | str i => obtain ⟨t, rfl⟩ := r; exact ⟨rfl, rfl⟩
  | byt i => obtain ⟨t, rfl⟩ := r; exact ⟨rfl, rfl⟩
  | flt i => obtain ⟨t, rfl⟩ := r; exact ⟨rfl, rfl⟩
  | ref i => cases r; exact ⟨rfl, rfl⟩
  | ty i => cases r; exact ⟨rfl, rfl⟩
theorem op_isTF : OpR X (compareOp .Is) (fun x y H Q => ∃ b, y = .bl b ∧ Q (.bl (decide (x = .bl b))) H) := by
  rintro pins s σ H x y v u Q I rx ry ⟨b, rfl, q⟩
  cases ry
  obtain ⟨h1, h2⟩ := rel_bool (b := b) rx
  exact wpAny_is_plain h1 ⟨_, H, I, by rw [h2]; rfl, q⟩
theorem op_notTF : OpR X (compareOp .IsNot) (fun x y H Q => ∃ b, y = .bl b ∧ Q (.bl (!decide (x = .bl b))) H) := by
  rintro pins s σ H x y v u Q I rx ry ⟨b, rfl, q⟩
  cases ry
  obtain ⟨h1, h2⟩ := rel_bool (b := b) rx
  exact wpAny_isNot_plain h1 ⟨_, H, I, by rw [h2]; rfl, q⟩
theorem RelD.isBl {K : PySem.W.Frag} {H : Hp} {d : D} {v : V} {b : Bool} (r : RelD K H d v) : decide (v = .bl b) = (match d with | .bl a => decide (a = b) | _ => false) := by
  cases r <;> simp
theorem do_is : DO2 X (compareOp .Is) oIs :=
  ⟨opr_mono ((op_isN (X := X)).or op_isTF) fun x y H Q ⟨dx, dy, st, Q0, rx, ry, rs, h, k⟩ => by
    cases dy with
    | non =>
      cases ry
      refine .inl ⟨rfl, ?_⟩
      rw [rx.isNon]
      cases dx <;> exact k _ st _ H h .refl (.bl _) rs
    | bl b =>
      cases ry
      refine .inr ⟨b, rfl, ?_⟩
      rw [rx.isBl]
      cases dx <;> exact k _ st _ H h .refl (.bl _) rs
    | _ => cases dx <;> exact h.elim⟩
theorem do_isnot : DO2 X (compareOp .IsNot) oIsNot :=
  ⟨opr_mono ((op_notN (X := X)).or op_notTF) fun x y H Q ⟨dx, dy, st, Q0, rx, ry, rs, h, k⟩ => by
    cases dy with
    | non =>
      cases ry
      refine .inl ⟨rfl, ?_⟩
      rw [rx.isNon]
      cases dx <;> exact k _ st _ H h .refl (.bl _) rs
    | bl b =>
      cases ry
      refine .inr ⟨b, rfl, ?_⟩
      rw [rx.isBl]
      cases dx <;> exact k _ st _ H h .refl (.bl _) rs
    | _ => cases dx <;> exact h.elim⟩
theorem flat_rel {K : PySem.W.Frag} {H : Hp} {d : D} {v : V} (r : RelD K H d v) (f : flatD d = true) : flatV v = true := by
  cases r <;> first | rfl | exact f
theorem flats_rel {K : PySem.W.Frag} {H : Hp} : ∀ {ds : List D} {vs : List V}, RelDs K H ds vs → ds.all flatD = true → vs.all flatV = true
  | _, _, .nil, _ => rfl
  | _, _, .cons r t, f => by
    simp only [List.all_cons, Bool.and_eq_true] at f ⊢
    exact ⟨flat_rel r f.1, flats_rel t f.2⟩
theorem eqF_rel {K : PySem.W.Frag} {H : Hp} {d e : D} {v w : V} (r : RelD K H d v) (q : RelD K H e w) (f : flatD d = true) (g : flatD e = true) : eqV v w = eqF d e := by
  cases r <;> cases q <;> first | rfl | (simp [flatD] at f; done) | (simp [flatD] at g; done)
theorem inF_rel {K : PySem.W.Frag} {H : Hp} {x : D} {v : V} (r : RelD K H x v) (f : flatD x = true) : ∀ {ds : List D} {vs : List V}, RelDs K H ds vs → ds.all flatD = true → inV v vs = inF x ds
  | _, _, .nil, _ => rfl
  | _, _, .cons (d := d) (v := w) (ds := ds) (vs := vs) q t, g => by
    simp only [List.all_cons, Bool.and_eq_true] at g
    have ih := inF_rel r f t g.2
    unfold inV inF at ih ⊢
    rw [List.any_cons, List.any_cons, ih, eqF_rel q r g.1 f]
theorem key_rel {K : PySem.W.Frag} {H : Hp} {x : D} {v : V} {k : Key} (r : RelD K H x v) (e : keyD x = some k) : v = kV k := by
  cases r <;> simp [keyD] at e <;> subst e <;> rfl
theorem or_dictIn (hu : X.A.units + 1 < cLine) : OpR X (compareOp .In) (fun x y H Q => ∃ a o, y = .ref a ∧ DGet H a x o ∧ Q (.bl o.isSome) H) := by
  intro pins s σ H x y v u Q I rx ry h
  obtain ⟨a, o, rfl, g, q⟩ := h
  obtain rfl : u = Value.ref a := ry
  exact d_in hu I g rx fun s' I' => ⟨.bl o.isSome, H, I', rfl, q⟩
theorem or_dictNotIn (hu : X.A.units + 1 < cLine) : OpR X (compareOp .NotIn) (fun x y H Q => ∃ a o, y = .ref a ∧ DGet H a x o ∧ Q (.bl (!o.isSome)) H) := by
  intro pins s σ H x y v u Q I rx ry h
  obtain ⟨a, o, rfl, g, q⟩ := h
  obtain rfl : u = Value.ref a := ry
  exact d_notIn hu I g rx fun s' I' => ⟨.bl (!o.isSome), H, I', rfl, q⟩
theorem do_in (hu : X.A.units + 1 < cLine) : DO2 X (compareOp .In) oIn :=
  ⟨opr_mono (((op_in_str (X := X)).or op_in_seq).or (or_dictIn hu)) fun x y H Q ⟨dx, dy, st, Q0, rx, ry, rs, h, k⟩ => by
    cases dy with
    | str z =>
      cases dx <;> simp only [oIn] at h <;> try exact h.elim
      cases rx; cases ry
      exact .inl (.inl ⟨_, _, rfl, rfl, k _ st _ H h .refl (.bl _) rs⟩)
    | tup ds =>
      obtain ⟨a, vs, rfl, g, r⟩ := ry.tup_of
      have h' : flatD dx = true ∧ ds.all flatD = true ∧ Q0 (.bl (inF dx ds)) st := by cases dx <;> exact h
      obtain ⟨f1, f2, h'⟩ := h'
      refine .inl (.inr ⟨a, vs, rfl, .inr g, flat_rel rx f1, flats_rel r f2, ?_⟩)
      rw [if_neg Bool.false_ne_true, inF_rel rx f1 r f2]
      exact k _ st _ H h' .refl (.bl _) rs
    | ref a =>
      cases ry
      have h' : (∃ xs, rdL (st a) = some xs ∧ flatD dx = true ∧ xs.all flatD = true ∧ Q0 (.bl (inF dx xs)) st) ∨ (∃ kvs kk, rdD (st a) = some kvs ∧ keyD dx = some kk ∧ Q0 (.bl (valD kvs kk).isSome) st) := by cases dx <;> exact h
      rcases h' with ⟨xs, e, f1, f2, h'⟩ | ⟨kvs, kk, e, ek, h'⟩
      · obtain ⟨vs, g, r⟩ := rs.rdL e
        refine .inl (.inr ⟨a, vs, rfl, .inl g, flat_rel rx f1, flats_rel r f2, ?_⟩)
        rw [if_neg Bool.false_ne_true, inF_rel rx f1 r f2]
        exact k _ st _ H h' .refl (.bl _) rs
      · obtain ⟨ws, g, r⟩ := rs.rdD e
        rw [key_rel rx ek]
        refine .inr ⟨a, _, rfl, .inl ⟨ws, kk, g, rfl, rfl⟩, ?_⟩
        rw [← (r.valD kk).2]
        exact k _ st _ H h' .refl (.bl _) rs
    | _ => cases dx <;> exact h.elim⟩
theorem do_notin (hu : X.A.units + 1 < cLine) : DO2 X (compareOp .NotIn) oNotIn :=
  ⟨opr_mono (((op_notIn_str (X := X)).or op_notIn_seq).or (or_dictNotIn hu)) fun x y H Q ⟨dx, dy, st, Q0, rx, ry, rs, h, k⟩ => by
    unfold oNotIn at h
    cases dy with
    | str z =>
      cases dx <;> simp only [oIn] at h <;> try exact h.elim
      cases rx; cases ry
      obtain ⟨b, e, h⟩ := h
      cases e
      exact .inl (.inl ⟨_, _, rfl, rfl, k _ st _ H h .refl (.bl _) rs⟩)
    | tup ds =>
      obtain ⟨a, vs, rfl, g, r⟩ := ry.tup_of
      have h' : flatD dx = true ∧ ds.all flatD = true ∧ ∃ b, D.bl (inF dx ds) = .bl b ∧ Q0 (.bl !b) st := by cases dx <;> exact h
      obtain ⟨f1, f2, b, e, h'⟩ := h'
      cases e
      refine .inl (.inr ⟨a, vs, rfl, .inr g, flat_rel rx f1, flats_rel r f2, ?_⟩)
      rw [if_pos rfl, inF_rel rx f1 r f2]
      exact k _ st _ H h' .refl (.bl _) rs
    | ref a =>
      cases ry
      have h' : (∃ xs, rdL (st a) = some xs ∧ flatD dx = true ∧ xs.all flatD = true ∧ ∃ b, D.bl (inF dx xs) = .bl b ∧ Q0 (.bl !b) st) ∨ (∃ kvs kk, rdD (st a) = some kvs ∧ keyD dx = some kk ∧ ∃ b, D.bl (valD kvs kk).isSome = .bl b ∧ Q0 (.bl !b) st) := by cases dx <;> exact h
      rcases h' with ⟨xs, e, f1, f2, b, eb, h'⟩ | ⟨kvs, kk, e, ek, b, eb, h'⟩
      · cases eb
        obtain ⟨vs, g, r⟩ := rs.rdL e
        refine .inl (.inr ⟨a, vs, rfl, .inl g, flat_rel rx f1, flats_rel r f2, ?_⟩)
        rw [if_pos rfl, inF_rel rx f1 r f2]
        exact k _ st _ H h' .refl (.bl _) rs
      · cases eb
        obtain ⟨ws, g, r⟩ := rs.rdD e
        rw [key_rel rx ek]
        refine .inr ⟨a, _, rfl, .inl ⟨ws, kk, g, rfl, rfl⟩, ?_⟩
        rw [← (r.valD kk).2]
        exact k _ st _ H h' .refl (.bl _) rs
    | _ => cases dx <;> exact h.elim⟩
end
end L2.DL

namespace L2.DL
open PySem PySem.Spec PyProof.Rows

/-! ### subscripts -/
theorem RelDs.atI {K : PySem.W.Frag} {H : Hp} {ds : List D} {vs : List V} {i : Int} {d : D} (r : RelDs K H ds vs) (h : L2.atI ds i = some d) : ∃ v, L2.atI vs i = some v ∧ RelD K H d v := by
  unfold L2.atI at h ⊢
  rw [← r.length]
  cases e : ixN ds.length i with
  | none => rw [e] at h; cases h
  | some j =>
    rw [e] at h
    obtain ⟨v, h1, h2⟩ := r.get (i := j) (d := d) h
    exact ⟨v, h1, h2⟩
def oIx : M2
  | .tup xs, .int i, st, Q => ∃ v, atI xs i = some v ∧ Q v st
  | .str z, .int i, st, Q => z.length ≤ sizeLine ∧ ∃ c, atI z.cps.toList i = some c ∧ Q (.str ⟨#[c]⟩) st
  | .ref a, y, st, Q => (∃ xs i v, rdL (st a) = some xs ∧ y = .int i ∧ atI xs i = some v ∧ Q v st) ∨ (∃ kvs k v, rdD (st a) = some kvs ∧ keyD y = some k ∧ valD kvs k = some v ∧ Q v st)
  | _, _, _, _ => False
structure DIx (X : Cx) (r : M2) : Prop where
  ix : IxR X (lift2 X.K r)
section
variable {X : Cx}
theorem ix_dict (hu : X.A.units + 1 < cLine) : IxR X (fun x y H Q => ∃ a v, x = .ref a ∧ DGet H a y (some v) ∧ Q v H) := by
  intro value slice pins s σ H x y u iv Q I rx ry h hs
  obtain ⟨a, v, ex, g, q⟩ := h
  subst ex
  obtain rfl : u = Value.ref a := rx
  have hT := dict_typeIs I g
  have h2 : wpAny (model X.prog X.w) X.A (getItem (.ref a) iv) (EP X pins σ Q) X.xe s := d_getItem hu I g ry fun w' s3 I3 rw' => ⟨v, H, I3, rw', q⟩
  unfold subscriptTail
  refine wpAny_bind ?_
  rw [getitemInPython_of_ne hT.not_modules]
  refine wpAny_bind (wpAny_specialOf hT PySem.F.slot_dict_getitem.lookup ?_)
  have fin : wpAny (model X.prog X.w) X.A (subscripted slice false (.ref a) iv) (fun r s₃ => wpAny (model X.prog X.w) X.A (letTemporaryGo value (.ref a) r >>= fun _ => pure r) (EP X pins σ Q) X.xe s₃) X.xe s := by
    rw [hs]
    exact wpAny_operating (wpAny_mono h2 (fun r s₃ h₃ => wpAny_bind (wpAny_letTemporaryGo (wpAny_pure h₃))) fun _ _ x => x)
  first
    | exact wpAny_pure (wpAny_bind fin)
    | exact wpAny_bind (wpAny_pure (wpAny_bind fin))
    | exact wpAny_bind fin
theorem di_all (hu : X.A.units + 1 < cLine) : DIx X oIx :=
  ⟨ixr_mono ((ix_seq (X := X)).or (ix_dict hu)) fun x y H Q ⟨dx, dy, st, Q0, rx, ry, rs, h, k⟩ => by
    cases dx with
    | tup ds =>
      cases dy <;> simp only [oIx] at h <;> try exact h.elim
      cases ry
      obtain ⟨v, e, h⟩ := h
      obtain ⟨a, vs, rfl, g, r⟩ := rx.tup_of
      obtain ⟨v', e', rv⟩ := r.atI e
      exact .inl (.inr (.inl ⟨a, vs, _, v', rfl, rfl, g, e', k _ st _ H h .refl rv rs⟩))
    | str z =>
      cases dy <;> simp only [oIx] at h <;> try exact h.elim
      cases ry; cases rx
      obtain ⟨hz, c, e, h⟩ := h
      exact .inl (.inr (.inr ⟨z, _, c, rfl, rfl, hz, e, k _ st _ H h .refl (.str _) rs⟩))
    | ref a =>
      cases rx
      have h' : (∃ xs i v, rdL (st a) = some xs ∧ dy = .int i ∧ atI xs i = some v ∧ Q0 v st) ∨ (∃ kvs kk v, rdD (st a) = some kvs ∧ keyD dy = some kk ∧ valD kvs kk = some v ∧ Q0 v st) := by cases dy <;> exact h
      rcases h' with ⟨xs, i, v, e1, rfl, e2, h'⟩ | ⟨kvs, kk, v, e1, e2, e3, h'⟩
      · cases ry
        obtain ⟨vs, g, r⟩ := rs.rdL e1
        obtain ⟨v', e', rv⟩ := r.atI e2
        exact .inl (.inl ⟨a, vs, i, v', rfl, rfl, g, e', k _ st _ H h' .refl rv rs⟩)
      · obtain ⟨ws, g, r⟩ := rs.rdD e1
        rw [key_rel ry e2]
        have rx := (r.valD kk).1
        rw [e3] at rx
        cases ev : valV ws kk with
        | none => rw [ev] at rx; exact rx.elim
        | some v' =>
          rw [ev] at rx
          exact .inr ⟨a, v', rfl, .inl ⟨ws, kk, g, rfl, ev.symm⟩, k _ st _ H h' .refl rx rs⟩
    | _ => cases dy <;> exact h.elim⟩
theorem de_ix {a b : Expr} {ma mb : ME} {pos : Pos} {r : M2} (hr : DIx X r) (ha : DE X a ma) (hb : DE X b mb) (hs : PlainIx b := by exact fun _ _ => rfl) : DE X (.Subscript a b pos) (mBin r ma mb) :=
  ⟨pe_mono (pe_ix hr.ix ha.pe hb.pe hs) fun _ _ _ => lift_bin⟩

/-! ### slices -/
abbrev MO := Env → Sto → (Option Int → Sto → Prop) → Prop
def liftO (K : PySem.W.Frag) (m : MO) : TO := fun σ H Q' => ∃ env st Q, RelE K H env σ ∧ RelSto K H st ∧ m env st Q ∧
  ∀ o st' H', Q o st' → Ext H H' → RelSto K H' st' → Q' o H'
structure DPo (X : Cx) (e : Option Expr) (m : MO) : Prop where
  po : PO X e (liftO X.K m)
def mNoPart : MO := fun _ st Q => Q none st
def mPart (m : ME) : MO := fun env st Q => m env st fun x st1 => ∃ i, x = .int i ∧ Q (some i) st1
theorem po_mono {e : Option Expr} {t t' : TO} (h : PO X e t) (k : ∀ σ H Q, t' σ H Q → t σ H Q) : PO X e t' := by
  refine ⟨fun pins s σ H Q I hw => ?_⟩
  exact h.run pins s σ H Q I (k _ _ _ hw)
theorem dp_none : DPo X none mNoPart := ⟨po_mono po_none fun σ H Q ⟨env, st, Q0, re, rs, h, k⟩ => k none st H h .refl rs⟩
theorem dp_some {e : Expr} {m : ME} (he : DE X e m) : DPo X (some e) (mPart m) :=
  ⟨po_mono (po_some he.pe) fun σ H Q ⟨env, st, Q0, re, rs, h, k⟩ => lift_in re rs h fun x st1 x' H1 ⟨i, e1, q⟩ ex rx re1 rs1 => by
    subst e1
    exact ⟨i, rx.int_of, k (some i) st1 H1 q ex rs1⟩⟩
def cutL {α : Type} (xs : List α) (lo hi : Option Int) : List α := (xs.drop (HT.sIx xs.length 0 lo)).take (HT.sIx xs.length xs.length hi - HT.sIx xs.length 0 lo)
theorem cutL_length {α : Type} (xs : List α) (lo hi : Option Int) : (cutL xs lo hi).length ≤ xs.length := by
  unfold cutL
  simp only [List.length_take, List.length_drop]
  omega
theorem RelDs.cut {K : PySem.W.Frag} {H : Hp} {ds : List D} {vs : List V} (r : RelDs K H ds vs) (lo hi : Option Int) : RelDs K H (cutL ds lo hi) (cutV vs lo hi) := by
  unfold cutL cutV
  rw [r.length]
  exact (r.drop _).take _
theorem cutL_whole {α : Type} {xs : List α} {lo hi : Option Int} (h1 : HT.sIx xs.length 0 lo = 0) (h2 : HT.sIx xs.length xs.length hi = xs.length) : cutL xs lo hi = xs := by
  unfold cutL
  rw [h1, h2]
  simp
abbrev MSl := D → Option Int → Option Int → Sto → DK → Prop
def oSl : MSl
  | .tup xs, lo, hi, st, Q => Q (.tup (cutL xs lo hi)) st
  | .str z, lo, hi, st, Q => z.length ≤ sizeLine ∧ Q (.str (cutS z lo hi)) st
  | .ref a, lo, hi, st, Q => ∃ xs, rdL (st a) = some xs ∧ ∀ p, Nf st p → Q (.ref p) (put st p (.lst (cutL xs lo hi)))
  | _, _, _, _, _ => False
def mSl (m : ME) (ml mh : MO) : ME := fun env st Q => m env st fun x st1 => ml env st1 fun lo st2 => mh env st2 fun hi st3 => oSl x lo hi st3 Q
theorem slr_mono {r r' : V → Option Int → Option Int → Hp → VK → Prop} (h : SlR X r) (k : ∀ x lo hi H Q, r' x lo hi H Q → r x lo hi H Q) : SlR X r' := by
  intro pins s σ H x v vl vu lo hi sl Q I rx hs pl pu q
  exact h pins s σ H x v vl vu lo hi sl Q I rx hs pl pu (k _ _ _ _ _ q)
theorem de_sl {e : Expr} {lo hi : Option Expr} {m : ME} {ml mh : MO} {p2 pos : Pos} (he : DE X e m) (hl : DPo X lo ml) (hu : DPo X hi mh) : DE X (.Subscript e (.Slice lo hi none p2) pos) (mSl m ml mh) :=
  ⟨pe_mono (pe_slice (slr_mono ((sl_tupA (X := X)).or (SlR.or sl_str sl_list)) fun x l u H Q (h : ∃ dx st Q0, RelD X.K H dx x ∧ RelSto X.K H st ∧ oSl dx l u st Q0 ∧ ∀ d st' v H', Q0 d st' → Ext H H' → RelD X.K H' d v → RelSto X.K H' st' → Q v H') => by
      obtain ⟨dx, st, Q0, rx, rs, h, k⟩ := h
      cases dx with
      | tup ds =>
        obtain ⟨a, vs, rfl, g, r⟩ := rx.tup_of
        refine .inl ⟨a, vs, rfl, g, fun ⟨e1, e2⟩ => ?_, fun _ p hp => ?_⟩
        · have e : cutL ds l u = ds := by rw [← r.length] at e1 e2; exact cutL_whole e1 e2
          refine k _ st _ H ?_ .refl rx rs
          have h' : Q0 (.tup (cutL ds l u)) st := h
          rw [e] at h'
          exact h'
        · have ex : Ext H (upd H p (.tup (cutV vs l u))) := .upd_new hp
          exact k _ st _ _ h ex (.tup (.of upd_same) ((r.cut l u).mono ex)) (rs.new hp)
      | str z =>
        cases rx
        exact .inr (.inl ⟨z, rfl, h.1, k _ st _ H h.2 .refl (.str _) rs⟩)
      | ref a =>
        cases rx
        obtain ⟨xs, e, h⟩ := h
        obtain ⟨vs, g, r⟩ := rs.rdL e
        refine .inr (.inr ⟨a, vs, rfl, g, fun p hp => ?_⟩)
        have ex : Ext H (upd H p (.lst (cutV vs l u))) := .upd_new hp
        exact k _ _ _ _ (h p (rs.fresh hp)) ex (.ref p) (rs.put ex ⟨_, upd_same, (r.cut l u).mono ex⟩)
      | _ => exact h.elim) he.pe hl.po hu.po) fun σ H Q ⟨env, st, Q0, re, rs, h, k⟩ => by
    refine lift_in re rs h fun x st1 x' H1 q1 e1 rx re1 rs1 => ?_
    refine ⟨env, st1, _, re1, rs1, q1, fun l st2 H2 q2 e2 rs2 => ?_⟩
    refine ⟨env, st2, _, re1.mono e2, rs2, q2, fun u st3 H3 q3 e3 rs3 => ?_⟩
    exact ⟨x, st3, Q0, rx.mono (e2.trans e3), rs3, q3, fun d st' v H' q e r s => k d st' v H' q (e1.trans (e2.trans (e3.trans e))) r s⟩⟩
/-- xs[::-1], a list -/
def mRev (m : ME) : ME := fun env st Q => m env st fun x st1 => ∃ a xs, x = .ref a ∧ rdL (st1 a) = some xs ∧ ∀ p, Nf st1 p → Q (.ref p) (put st1 p (.lst xs.reverse))
theorem de_rev {e : Expr} {m : ME} {k : Nat} {p1 p2 p3 pos : Pos} (he : DE X e m) : DE X (.Subscript e (.Slice none none (some (.UnaryOp .USub (.Constant (.int 1) k p1) p2)) p3) pos) (mRev m) :=
  ⟨pe_mono (pe_revL he.pe) fun σ H Q ⟨env, st, Q0, re, rs, h, k⟩ => lift_in re rs h fun x st1 x' H1 ⟨a, xs, e, e2, q⟩ ex rx re1 rs1 => by
    subst e
    cases rx
    obtain ⟨vs, g, r⟩ := rs1.rdL e2
    refine ⟨a, vs, rfl, g, fun p hp => ?_⟩
    have ex2 : Ext H1 (upd H1 p (.lst vs.reverse)) := .upd_new hp
    exact k _ _ _ _ (q p (rs1.fresh hp)) (ex.trans ex2) (.ref p) (rs1.put ex2 ⟨_, upd_same, r.reverse.mono ex2⟩)⟩
end

/-! ### methods of built-in types -/
abbrev MM := D → List D → Sto → DK → Prop
def liftM (K : PySem.W.Frag) (r : MM) : V → List V → Hp → VK → Prop := fun x xs H Q' => ∃ dx ds st Q, RelD K H dx x ∧ RelDs K H ds xs ∧ RelSto K H st ∧ r dx ds st Q ∧
  ∀ d st' v H', Q d st' → Ext H H' → RelD K H' d v → RelSto K H' st' → Q' v H'
structure DM (X : Cx) (id : String) (r : MM) : Prop where
  mt : MtR X id (liftM X.K r)
/-- the receiver is a list, a text -/
def isL (x : D) (st : Sto) : Prop := ∃ a xs, x = .ref a ∧ rdL (st a) = some xs
def isS (x : D) (_ : Sto) : Prop := ∃ z, x = .str z
def mMeth (ty : D → Sto → Prop) (r : MM) (mo : ME) (ma : MA) : ME := fun env st Q => mo env st fun x st1 => ty x st1 ∧ ma env st1 fun xs st2 => r x xs st2 Q
def Ty (K : PySem.W.Frag) (T : String) (ty : D → Sto → Prop) : Prop := ∀ (x : D) (v : V) (st : Sto) (H : Hp), ty x st → RelD K H x v → RelSto K H st → tyV K T v H
theorem ty_list {K : PySem.W.Frag} : Ty K "list" isL := fun x v st H ⟨a, xs, e, e2⟩ rx rs => by
  subst e
  cases rx
  obtain ⟨vs, g, r⟩ := rs.rdL e2
  exact .inl ⟨rfl, vs, g⟩
theorem ty_str {K : PySem.W.Frag} : Ty K "str" isS := fun x v st H ⟨z, e⟩ rx rs => by
  subst e
  cases rx
  exact rfl
section
variable {X : Cx} {o e : Expr} {es : List Expr} {mo : ME} {ma : MA} {name : Str} {apos cpos : Pos} {T id : String} {r : MM} {ty : D → Sto → Prop}
theorem de_m0 (pa : PlainAttrs T) (slot : Slot T name id) (hty : typeOf (.builtin id) = pure (.type "method_descriptor")) (tok : Ty X.K T ty) (hm : DM X id r) (ho : DE X o mo)
    (hbase : attributeBase o name X.env (eval o X.env) = eval o X.env := by rfl) (hline : (apos.endLine == cpos.line) = true := by rfl) : DE X (.Call (.Attribute o name apos) [] [] cpos) (mMeth ty r mo mNil) :=
  ⟨pe_mono (pe_bm0 pa slot hty hm.mt ho.pe hbase hline) fun σ H Q ⟨env, st, Q0, re, rs, h, k⟩ => lift_in re rs h fun x st1 x' H1 ⟨t, q⟩ ex rx re1 rs1 =>
    ⟨tok x x' st1 H1 t rx rs1, x, [], st1, Q0, rx, .nil, rs1, q, fun d st' v H' q e r s => k d st' v H' q (ex.trans e) r s⟩⟩
theorem de_m (pa : PlainAttrs T) (slot : Slot T name id) (hty : typeOf (.builtin id) = pure (.type "method_descriptor")) (tok : Ty X.K T ty) (hm : DM X id r) (ho : DE X o mo) (ha : DA X (e :: es) ma)
    (hbase : attributeBase o name X.env (eval o X.env) = eval o X.env := by rfl)
    (hfew : ((backTo cpos (starEach (e :: es) X.env)).all (fun x => !x.1) && (backToKw cpos (keywordEach [] X.env)).all (fun x => x.1.isSome)
      && decide ((e :: es).length + ([] : List Keyword).length + (if ([] : List Keyword).isEmpty then 0 else 1) < 30)) = true := by rfl)
    (hline : (apos.endLine == cpos.line) = true := by rfl) (hs : starEach (e :: es) X.env = (false, eval e X.env) :: starEach es X.env := by rfl) (hplain : (backTo cpos (starEach es X.env)).any (·.1) = false := by rfl) :
    DE X (.Call (.Attribute o name apos) (e :: es) [] cpos) (mMeth ty r mo ma) :=
  ⟨pe_mono (pe_bm pa slot hty hm.mt ho.pe ha.pa hbase hfew hline hs hplain) fun σ H Q ⟨env, st, Q0, re, rs, h, k⟩ => lift_in re rs h fun x st1 x' H1 ⟨t, q⟩ ex rx re1 rs1 =>
    ⟨tok x x' st1 H1 t rx rs1, liftA_in re1 rs1 q fun xs st2 xs' H2 q2 ex2 rxs re2 rs2 =>
      ⟨x, xs, st2, Q0, rx.mono ex2, rxs, rs2, q2, fun d st' v H' q e r s => k d st' v H' q (ex.trans (ex2.trans e)) r s⟩⟩⟩
def oAppend : MM
  | .ref a, [y], st, Q => ∃ xs, st a = some (.lst xs) ∧ xs.length < sizeLine ∧ Q .non (put st a (.lst (xs ++ [y])))
  | _, _, _, _ => False
def oPop : MM
  | .ref a, [], st, Q => ∃ xs y, st a = some (.lst xs) ∧ xs.getLast? = some y ∧ Q y (put st a (.lst xs.dropLast))
  | _, _, _, _ => False
def oExtend : MM
  | .ref a, [.ref b], st, Q => ∃ xs ys, st a = some (.lst xs) ∧ st b = some (.lst ys) ∧ xs.length + ys.length ≤ sizeLine ∧ Q .non (put st a (.lst (xs ++ ys)))
  | .ref a, [.tup ys], st, Q => ∃ xs, st a = some (.lst xs) ∧ xs.length + ys.length ≤ sizeLine ∧ Q .non (put st a (.lst (xs ++ ys)))
  | _, _, _, _ => False
theorem upd_mutL {H : Hp} {a : Addr} {vs : List V} {u : HO} (h : H a = some (.lst vs)) : Ext H (upd H a u) := .upd_mut (by rw [h]; trivial)
theorem dm_append : DM X "list.append" oAppend :=
  ⟨mtr_mono mt_append fun x xs H Q ⟨dx, ds, st, Q0, rx, rxs, rs, h, k⟩ => by
    unfold oAppend at h
    split at h
    · cases rx
      cases rxs with
      | cons ry t =>
        cases t
        obtain ⟨ys, e, hl, q⟩ := h
        obtain ⟨vs, g, r⟩ := rs _ _ e
        have ex : ∀ u, Ext H (upd H _ u) := fun u => upd_mutL g
        exact ⟨_, vs, _, rfl, rfl, g, by rw [← r.length]; exact hl, k _ _ _ _ q (ex _) .non (rs.put (ex _) ⟨_, upd_same, (r.append (.cons ry .nil)).mono (ex _)⟩)⟩
    · exact h.elim⟩
theorem dm_pop : DM X "list.pop" oPop :=
  ⟨mtr_mono mt_pop fun x xs H Q ⟨dx, ds, st, Q0, rx, rxs, rs, h, k⟩ => by
    unfold oPop at h
    split at h
    · cases rx
      cases rxs
      obtain ⟨ys, y, e, hl, q⟩ := h
      obtain ⟨vs, g, r⟩ := rs _ _ e
      rw [List.getLast?_eq_getElem?, r.length] at hl
      obtain ⟨v, hv, rv⟩ := r.get hl
      have ex : ∀ u, Ext H (upd H _ u) := fun u => upd_mutL g
      exact ⟨_, vs, v, rfl, rfl, g, hv, k _ _ _ _ q (ex _) (rv.mono (ex _)) (rs.put (ex _) ⟨_, upd_same, r.dropLast.mono (ex _)⟩)⟩
    · exact h.elim⟩
theorem list_extend_tup (l : Addr) (items : Array Value) (n : Nat) (b : Addr) (ob : Obj) (items2 : Array Value) (n2 : Nat) (hcb : ob.cls = .type "tuple") (hdb : ob.data = .seq items2 n2) (hs0 : ¬(!items.isEmpty && Builtin.List.listTooLong (items.size + items2.size)) = true) (hs1 : items.size ≤ sizeLine) (hs2 : items.size + items2.size ≤ sizeLine + 1) :
    Meets (Builtin.«list.extend» ⟨[.ref l, .ref b], []⟩) (fun _ R s => s.heap.get? l = some { cls := .type "list", dict := none, data := .seq items n, slots := #[] } ∧ s.heap.get? b = some ob ∧ R (.ok (.ret Value.none)) { s with heap := s.heap.update l (Obj.mapSeq fun x => x ++ items2), toks := s.toks }) :=
  .of_wp fun prog w A R s h => by
    obtain ⟨cls, dict, data, slots⟩ := ob
    simp only at hcb hdb
    subst hcb hdb
    obtain ⟨hp, g, d, tk, os⟩ := s; obtain ⟨hl, hb, h⟩ := h; have f1 := AutoSeq1.idx_int; have f2 := AutoSeq1.sub_tuple_tuple; have f3 := AutoSeq1.sub_list_list; have f4 := AutoSeq1.sub_tuple_list; have f5 := AutoSeq1.sub_list_tuple;
    have hz' : (items ++ items2).size ≤ sizeLine + 1 := by rw [Array.size_append]; exact hs2
    wp_walk using (wpAny_updateSeq hl rfl (hz := hs1) (_hz' := hz')), AutoSeq1.wpAny_loadPart' hl, AutoSeq1.wpAny_loadPart' hb; exact ⟨_, rfl, h⟩
theorem mt_extendT : MtR X "list.extend" (fun x vs H Q => ∃ l b xs zs, x = .ref l ∧ vs = [.ref b] ∧ H l = some (.lst xs) ∧ SqT X.K H b zs ∧ xs.length + zs.length ≤ sizeLine ∧ Q .non (upd H l (.lst (xs ++ zs)))) := by
  intro pins s σ H x vs v us Q I rx rv h
  obtain ⟨l, b, xs, zs, rfl, rfl, hH, hB, hz, q⟩ := h
  cases rx
  obtain ⟨u, rfl, ru⟩ := rv.one
  cases ru
  obtain ⟨z, its, n, r, hl, e⟩ := I.lstM hH
  obtain ⟨its2, r2, ⟨ob, e2, hc2, n2, hd2⟩, z2⟩ := I.tuple hB
  have hl2 := r2.length
  have hsz : its.toArray.size + its2.toArray.size ≤ sizeLine := by rw [List.size_toArray, List.size_toArray]; omega
  have hlong : ¬ (!its.toArray.isEmpty && Builtin.List.listTooLong (its.toArray.size + its2.toArray.size)) = true := by
    rw [notLongL hsz, Bool.and_false]
    exact Bool.false_ne_true
  refine call_meets F.slot_list_extend ⟨_, e, rfl⟩ F.entry_list_extend (F.args_list_extend_2 _ _)
    (list_extend_tup l its.toArray n b ob its2.toArray n2 hc2 hd2 hlong (by rw [List.size_toArray]; omega) (by omega)) ⟨e, e2, ?_⟩
  refine ⟨.non, _, I.lset (its' := its ++ its2) hH e (by simp) (r.append r2) ?_, rfl, q⟩
  rw [List.length_append]
  omega
theorem dm_extend : DM X "list.extend" oExtend :=
  ⟨mtr_mono (MtR.or (X := X) mt_extend mt_extendT) fun x xs H Q ⟨dx, ds, st, Q0, rx, rxs, rs, h, k⟩ => by
    unfold oExtend at h
    split at h
    · cases rx
      cases rxs with
      | cons ry t =>
        cases t
        cases ry
        obtain ⟨xs, ys, e, e2, hl, q⟩ := h
        obtain ⟨vs, g, r⟩ := rs _ _ e
        obtain ⟨ws, g2, r2⟩ := rs _ _ e2
        have ex : ∀ u, Ext H (upd H _ u) := fun u => upd_mutL g
        exact .inl ⟨_, _, vs, ws, rfl, rfl, g, g2, by rw [← r.length, ← r2.length]; exact hl, k _ _ _ _ q (ex _) .non (rs.put (ex _) ⟨_, upd_same, (r.append r2).mono (ex _)⟩)⟩
    · cases rx
      cases rxs with
      | cons ry t =>
        cases t
        obtain ⟨b, ws, rfl, g2, r2⟩ := ry.tup_of
        obtain ⟨xs, e, hl, q⟩ := h
        obtain ⟨vs, g, r⟩ := rs _ _ e
        have ex : ∀ u, Ext H (upd H _ u) := fun u => upd_mutL g
        exact .inr ⟨_, _, vs, ws, rfl, rfl, g, g2, by rw [← r.length, ← r2.length]; exact hl, k _ _ _ _ q (ex _) .non (rs.put (ex _) ⟨_, upd_same, (r.append r2).mono (ex _)⟩)⟩
    · exact h.elim⟩
/-- the texts of a list or tuple -/
def textsD : List D → Option (List Str)
  | [] => some []
  | .str x :: ds => (textsD ds).map (x :: ·)
  | _ :: _ => none
theorem texts_eq : ∀ {ds : List D} {xs : List Str}, textsD ds = some xs → ds = xs.map D.str
  | [], _, e => by simp only [textsD, Option.some.injEq] at e; subst e; rfl
  | .str x :: ds, _, e => by
    simp only [textsD, Option.map_eq_some_iff] at e
    obtain ⟨ys, e, rfl⟩ := e
    rw [texts_eq e]; rfl
  | .non :: _, _, e => by simp [textsD] at e
  | .bl _ :: _, _, e => by simp [textsD] at e
  | .int _ :: _, _, e => by simp [textsD] at e
  | .ty _ :: _, _, e => by simp [textsD] at e
  | .ref _ :: _, _, e => by simp [textsD] at e
  | .tup _ :: _, _, e => by simp [textsD] at e
theorem texts_map : ∀ (xs : List Str), textsD (xs.map D.str) = some xs
  | [] => rfl
  | x :: xs => by simp only [List.map_cons, textsD, texts_map xs, Option.map_some]
/-- what a sequence holds -/
def seqD (st : Sto) : D → Option (List D)
  | .tup xs => some xs
  | .ref a => rdL (st a)
  | _ => none
def oJoin : MM
  | .str a, [y], st, Q => ∃ ds ys, seqD st y = some ds ∧ textsD ds = some ys ∧ (ys.map (·.length)).sum + ys.length * a.length ≤ 16777216 ∧ Q (.str (Txt.join a ys)) st
  | _, _, _, _ => False
theorem seqD_rel {K : PySem.W.Frag} {H : Hp} {st : Sto} {y : D} {v : V} {ds : List D} (rs : RelSto K H st) (r : RelD K H y v) (e : seqD st y = some ds) : ∃ b ws, v = .ref b ∧ (SqL K H b ws ∨ SqT K H b ws) ∧ RelDs K H ds ws := by
  cases y with
  | tup zs =>
    simp only [seqD, Option.some.injEq] at e
    subst e
    obtain ⟨b, ws, rfl, g2, r2⟩ := r.tup_of
    exact ⟨b, ws, rfl, .inr g2, r2⟩
  | ref b =>
    cases r
    obtain ⟨ws, g2, r2⟩ := rs.rdL e
    exact ⟨b, ws, rfl, .inl g2, r2⟩
  | _ => simp [seqD] at e
theorem dm_join : DM X "str.join" oJoin :=
  ⟨mtr_mono mt_join fun x xs H Q ⟨dx, ds, st, Q0, rx, rxs, rs, h, k⟩ => by
    unfold oJoin at h
    split at h
    · cases rx
      cases rxs with
      | cons ry t =>
        cases t
        obtain ⟨ds, ys, e, e2, hl, q⟩ := h
        have e3 := texts_eq e2
        subst e3
        obtain ⟨b, ws, rfl, g, r2⟩ := seqD_rel rs ry e
        rw [r2.strs] at g
        exact ⟨_, b, ys, rfl, rfl, g, hl, k _ st _ H q .refl (.str _) rs⟩
    · exact h.elim⟩
def oFind : MM
  | .str a, [.str b], st, Q => Q (.int (Txt.find a b)) st
  | _, _, _, _ => False
theorem dm_find : DM X "str.find" oFind :=
  ⟨mtr_mono mt_find fun x xs H Q ⟨dx, ds, st, Q0, rx, rxs, rs, h, k⟩ => by
    unfold oFind at h
    split at h
    · cases rx
      cases rxs with
      | cons ry t =>
        cases t
        cases ry
        exact ⟨_, _, rfl, rfl, k _ st _ H h .refl (.int _) rs⟩
    · exact h.elim⟩
end

/-! ### built-in functions -/
section
variable {X : Cx}
def oLen : MC
  | [.str z], st, Q => z.length ≤ sizeLine ∧ Q (.int z.length) st
  | [.tup xs], st, Q => Q (.int xs.length) st
  | [.ref a], st, Q => (∃ xs, rdL (st a) = some xs ∧ Q (.int xs.length) st) ∨ (∃ kvs, st a = some (.dic kvs) ∧ Q (.int kvs.length) st)
  | _, _, _ => False
theorem dc_len : DC X (.builtin "len") oLen :=
  ⟨callr_mono (((call_len_str (X := X)).or call_len_seq).or call_lenD) fun xs H Q ⟨ds, st, Q0, rx, rs, h, k⟩ => by
    unfold oLen at h
    split at h
    · cases rx with
      | cons r t =>
        cases t; cases r
        exact .inl (.inl ⟨_, rfl, h.1, k _ st _ H h.2 .refl (.int _) rs⟩)
    · cases rx with
      | cons r t =>
        cases t
        obtain ⟨a, vs, rfl, g, r⟩ := r.tup_of
        exact .inl (.inr ⟨a, vs, rfl, .inr g, by rw [← r.length]; exact k _ st _ H h .refl (.int _) rs⟩)
    · cases rx with
      | cons r t =>
        cases t; cases r
        rcases h with ⟨ys, e, h⟩ | ⟨kvs, e, h⟩
        · obtain ⟨vs, g, r⟩ := rs.rdL e
          exact .inl (.inr ⟨_, vs, rfl, .inl g, by rw [← r.length]; exact k _ st _ H h .refl (.int _) rs⟩)
        · obtain ⟨ws, g, r⟩ := rs _ _ e
          exact .inr ⟨_, ws, rfl, g, by rw [r.length]; exact k _ st _ H h .refl (.int _) rs⟩
    · exact h.elim⟩
def oAbs : MC
  | [.int i], st, Q => Q (.int (if i < 0 then -i else i)) st
  | _, _, _ => False
theorem dc_abs : DC X (.builtin "abs") oAbs :=
  ⟨callr_mono call_abs fun xs H Q ⟨ds, st, Q0, rx, rs, h, k⟩ => by
    unfold oAbs at h
    split at h
    · cases rx with
      | cons r t =>
        cases t; cases r
        exact ⟨_, rfl, k _ st _ H h .refl (.int _) rs⟩
    · exact h.elim⟩
def oInt : MC
  | [.int i], st, Q => Q (.int i) st
  | [.bl b], st, Q => Q (.int (if b then 1 else 0)) st
  | _, _, _ => False
theorem dc_int : DC X (.type "int") oInt :=
  ⟨callr_mono call_int1 fun xs H Q ⟨ds, st, Q0, rx, rs, h, k⟩ => by
    unfold oInt at h
    split at h
    · cases rx with
      | cons r t =>
        cases t; cases r
        exact .inl ⟨_, rfl, k _ st _ H h .refl (.int _) rs⟩
    · cases rx with
      | cons r t =>
        cases t; cases r
        exact .inr ⟨_, rfl, k _ st _ H h .refl (.int _) rs⟩
    · exact h.elim⟩
def oMax : MC
  | [.int i, .int j], st, Q => Q (.int (if j > i then j else i)) st
  | _, _, _ => False
theorem dc_max (hc : X.calm = true) : DC X (.builtin "max") oMax :=
  ⟨callr_mono (call_max2 hc) fun xs H Q ⟨ds, st, Q0, rx, rs, h, k⟩ => by
    unfold oMax at h
    split at h
    · cases rx with
      | cons r t =>
        cases t with
        | cons r2 t =>
          cases t; cases r; cases r2
          exact ⟨_, _, rfl, k _ st _ H h .refl (.int _) rs⟩
    · exact h.elim⟩
def oMin : MC
  | [.int i, .int j], st, Q => Q (.int (if j < i then j else i)) st
  | _, _, _ => False
theorem dc_min (hc : X.calm = true) : DC X (.builtin "min") oMin :=
  ⟨callr_mono (call_min2 hc) fun xs H Q ⟨ds, st, Q0, rx, rs, h, k⟩ => by
    unfold oMin at h
    split at h
    · cases rx with
      | cons r t =>
        cases t with
        | cons r2 t =>
          cases t; cases r; cases r2
          exact ⟨_, _, rfl, k _ st _ H h .refl (.int _) rs⟩
    · exact h.elim⟩
def oTuple : MC
  | [.tup xs], st, Q => Q (.tup xs) st
  | [.ref a], st, Q => ∃ xs, rdL (st a) = some xs ∧ Q (.tup xs) st
  | _, _, _ => False
theorem dc_tuple : DC X (.type "tuple") oTuple :=
  ⟨callr_mono call_tuple_of fun xs H Q ⟨ds, st, Q0, rx, rs, h, k⟩ => by
    unfold oTuple at h
    split at h
    · cases rx with
      | cons r t =>
        cases t
        obtain ⟨a, vs, rfl, g, r2⟩ := id r.tup_of
        exact ⟨a, vs, rfl, .inr ⟨g, k _ st _ H h .refl r rs⟩⟩
    · cases rx with
      | cons r t =>
        cases t; cases r
        obtain ⟨ys, e, h⟩ := h
        obtain ⟨vs, g, r⟩ := rs.rdL e
        refine ⟨_, vs, rfl, .inl ⟨g, fun p hp => ?_⟩⟩
        have ex : Ext H (upd H p (.tup vs)) := .upd_new hp
        exact k _ st _ _ h ex (.tup (.of upd_same) (r.mono ex)) (rs.new hp)
    · exact h.elim⟩
/-- the signs of a text, each by itself -/
def signsD (z : Str) : List D := z.cps.toList.map fun c => D.str ⟨#[c]⟩
def oList : MC
  | [.tup xs], st, Q => ∀ p, Nf st p → Q (.ref p) (put st p (.lst xs))
  | [.ref a], st, Q => ∃ xs, rdL (st a) = some xs ∧ ∀ p, Nf st p → Q (.ref p) (put st p (.lst xs))
  | [.str z], st, Q => z.length ≤ sizeLine ∧ ∀ p, Nf st p → Q (.ref p) (put st p (.lst (signsD z)))
  | _, _, _ => False
theorem call_list_strV (hc : X.calm = true) : CallR X (.type "list") (fun xs H Q => ∃ z : Str, xs = [.str z] ∧ z.length ≤ sizeLine ∧ ∀ l, H l = none → Q (.ref l) (upd H l (.lst (z.cps.toList.map fun c => V.str ⟨#[c]⟩)))) := by
  intro pins s σ H xs us Q I rx h
  obtain ⟨z, rfl, hz, q⟩ := h
  obtain ⟨u, rfl, ru⟩ := vals1 rx
  obtain ⟨t, rfl⟩ := ru
  refine call_list_str (I.ok.hd hc) z t (hn := hz) fun h' tk acc' c' hk hS' hacc => ?_
  have hf : H s.heap.objs.size = none := I.fresh
  have hv : Vals (z.cps.toList.map fun c => V.str ⟨#[c]⟩) acc'.toList := by
    refine vals_of_at ?_ ?_
    · have := hacc.1
      simp only [List.length_map, Array.length_toList]
      simpa using this.symm
    · intro j x u hx hu
      rw [List.getElem?_map] at hx
      obtain ⟨c, u', hc, rfl⟩ := hacc.2 j u (by simpa using hu)
      have hc' : z.cps.toList[j]? = some c := by simpa using hc
      rw [hc'] at hx
      cases hx
      exact ⟨_, rfl⟩
  refine ⟨.ref s.heap.objs.size, _, I.laid (a := s.heap.objs.size) (o := .lst (z.cps.toList.map fun c => V.str ⟨#[c]⟩)) (t' := tk) hk (Nat.le_refl _) ⟨?_, acc'.toList, c', hv, by simpa using hS'⟩, rfl, q _ hf⟩
  simpa [Str.length] using hz
theorem dc_list (hc : X.calm = true) : DC X (.type "list") oList :=
  ⟨callr_mono ((call_list_of (X := X)).or (call_list_strV hc)) fun xs H Q ⟨ds, st, Q0, rx, rs, h, k⟩ => by
    unfold oList at h
    split at h
    · cases rx with
      | cons r t =>
        cases t
        obtain ⟨a, vs, rfl, g, r⟩ := r.tup_of
        refine .inl ⟨a, vs, rfl, .inr g, fun p hp => ?_⟩
        have ex : Ext H (upd H p (.lst vs)) := .upd_new hp
        exact k _ _ _ _ (h p (rs.fresh hp)) ex (.ref p) (rs.put ex ⟨_, upd_same, r.mono ex⟩)
    · cases rx with
      | cons r t =>
        cases t; cases r
        obtain ⟨ys, e, h⟩ := h
        obtain ⟨vs, g, r⟩ := rs.rdL e
        refine .inl ⟨_, vs, rfl, .inl g, fun p hp => ?_⟩
        have ex : Ext H (upd H p (.lst vs)) := .upd_new hp
        exact k _ _ _ _ (h p (rs.fresh hp)) ex (.ref p) (rs.put ex ⟨_, upd_same, r.mono ex⟩)
    · cases rx with
      | cons r t =>
        cases t; cases r
        refine .inr ⟨_, rfl, h.1, fun p hp => ?_⟩
        have ex : ∀ u, Ext H (upd H p u) := fun u => .upd_new hp
        refine k _ _ _ _ (h.2 p (rs.fresh hp)) (ex _) (.ref p) (rs.put (ex _) ⟨_, upd_same, ?_⟩)
        have go : ∀ (H' : Hp) (l : List Nat), RelDs X.K H' (l.map fun c => D.str ⟨#[c]⟩) (l.map fun c => V.str ⟨#[c]⟩) := by
          intro H' l
          induction l with
          | nil => exact .nil
          | cons c l ih => exact .cons (.str _) ih
        exact go _ _
    · exact h.elim⟩
end
end L2.DL

namespace L2.DL
open PySem PySem.Spec PyProof.Rows

/-! ### statements -/
def sNext : MS := fun D env st => D.nx env st
def sSeq (t u : MS) : MS := fun D env st => t { D with nx := u D } env st
def sBreak : MS := fun D env st => D.bk env st
def sCont : MS := fun D env st => D.ct env st
def sDrop (m : ME) : MS := fun D env st => m env st fun _ st1 => D.nx env st1
def sRet (m : ME) : MS := fun D env st => m env st D.rt
def sRetN : MS := fun D _ st => D.rt .non st
def sIf (c : MT) (t u : MS) : MS := fun D env st => c env st fun b st1 => if b = true then t D env st1 else u D env st1
abbrev MG := D → Env → Sto → (Env → Sto → Prop) → Prop
abbrev MGs := List D → Env → Sto → (Env → Sto → Prop) → Prop
def gN (i : Nat) : MG := fun d env st Q => Q (env.set i (some d)) st
def gNil : MGs := fun ds env st Q => ds = [] ∧ Q env st
def gCons (g : MG) (gs : MGs) : MGs := fun ds env st Q => ∃ d r, ds = d :: r ∧ g d env st fun env' st' => gs r env' st' Q
def gTup (n : Nat) (gs : MGs) : MG := fun d env st Q => ∃ ds, d = .tup ds ∧ ds.length = n ∧ gs ds env st Q
/-- o[i] = v, by values -/
abbrev M3 := D → D → D → Sto → (Sto → Prop) → Prop
def gSub (mo mi : ME) (r : M3) : MG := fun d env st Q => mo env st fun o st1 => mi env st1 fun i st2 => r o i d st2 fun st3 => Q env st3
def sAsg (m : ME) (g : MG) : MS := fun D env st => m env st fun d st1 => g d env st1 D.nx
def sPar (i j : Nat) (m : MA) : MS := fun D env st => m env st fun ds st1 => ∃ v w, ds = [v, w] ∧ D.nx ((env.set i (some v)).set j (some w)) st1
def sPar3 (i j l : Nat) (m : MA) : MS := fun D env st => m env st fun ds st1 => ∃ u v w, ds = [u, v, w] ∧ D.nx (((env.set i (some u)).set j (some v)).set l (some w)) st1
def sAug (i : Nat) (m : ME) (r : M2) : MS := fun D env st => ∃ x, env[i]? = some (some x) ∧ m env st fun y st1 => r x y st1 fun z st2 => D.nx (env.set i (some z)) st2

def liftG (K : PySem.W.Frag) (g : MG) : TG := fun v σ H Q' => ∃ d env st Q, RelD K H d v ∧ RelE K H env σ ∧ RelSto K H st ∧ g d env st Q ∧
  ∀ env' st' σ' H', Q env' st' → Ext H H' → RelE K H' env' σ' → RelSto K H' st' → Q' σ' H'
def liftGs (K : PySem.W.Frag) (g : MGs) : TGs := fun vs σ H Q' => ∃ ds env st Q, RelDs K H ds vs ∧ RelE K H env σ ∧ RelSto K H st ∧ g ds env st Q ∧
  ∀ env' st' σ' H', Q env' st' → Ext H H' → RelE K H' env' σ' → RelSto K H' st' → Q' σ' H'
structure DG (X : Cx) (t : Expr) (g : MG) : Prop where
  pg : PG X t (liftG X.K g)
structure DGs (X : Cx) (t : List Expr) (g : MGs) : Prop where
  pgs : PGs X t (liftGs X.K g)
theorem pg_mono {X : Cx} {e : Expr} {t t' : TG} (h : PG X e t) (k : ∀ v σ H Q, t' v σ H Q → t v σ H Q) : PG X e t' := ⟨fun pins s σ H v u Q I r hw => h.run pins s σ H v u Q I r (k _ _ _ _ hw)⟩
theorem pgs_mono {X : Cx} {e : List Expr} {t t' : TGs} (h : PGs X e t) (k : ∀ v σ H Q, t' v σ H Q → t v σ H Q) : PGs X e t' := ⟨fun pins s σ H v u Q I r hw => h.run pins s σ H v u Q I r (k _ _ _ _ hw)⟩

section
variable {X : Cx} {st : Stmt} {rest : List Stmt} {t u : MS} {e : Expr} {m : ME} {pos : Pos}
theorem dss_nil : DSs X [] sNext := ⟨pss_mono pss_nil fun D σ H ⟨env, st, D0, re, rs, h, k, _⟩ => k env st σ H h .refl re rs⟩
theorem dss_cons (h1 : DS X st t) (h2 : DSs X rest u) : DSs X (st :: rest) (sSeq t u) :=
  ⟨pss_mono (pss_cons h1.ps h2.pss) fun D σ H ⟨env, st, D0, re, rs, h, k1, k2, k3, k4⟩ => by
    refine ⟨env, st, { D0 with nx := u D0 }, re, rs, h, fun env' st' σ' H' q e re' rs' => ?_, k2, k3, k4⟩
    exact ⟨env', st', D0, re', rs', q, fun a b c d q e2 => k1 a b c d q (e.trans e2), fun a b c d q e2 => k2 a b c d q (e.trans e2), fun a b c d q e2 => k3 a b c d q (e.trans e2), fun a b c d q e2 => k4 a b c d q (e.trans e2)⟩⟩
theorem dss_one (h1 : DS X st t) : DSs X [st] t := ⟨pss_one h1.ps⟩
theorem ds_pass : DS X (.Pass pos) sNext := ⟨ps_mono ps_pass fun D σ H ⟨env, st, D0, re, rs, h, k, _⟩ => k env st σ H h .refl re rs⟩
theorem ds_break : DS X (.Break pos) sBreak := ⟨ps_mono ps_break fun D σ H ⟨env, st, D0, re, rs, h, k1, k2, k3, k4⟩ => k3 env st σ H h .refl re rs⟩
theorem ds_continue : DS X (.Continue pos) sCont := ⟨ps_mono ps_continue fun D σ H ⟨env, st, D0, re, rs, h, k1, k2, k3, k4⟩ => k4 env st σ H h .refl re rs⟩
theorem ds_expr (he : DE X e m) (hs : swapsWith e none pos.line X.env = pure false := by rfl) : DS X (.Expr e pos) (sDrop m) :=
  ⟨ps_mono (ps_expr he.pe hs) fun D σ H ⟨env, st, D0, re, rs, h, k1, _⟩ => lift_in re rs h fun d st1 v H1 q e r re1 rs1 => k1 env st1 σ H1 q e re1 rs1⟩
theorem ds_ret (he : DE X e m) : DS X (.Return (some e) pos) (sRet m) :=
  ⟨ps_mono (ps_ret he.pe) fun D σ H ⟨env, st, D0, re, rs, h, k1, k2, _⟩ => ⟨env, st, D0.rt, re, rs, h, k2⟩⟩
theorem ds_retN : DS X (.Return none pos) sRetN :=
  ⟨ps_mono ps_retN fun D σ H ⟨env, st, D0, re, rs, h, k1, k2, _⟩ => k2 _ st _ H h .refl .non rs⟩
theorem ds_if {c : Expr} {a b : List Stmt} {tc : MT} (hc : DT X c tc) (ha : DSs X a t) (hb : DSs X b u) : DS X (.If c a b pos) (sIf tc t u) :=
  ⟨ps_mono (ps_if hc.pt ha.pss hb.pss) fun D σ H ⟨env, st, D0, re, rs, h, k1, k2, k3, k4⟩ => by
    refine liftT_in re rs h fun c st1 H1 q e re1 rs1 => ?_
    cases c with
    | true => exact ⟨env, st1, D0, re1, rs1, q, fun a b c d q e2 => k1 a b c d q (e.trans e2), fun a b c d q e2 => k2 a b c d q (e.trans e2), fun a b c d q e2 => k3 a b c d q (e.trans e2), fun a b c d q e2 => k4 a b c d q (e.trans e2)⟩
    | false => exact ⟨env, st1, D0, re1, rs1, q, fun a b c d q e2 => k1 a b c d q (e.trans e2), fun a b c d q e2 => k2 a b c d q (e.trans e2), fun a b c d q e2 => k3 a b c d q (e.trans e2), fun a b c d q e2 => k4 a b c d q (e.trans e2)⟩⟩
/-! targets -/
theorem dg_name {i : Nat} {x : Str} (hN : X.N.Nodup) (hi : X.N[i]? = some x) (hx : Loc X.env.scope x) (hf : X.fn x = true ∨ X.env.scope.names.lookup x = some .local := by first | exact .inl rfl | exact .inr rfl | assumption) : DG X (.Name x pos) (gN i) :=
  ⟨pg_mono (pg_name hN hi hx hf) fun v σ H Q ⟨d, env, st, Q0, r, re, rs, h, k⟩ => k _ st _ H h .refl (re.set r i) rs⟩
theorem dgs_nil : DGs X [] gNil := ⟨pgs_mono pgs_nil fun vs σ H Q ⟨ds, env, st, Q0, r, re, rs, ⟨e, h⟩, k⟩ => by
  subst e
  cases r
  exact ⟨rfl, k env st σ H h .refl re rs⟩⟩
theorem dgs_cons {es : List Expr} {g : MG} {gs : MGs} (h1 : DG X e g) (h2 : DGs X es gs)
    (hs : (assignEach (e :: es) X.env).map (·.2) = assign e X.env :: (assignEach es X.env).map (·.2) := by rfl) : DGs X (e :: es) (gCons g gs) :=
  ⟨pgs_mono (pgs_cons h1.pg h2.pgs hs) fun vs σ H Q ⟨ds, env, st, Q0, r, re, rs, ⟨d, dr, e, h⟩, k⟩ => by
    subst e
    cases r with
    | cons r t =>
      refine ⟨_, _, rfl, d, env, st, _, r, re, rs, h, fun env' st' σ' H' q e re' rs' => ?_⟩
      exact ⟨dr, env', st', Q0, t.mono e, re', rs', q, fun a b c d q e2 => k a b c d q (e.trans e2)⟩⟩
theorem dg_tup {es : List Expr} {k : Nat} {gs : MGs} {n : Nat} (hc : X.calm = true) (h : DGs X es gs)
    (hn : (assignEach es X.env).length = n := by rfl) (hst : (assignEach es X.env).findIdx? (·.1) = none := by rfl) : DG X (.Tuple es k pos) (gTup n gs) :=
  ⟨pg_mono (pg_tup hc h.pgs hn hst) fun v σ H Q ⟨d, env, st, Q0, r, re, rs, ⟨ds, e, hl, h⟩, k⟩ => by
    subst e
    obtain ⟨a, vs, rfl, g, r2⟩ := r.tup_of
    exact ⟨a, vs, rfl, g, by rw [← r2.length]; exact hl, ds, env, st, Q0, r2, re, rs, h, k⟩⟩
/-- setting an item -/
def lift3 (K : PySem.W.Frag) (r : M3) : TSet := fun o i v H Q' => ∃ dO dI d st Q, RelD K H dO o ∧ RelD K H dI i ∧ RelD K H d v ∧ RelSto K H st ∧ r dO dI d st Q ∧ ∀ st' H', Q st' → Ext H H' → RelSto K H' st' → Q' H'
structure DSet (X : Cx) (r : M3) : Prop where
  set : PSet X (lift3 X.K r)
def putD {κ : Type} [DecidableEq κ] (kvs : List (κ × D)) (k : κ) (v : D) : List (κ × D) :=
  if kvs.any (fun kv => decide (kv.1 = k)) = true then kvs.map (fun kv => if kv.1 = k then (kv.1, v) else kv) else kvs ++ [(k, v)]
def oSet : M3
  | .ref a, y, v, st, Q => (∃ xs i j, st a = some (.lst xs) ∧ y = .int i ∧ ixN xs.length i = some j ∧ Q (put st a (.lst (xs.set j v)))) ∨
      (∃ kvs k, st a = some (.dic kvs) ∧ keyD y = some k ∧ kvs.length < sizeLine ∧ Q (put st a (.dic (putD kvs k v))))
  | _, _, _, _, _ => False
theorem RelK.any {κ : Type} [DecidableEq κ] {K : PySem.W.Frag} {H : Hp} (k : κ) : ∀ {ds : List (κ × D)} {vs : List (κ × V)}, RelK K H ds vs → (vs.any fun kv => decide (kv.1 = k)) = ds.any fun kv => decide (kv.1 = k)
  | _, _, .nil => rfl
  | _, _, .cons r t => by rw [List.any_cons, List.any_cons, RelK.any k t]
theorem RelK.map {κ : Type} [DecidableEq κ] {K : PySem.W.Frag} {H : Hp} (k : κ) {d : D} {v : V} (rv : RelD K H d v) : ∀ {ds : List (κ × D)} {vs : List (κ × V)}, RelK K H ds vs →
    RelK K H (ds.map fun kv => if kv.1 = k then (kv.1, d) else kv) (vs.map fun kv => if kv.1 = k then (kv.1, v) else kv)
  | _, _, .nil => .nil
  | _, _, .cons (k := k') r t => by
    rw [List.map_cons, List.map_cons]
    by_cases e : k' = k
    · rw [if_pos e, if_pos e]; exact .cons rv (RelK.map k rv t)
    · rw [if_neg e, if_neg e]; exact .cons r (RelK.map k rv t)
theorem RelK.snoc {κ : Type} {K : PySem.W.Frag} {H : Hp} (k : κ) {d : D} {v : V} (rv : RelD K H d v) : ∀ {ds : List (κ × D)} {vs : List (κ × V)}, RelK K H ds vs → RelK K H (ds ++ [(k, d)]) (vs ++ [(k, v)])
  | _, _, .nil => .cons rv .nil
  | _, _, .cons r t => .cons r (RelK.snoc k rv t)
theorem RelK.put {κ : Type} [DecidableEq κ] {K : PySem.W.Frag} {H : Hp} (k : κ) {d : D} {v : V} (rv : RelD K H d v) {ds : List (κ × D)} {vs : List (κ × V)} (h : RelK K H ds vs) : RelK K H (putD ds k d) (putK vs k v) := by
  unfold putD putK
  rw [h.any k]
  split
  · exact h.map k rv
  · exact h.snoc k rv
theorem set_dict (hu : X.A.units + 1 < cLine) : PSet X (fun o i v H Q => ∃ a H', o = .ref a ∧ DPut H a i v H' ∧ Q H') := by
  intro pins s σ H o i v ov iv u Q I ro ri rv h
  obtain ⟨a, H', rfl, g, q⟩ := h
  obtain rfl : ov = Value.ref a := ro
  exact d_setItem hu I g ri rv fun s' I' => ⟨H', I', q⟩
theorem pset_mono {r r' : TSet} (h : PSet X r) (k : ∀ o i v H Q, r' o i v H Q → r o i v H Q) : PSet X r' := fun pins s σ H o i v ov iv u Q I ro ri rv q => h pins s σ H o i v ov iv u Q I ro ri rv (k _ _ _ _ _ q)
theorem pset_or {r r' : TSet} (h : PSet X r) (h' : PSet X r') : PSet X (fun o i v H Q => r o i v H Q ∨ r' o i v H Q) := fun pins s σ H o i v ov iv u Q I ro ri rv q => by
  rcases q with q | q
  · exact h pins s σ H o i v ov iv u Q I ro ri rv q
  · exact h' pins s σ H o i v ov iv u Q I ro ri rv q
theorem dset_all (hu : X.A.units + 1 < cLine) : DSet X oSet :=
  ⟨pset_mono (pset_or set_list (set_dict hu)) fun o i v H Q ⟨dO, dI, d, st, Q0, ro, ri, rv, rs, h, k⟩ => by
    cases dO <;> simp only [oSet] at h <;> try exact h.elim
    cases ro
    rcases h with ⟨xs, j, n, e1, rfl, e2, q⟩ | ⟨kvs, kk, e1, e2, hl, q⟩
    · cases ri
      obtain ⟨vs, g, r⟩ := rs _ _ e1
      have ex : ∀ u, Ext H (upd H _ u) := fun u => upd_mutL g
      exact .inl ⟨_, vs, j, n, rfl, rfl, g, by rw [← r.length]; exact e2, k _ _ q (ex _) (rs.put (ex _) ⟨_, upd_same, (r.set rv n).mono (ex _)⟩)⟩
    · obtain ⟨ws, g, r⟩ := rs _ _ e1
      have ek := key_rel ri e2
      subst ek
      have ex : ∀ u, Ext H (upd H _ u) := fun u => .upd_mut (by rw [g]; trivial)
      exact .inr ⟨_, _, rfl, DPut.k g (by rw [r.length]; exact hl), k _ _ q (ex _) (rs.put (ex _) ⟨_, upd_same, (r.put kk rv).mono (ex _)⟩)⟩⟩
theorem dg_sub {o i : Expr} {mo mi : ME} {r : M3} (ho : DE X o mo) (hi : DE X i mi) (hs : DSet X r)
    (ha : ∀ v, assign (.Subscript o i pos) X.env v = (do
      let ov ← holding [v] (eval o X.env)
      let iv ← holding [v, ov] (eval i X.env)
      standAt pos
      holding [v, ov, iv] (setItem ov iv v)
      release [v, ov, iv] []) := by intro _; rfl) : DG X (.Subscript o i pos) (gSub mo mi r) :=
  ⟨pg_mono (pg_sub ho.pe hi.pe hs.set ha) fun v σ H Q ⟨d, env, st, Q0, rd, re, rs, h, k⟩ => by
    refine lift_in re rs h fun x st1 x' H1 q1 e1 rx re1 rs1 => ?_
    refine lift_in re1 rs1 q1 fun y st2 y' H2 q2 e2 ry re2 rs2 => ?_
    exact ⟨x, y, d, st2, _, rx.mono e2, ry, rd.mono (e1.trans e2), rs2, q2, fun st3 H3 q3 e3 rs3 => k env st3 σ H3 q3 (e1.trans (e2.trans e3)) (re2.mono e3) rs3⟩⟩
theorem ds_asg {tg : Expr} {g : MG} (he : DE X e m) (hg : DG X tg g) (hs : swapsWithSole [tg] e pos.line X.env = pure false := by rfl) (hw : swappedStores [tg] e X.env = pure none := by rfl)
    (h1 : (assignEach [tg] X.env).map (·.2) = [assign tg X.env] := by rfl) : DS X (.Assign [tg] e pos) (sAsg m g) :=
  ⟨ps_mono (ps_asg he.pe hg.pg hs hw h1) fun D σ H ⟨env, st, D0, re, rs, h, k1, _⟩ => by
    refine lift_in re rs h fun x st1 x' H1 q1 e1 rx re1 rs1 => ?_
    exact ⟨x, env, st1, _, rx, re1, rs1, q1, fun env' st' σ' H' q e re' rs' => k1 env' st' σ' H' q (e1.trans e) re' rs'⟩⟩
theorem ds_set {i : Nat} {x : Str} {pos' : Pos} (hN : X.N.Nodup) (hi : X.N[i]? = some x) (hx : Loc X.env.scope x) (he : DE X e m) (hs : swapsWith e (some (.Name x pos')) pos.line X.env = pure false := by rfl) (hf : X.fn x = true ∨ X.env.scope.names.lookup x = some .local := by first | exact .inl rfl | exact .inr rfl | assumption) :
    DS X (.Assign [.Name x pos'] e pos) (sAsg m (gN i)) :=
  ⟨ps_mono (ps_set hN hi hx he.pe hs hf) fun D σ H ⟨env, st, D0, re, rs, h, k1, _⟩ => by
    refine lift_in re rs h fun x st1 x' H1 q1 e1 rx re1 rs1 => ?_
    exact k1 _ st1 _ H1 q1 e1 (re1.set rx i) rs1⟩
theorem ds_par {i j : Nat} {x y : Str} {a b : Expr} {ma : MA} {px py pt : Pos} {kt k2 pt2} (hc : X.calm = true) (hN : X.N.Nodup) (hi : X.N[i]? = some x) (hj : X.N[j]? = some y) (hij : i ≠ j)
    (hx : X.env.scope.names.lookup x = some .local) (hy : X.env.scope.names.lookup y = some .local) (ha : DA X [a, b] ma)
    (hw : swappedStores [.Tuple [.Name x px, .Name y py] kt pt] (.Tuple [a, b] k2 pt2) X.env = pure (some [x, y]))
    (hs : swapsWithSole [.Tuple [.Name x px, .Name y py] kt pt] (.Tuple [a, b] k2 pt2) pos.line X.env = pure false := by rfl) :
    DS X (.Assign [.Tuple [.Name x px, .Name y py] kt pt] (.Tuple [a, b] k2 pt2) pos) (sPar i j ma) :=
  ⟨ps_mono (ps_par hc hN hi hj hij hx hy ha.pa hw hs) fun D σ H ⟨env, st, D0, re, rs, h, k1, _⟩ => by
    refine liftA_in re rs h fun xs st1 xs' H1 ⟨v, w, e, q⟩ e1 rx re1 rs1 => ?_
    subst e
    cases rx with
    | cons r1 t =>
      cases t with
      | cons r2 t =>
        cases t
        exact ⟨_, _, rfl, k1 _ st1 _ H1 q e1 ((re1.set r1 i).set r2 j) rs1⟩⟩
theorem ds_par3 {i j l : Nat} {x y z : Str} {a b c : Expr} {ma : MA} {px py pz pt : Pos} {kt k2 pt2} (hc : X.calm = true) (hN : X.N.Nodup) (hi : X.N[i]? = some x) (hj : X.N[j]? = some y) (hl : X.N[l]? = some z) (hij : i ≠ j) (hil : i ≠ l) (hjl : j ≠ l)
    (hx : X.env.scope.names.lookup x = some .local) (hy : X.env.scope.names.lookup y = some .local) (hz : X.env.scope.names.lookup z = some .local) (ha : DA X [a, b, c] ma)
    (hw : swappedStores [.Tuple [.Name x px, .Name y py, .Name z pz] kt pt] (.Tuple [a, b, c] k2 pt2) X.env = pure (some [x, y, z]))
    (hs : swapsWithSole [.Tuple [.Name x px, .Name y py, .Name z pz] kt pt] (.Tuple [a, b, c] k2 pt2) pos.line X.env = pure false := by rfl) :
    DS X (.Assign [.Tuple [.Name x px, .Name y py, .Name z pz] kt pt] (.Tuple [a, b, c] k2 pt2) pos) (sPar3 i j l ma) :=
  ⟨ps_mono (ps_par3 hc hN hi hj hl hij hil hjl hx hy hz ha.pa hw hs) fun D σ H ⟨env, st, D0, re, rs, h, k1, _⟩ => by
    refine liftA_in re rs h fun xs st1 xs' H1 ⟨u, v, w, e, q⟩ e1 rx re1 rs1 => ?_
    subst e
    cases rx with
    | cons r1 t =>
      cases t with
      | cons r2 t =>
        cases t with
        | cons r3 t =>
          cases t
          exact ⟨_, _, _, rfl, k1 _ st1 _ H1 q e1 (((re1.set r1 i).set r2 j).set r3 l) rs1⟩⟩
/-- name op= e -/
theorem ds_aug {i : Nat} {x : Str} {op : Operator} {r : M2} {pos' : Pos} (hN : X.N.Nodup) (hi : X.N[i]? = some x) (hx : Loc X.env.scope x) (he : DE X e m) (ho : DO2 X (inplaceOp op) r) (hf : X.fn x = true ∨ X.env.scope.names.lookup x = some .local := by first | exact .inl rfl | exact .inr rfl | assumption) :
    DS X (.AugAssign (.Name x pos') op e pos) (sAug i m r) :=
  ⟨ps_mono (ps_aug (ti := lift2 X.K r) hN hi hx he.pe (fun pins s σ H x y v u Q I rx ry q => ho.op pins s σ H x y v u Q I rx ry q) hf) fun D σ H ⟨env, st, D0, re, rs, ⟨d, ed, h⟩, k1, _⟩ => by
    obtain ⟨v, ev, rv⟩ := re.get ed
    refine ⟨v, ev, lift_in re rs h fun y st1 y' H1 q1 e1 ry re1 rs1 => ?_⟩
    exact ⟨d, y, st1, _, rv.mono e1, ry, rs1, q1, fun z st2 z' H2 q2 e2 rz rs2 => k1 _ st2 _ H2 q2 (e1.trans e2) ((re1.mono e2).set rz i) rs2⟩⟩
def oIAdd : M2
  | .int i, .int j, st, Q => Q (.int (i + j)) st
  | _, _, _, _ => False
theorem do_iadd : DO2 X (inplaceOp .Add) oIAdd :=
  ⟨opr_mono iop_add fun x y H Q ⟨dx, dy, st, Q0, rx, ry, rs, h, k⟩ => by
    cases dx <;> cases dy <;> simp only [oIAdd] at h <;> try exact h.elim
    cases rx; cases ry
    exact ⟨_, _, rfl, rfl, k _ st _ H h .refl (.int _) rs⟩⟩
def oISub : M2
  | .int i, .int j, st, Q => Q (.int (i - j)) st
  | _, _, _, _ => False
theorem do_isub : DO2 X (inplaceOp .Sub) oISub :=
  ⟨opr_mono iop_sub fun x y H Q ⟨dx, dy, st, Q0, rx, ry, rs, h, k⟩ => by
    cases dx <;> cases dy <;> simp only [oISub] at h <;> try exact h.elim
    cases rx; cases ry
    exact ⟨_, _, rfl, rfl, k _ st _ H h .refl (.int _) rs⟩⟩

/-! ### loops -/
/-- while: W by a measure, slots, store -/
def sWhile (c : MT) (b : MS) : MS := fun D env st => ∃ W : Nat → Env → Sto → Prop, (∃ m, W m env st) ∧ ∀ m env st, W m env st →
  c env st fun t st1 => if t = true then b { nx := fun env' st' => ∃ m', m' < m ∧ W m' env' st', rt := D.rt, bk := D.nx, ct := fun env' st' => ∃ m', m' < m ∧ W m' env' st' } env st1 else D.nx env st1
theorem ds_while {c : Expr} {body : List Stmt} {mc : MT} {mb : MS} (hp : PassesOwn (model X.prog X.w) X.A X.env X.xe) (hc : DT X c mc) (hb : DSs X body mb) : DS X (.While c body [] pos) (sWhile mc mb) :=
  ⟨ps_mono (ps_while hp hc.pt hb.pss) fun D σ H ⟨env, st, D0, re, rs, ⟨W, ⟨n, w0⟩, turn⟩, k1, k2, k3, k4⟩ => by
    refine ⟨fun n σ' H' => ∃ env' st', Ext H H' ∧ RelE X.K H' env' σ' ∧ RelSto X.K H' st' ∧ W n env' st', ⟨n, env, st, .refl, re, rs, w0⟩, ?_⟩
    rintro n1 σ1 H1 ⟨env1, st1, e1, re1, rs1, w1⟩
    refine liftT_in re1 rs1 (turn n1 env1 st1 w1) fun t st2 H2 q e2 re2 rs2 => ?_
    have E2 : Ext H H2 := e1.trans e2
    cases t with
    | false => exact k1 env1 st2 σ1 H2 q E2 re2 rs2
    | true =>
      refine ⟨fun σ' H' => ∃ m', m' < n1 ∧ ∃ env' st', Ext H H' ∧ RelE X.K H' env' σ' ∧ RelSto X.K H' st' ∧ W m' env' st', fun σ' H' z => z, env1, st2, _, re2, rs2, q, ?_, ?_, ?_, ?_⟩
      · exact fun env' st' σ' H' ⟨m', hm, w⟩ e re rs => ⟨m', hm, env', st', E2.trans e, re, rs, w⟩
      · exact fun d st' v H' q e r rs => k2 d st' v H' q (E2.trans e) r rs
      · exact fun env' st' σ' H' q e re rs => k1 env' st' σ' H' q (E2.trans e) re rs
      · exact fun env' st' σ' H' ⟨m', hm, w⟩ e re rs => ⟨m', hm, env', st', E2.trans e, re, rs, w⟩⟩
end

/-- what is walked: its items, and what must stand while it is walked -/
abbrev MI := Env → Sto → (List D → (Sto → Prop) → Sto → Prop) → Prop
structure SrcJ (K : PySem.W.Frag) (H0 : Hp) (xs : List D) (ok : Sto → Prop) (J : It) : Prop where
  stop : ∀ i H st, xs.length ≤ i → Ext H0 H → RelSto K H st → ok st → J.stop i H
  go : ∀ i H st, i < xs.length → Ext H0 H → RelSto K H st → ok st → J.go i H
  yld : ∀ i H st x H', i < xs.length → Ext H0 H → RelSto K H st → ok st → J.yld i H x H' → ∃ d, xs[i]? = some d ∧ RelD K H' d x ∧ (∀ b u, H b = some u → H' b = some u)
def liftI (K : PySem.W.Frag) (mi : MI) : TI := fun σ H R => ∃ env st Q, RelE K H env σ ∧ RelSto K H st ∧ mi env st Q ∧
  ∀ xs ok st' J H', Q xs ok st' → Ext H H' → RelSto K H' st' → SrcJ K H' xs ok J → R J H'
structure DI (X : Cx) (tg iter : Expr) (mi : MI) : Prop where
  pi : PI X tg iter (liftI X.K mi)
theorem pi_mono {X : Cx} {tg iter : Expr} {t t' : TI} (h : PI X tg iter t) (k : ∀ σ H R, t' σ H R → t σ H R) : PI X tg iter t' := ⟨fun pins s σ H R I hw => h.run pins s σ H R I (k _ _ _ hw)⟩
theorem Ext.of_keep {H H' : Hp} (h : ∀ b u, H b = some u → H' b = some u) : Ext H H' := ⟨fun a xs r => by
  rcases r with r | ⟨o, r⟩
  · exact .inl (h _ _ r)
  · exact .inr ⟨o, h _ _ r⟩, fun a o u e => h _ _ e⟩
theorem RelSto.of_keep {K : PySem.W.Frag} {H H' : Hp} {st : Sto} (rs : RelSto K H st) (h : ∀ b u, H b = some u → H' b = some u) : RelSto K H' st := fun a o e => (rs a o e).keep (Ext.of_keep h).t fun u hu => h _ _ hu

/-- for x in xs: W by the turn, slots, store -/
def sFor (mi : MI) (g : MG) (b : MS) : MS := fun D env st => mi env st fun xs ok st1 => ∃ W : Nat → Env → Sto → Prop, W 0 env st1 ∧ (∀ i env st, i ≤ xs.length → W i env st → ok st) ∧
  (∀ i x env st, xs[i]? = some x → W i env st → g x env st fun env2 st2 => b { nx := W (i + 1), rt := D.rt, bk := D.nx, ct := W (i + 1) } env2 st2) ∧
  (∀ env st, W xs.length env st → D.nx env st)
section
variable {X : Cx} {tg iter : Expr} {body : List Stmt} {mi : MI} {g : MG} {mb : MS} {pos : Pos}
theorem ds_for (hp : PassesOwn (model X.prog X.w) X.A X.env X.xe) (hc : X.calm = true) (hi : DI X tg iter mi) (hg : DG X tg g) (hb : DSs X body mb)
    (hs : ∀ x, foldedSetIterable iter X.env x = pure x := by intro _; rfl) : DS X (.For tg iter body [] pos) (sFor mi g mb) :=
  ⟨ps_mono (ps_for hp hc hi.pi hg.pg hb.pss hs) fun D σ H ⟨env, st, D0, re, rs, h, k1, k2, k3, k4⟩ => by
    refine ⟨env, st, _, re, rs, h, fun xs ok st1 J H1 ⟨W, w0, hok, turn, fin⟩ e1 rs1 S => ?_⟩
    refine ⟨fun i n σ' H' => n = xs.length - i ∧ i ≤ xs.length ∧ ∃ env' st', Ext H1 H' ∧ RelE X.K H' env' σ' ∧ RelSto X.K H' st' ∧ W i env' st', ⟨xs.length, by simp, Nat.zero_le _, env, st1, .refl, re.mono e1, rs1, w0⟩, ?_⟩
    rintro i n σ' H' ⟨rfl, hi, env', st', e2, re2, rs2, w⟩
    have okk := hok i env' st' hi w
    by_cases hlt : i < xs.length
    · refine .inr ⟨S.go i H' st' hlt e2 rs2 okk, fun σ2 H2 => ∃ env2 st2, Ext H1 H2 ∧ RelE X.K H2 env2 σ2 ∧ RelSto X.K H2 st2 ∧ W (i + 1) env2 st2, fun σ2 H2 z => ⟨xs.length - (i + 1), by omega, rfl, hlt, z⟩, fun x H3 y => ?_⟩
      obtain ⟨d, hd, rd, kp⟩ := S.yld i H' st' x H3 hlt e2 rs2 okk y
      have e3 : Ext H' H3 := .of_keep kp
      refine ⟨d, env', st', _, rd, re2.mono e3, rs2.of_keep kp, turn i d env' st' hd w, fun env4 st4 σ4 H4 q e4 re4 rs4 => ?_⟩
      have E4 : Ext H1 H4 := e2.trans (e3.trans e4)
      refine ⟨env4, st4, _, re4, rs4, q, ?_, ?_, ?_, ?_⟩
      · exact fun a b c d w e re rs => ⟨a, b, E4.trans e, re, rs, w⟩
      · exact fun a b c d q e r rs => k2 a b c d q (e1.trans (E4.trans e)) r rs
      · exact fun a b c d q e re rs => k1 a b c d q (e1.trans (E4.trans e)) re rs
      · exact fun a b c d w e re rs => ⟨a, b, E4.trans e, re, rs, w⟩
    · have hn : i = xs.length := by omega
      subst hn
      exact .inl ⟨S.stop _ H' st' (Nat.le_refl _) e2 rs2 okk, k1 env' st' σ' H' (fin env' st' w) (e1.trans e2) re2 rs2⟩⟩
end
end L2.DL

namespace L2.DL
open PySem PySem.Spec PyProof.Rows

/-! ### what is walked -/
section
variable {X : Cx} {tg : Expr}
/-- a list, a tuple, a text -/
def wSeq (m : ME) : MI := fun env st Q => m env st fun x st1 => match x with
  | .tup xs => Q xs (fun _ => True) st1
  | .str z => Q (signsD z) (fun _ => True) st1
  | .ref a => ∃ xs, rdL (st1 a) = some xs ∧ Q xs (fun st => rdL (st a) = some xs) st1
  | _ => False
theorem pi_any {l : Expr} {tl : TE} (hl : PE X l tl) : PI X tg l (fun σ H R => tl σ H fun x H1 => (∃ a xs, x = .ref a ∧ SqL X.K H1 a xs ∧ R (Itl X.K a) H1) ∨ (∃ a xs, x = .ref a ∧ SqT X.K H1 a xs ∧ R (Itt X.K a) H1) ∨ (∃ z, x = .str z ∧ R (Its z) H1)) := by
  refine ⟨fun pins s σ H R I h => ?_⟩
  refine thn (hl.run pins s σ H _ I h) fun v s1 ⟨x, H1, I1, r1, q1⟩ => ?_
  rcases q1 with ⟨a, xs, e, hq, q⟩ | ⟨a, xs, e, hq, q⟩ | ⟨z, e, q⟩
  · subst e
    cases r1
    obtain ⟨its, rv, p, hz⟩ := I1.list hq
    refine wpAny_pyIter_list p.isList ?_
    refine ⟨s1.heap.objs.size, [s1.heap.objs.size], _, _, H1, rfl, I1.kept (t' := s1.toks) fun b o e => Heap.get?_push_of_some _ e, turn_list a _, ⟨_, Heap.get?_push_size _ rfl, rfl, rfl⟩, fun b hb => ?_, q⟩
    have e : b = s1.heap.objs.size := by simpa using hb
    subst e
    exact I1.fpOk (Nat.le_refl _) (I1.hok.fresh (Nat.le_refl _))
  · subst e
    cases r1
    obtain ⟨its, rv, p, hz⟩ := I1.tuple hq
    refine wpAny_pyIter_tuple (show s1.heap.IsTuple a its.toArray from p) ?_
    refine ⟨s1.heap.objs.size, [s1.heap.objs.size], _, _, H1, rfl, I1.kept (t' := s1.toks) fun b o e => Heap.get?_push_of_some _ e, turn_tuple a _, ⟨_, Heap.get?_push_size _ rfl, rfl, rfl⟩, fun b hb => ?_, q⟩
    have e : b = s1.heap.objs.size := by simpa using hb
    subst e
    exact I1.fpOk (Nat.le_refl _) (I1.hok.fresh (Nat.le_refl _))
  · subst e
    obtain ⟨t, rfl⟩ := r1
    cases ha : z.cps.all (· < 128)
    · exact wpAny_pyIter_wide ha (pi_one (tk := s1.toks) I1 _ (turn_str _ z t "str_iterator" (.inr rfl)) ⟨_, Heap.get?_push_size _ rfl, rfl, rfl⟩ q)
    · exact wpAny_pyIter_ascii ha (pi_one (tk := s1.toks) I1 _ (turn_str _ z t "str_ascii_iterator" (.inl rfl)) ⟨_, Heap.get?_push_size _ rfl, rfl, rfl⟩ q)
theorem src_tup {K : PySem.W.Frag} {H0 : Hp} {a : Addr} {ds : List D} {vs : List V} {ok : Sto → Prop} (g : SqT K H0 a vs) (r : RelDs K H0 ds vs) : SrcJ K H0 ds ok (Itt K a) where
  stop := fun i H st h e rs o => ⟨vs, e.sqT g, by rw [← r.length]; exact h⟩
  go := fun i H st h e rs o => ⟨vs, vs[i]'(by rw [← r.length]; exact h), e.sqT g, by simp [← r.length, h]⟩
  yld := fun i H st x H' h e rs o y => by
    obtain ⟨rfl, y⟩ := y
    have hx := y vs (e.sqT g)
    obtain ⟨d, hd, rd⟩ := (r.mono e).getV hx
    exact ⟨d, hd, rd, fun b u z => z⟩
theorem src_list {K : PySem.W.Frag} {H0 : Hp} {a : Addr} {ds : List D} : SrcJ K H0 ds (fun st => rdL (st a) = some ds) (Itl K a) where
  stop := fun i H st h e rs o => by
    obtain ⟨vs, g, r⟩ := rs.rdL o
    exact ⟨vs, g, by rw [← r.length]; exact h⟩
  go := fun i H st h e rs o => by
    obtain ⟨vs, g, r⟩ := rs.rdL o
    exact ⟨vs, vs[i]'(by rw [← r.length]; exact h), g, by simp [← r.length, h]⟩
  yld := fun i H st x H' h e rs o y => by
    obtain ⟨rfl, y⟩ := y
    obtain ⟨vs, g, r⟩ := rs.rdL o
    obtain ⟨d, hd, rd⟩ := r.getV (y vs g)
    exact ⟨d, hd, rd, fun b u z => z⟩
theorem src_str {K : PySem.W.Frag} {H0 : Hp} {z : Str} {ok : Sto → Prop} : SrcJ K H0 (signsD z) ok (Its z) where
  stop := fun i H st h e rs o => by
    have h' : z.cps.size ≤ i := by simpa [signsD] using h
    exact h'
  go := fun i H st h e rs o => by
    have h' : i < z.cps.size := by simpa [signsD] using h
    exact h'
  yld := fun i H st x H' h e rs o y => by
    obtain ⟨rfl, c, hc, rfl⟩ := y
    refine ⟨.str ⟨#[c]⟩, ?_, .str _, fun b u z => z⟩
    have hc' : z.cps.toList[i]? = some c := by simpa using hc
    simp [signsD, hc']
theorem di_seq {e : Expr} {m : ME} (he : DE X e m) : DI X tg e (wSeq m) :=
  ⟨pi_mono (pi_any he.pe) fun σ H R ⟨env, st, Q0, re, rs, h, k⟩ => by
    refine lift_in re rs h fun x st1 x' H1 q ex rx re1 rs1 => ?_
    cases x with
    | tup ds =>
      obtain ⟨a, vs, rfl, g, r⟩ := rx.tup_of
      exact .inr (.inl ⟨a, vs, rfl, g, k ds _ st1 _ H1 q ex rs1 (src_tup g r)⟩)
    | str z =>
      cases rx
      exact .inr (.inr ⟨z, rfl, k _ _ st1 _ H1 q ex rs1 src_str⟩)
    | ref a =>
      cases rx
      obtain ⟨xs, e1, q⟩ := q
      obtain ⟨vs, g, r⟩ := rs1.rdL e1
      exact .inl ⟨a, vs, rfl, g, k xs _ st1 _ H1 q ex rs1 src_list⟩
    | _ => exact q.elim⟩
/-- range(..) -/
def rangeD (lo : Int) (n : Nat) : List D := (List.range n).map fun (i : Nat) => D.int (lo + (i : Int))
theorem src_rng {K : PySem.W.Frag} {H0 : Hp} {lo : Int} {n : Nat} {ok : Sto → Prop} : SrcJ K H0 (rangeD lo n) ok (Itr lo n) where
  stop := fun i H st h e rs o => by
    have h' : n ≤ i := by simpa [rangeD] using h
    exact h'
  go := fun i H st h e rs o => by
    have h' : i < n := by simpa [rangeD] using h
    exact h'
  yld := fun i H st x H' h e rs o y => by
    obtain ⟨rfl, rfl⟩ := y
    have hi : i < n := by simpa [rangeD] using h
    exact ⟨.int (lo + i), by simp [rangeD, hi], .int _, fun b u z => z⟩
def wRng1 (m : ME) : MI := fun env st Q => m env st fun x st1 => ∃ j, x = .int j ∧ (-(2 ^ 62) ≤ j ∧ j < 2 ^ 62) ∧ Q (rangeD 0 j.toNat) (fun _ => True) st1
def wRng2 (ma mb : ME) : MI := fun env st Q => ma env st fun x st1 => mb env st1 fun y st2 => ∃ i j, x = .int i ∧ y = .int j ∧ (-(2 ^ 62) ≤ i ∧ i < 2 ^ 62 ∧ -(2 ^ 62) ≤ j ∧ j < 2 ^ 62) ∧ Q (rangeD i (j - i).toNat) (fun _ => True) st2
theorem lift_args1 {K : PySem.W.Frag} {a : Expr} {ma : ME} {σ : St} {H : Hp} {env : Env} {st : Sto} {P : DK} {R : List V → Hp → Prop} (re : RelE K H env σ) (rs : RelSto K H st) (h : ma env st P)
    (k : ∀ x st1 x' H1, P x st1 → Ext H H1 → RelD K H1 x x' → RelSto K H1 st1 → R [x'] H1) : tCons (lift K ma) tNil σ H R :=
  lift_in re rs h fun x st1 x' H1 q e rx re1 rs1 => k x st1 x' H1 q e rx rs1
theorem lift_args2 {K : PySem.W.Frag} {ma mb : ME} {σ : St} {H : Hp} {env : Env} {st : Sto} {P : D → D → Sto → Prop} {R : List V → Hp → Prop} (re : RelE K H env σ) (rs : RelSto K H st) (h : ma env st fun x st1 => mb env st1 fun y st2 => P x y st2)
    (k : ∀ x y st1 x' y' H1, P x y st1 → Ext H H1 → RelD K H1 x x' → RelD K H1 y y' → RelSto K H1 st1 → R [x', y'] H1) : tCons (lift K ma) (tCons (lift K mb) tNil) σ H R :=
  lift_in re rs h fun x st1 x' H1 q e rx re1 rs1 => lift_in re1 rs1 q fun y st2 y' H2 q2 e2 ry re2 rs2 => k x y st2 x' y' H2 q2 (e.trans e2) (rx.mono e2) ry rs2
/-- range with a step -/
def stepD (lo c : Int) (n : Nat) : List D := (List.range n).map fun (i : Nat) => D.int (lo + (i : Int) * c)
theorem src_step {K : PySem.W.Frag} {H0 : Hp} {lo c : Int} {n : Nat} {ok : Sto → Prop} : SrcJ K H0 (stepD lo c n) ok (Itc lo c n) where
  stop := fun i H st h e rs o => by
    have h' : n ≤ i := by simpa [stepD] using h
    exact h'
  go := fun i H st h e rs o => by
    have h' : i < n := by simpa [stepD] using h
    exact h'
  yld := fun i H st x H' h e rs o y => by
    obtain ⟨rfl, rfl⟩ := y
    have hi : i < n := by simpa [stepD] using h
    exact ⟨.int (lo + i * c), by simp [stepD, hi], .int _, fun b u z => z⟩
def wRng3 (ma mb mc : ME) : MI := fun env st Q => ma env st fun x st1 => mb env st1 fun y st2 => mc env st2 fun z st3 => ∃ i j c n, x = .int i ∧ y = .int j ∧ z = .int c ∧ RgC i j c n ∧ Q (stepD i c n) (fun _ => True) st3
theorem di_rng3 {a b c : Expr} {ma mb mc : ME} {p pos : Pos} (hg : Gl X "range") (hm : X.mg "range" = none) (ha : DE X a ma) (hb : DE X b mb) (hc : DE X c mc)
    (hs : starEach [a, b, c] X.env = (false, eval a X.env) :: starEach [b, c] X.env := by rfl) (hs2 : starEach [b, c] X.env = (false, eval b X.env) :: starEach [c] X.env := by rfl) (hs3 : starEach [c] X.env = (false, eval c X.env) :: starEach [] X.env := by rfl)
    (hpl : (backTo pos (starEach [b, c] X.env)).any (·.1) = false := by rfl) :
    DI X tg (.Call (.Name "range" p) [a, b, c] [] pos) (wRng3 ma mb mc) :=
  ⟨pi_mono (pi_range3 hg hm (pa_cons ha.pe (pa_cons hb.pe (pa_cons hc.pe pa_nil hs3) hs2) hs) hs hpl) fun σ H R ⟨env, st, Q0, re, rs, h, k⟩ => by
    refine lift_in re rs h fun x st1 x' H1 q1 e1 rx re1 rs1 => ?_
    refine lift_in re1 rs1 q1 fun y st2 y' H2 q2 e2 ry re2 rs2 => ?_
    refine lift_in re2 rs2 q2 fun z st3 z' H3 ⟨i, j, c, n, ex, ey, ez, g, q3⟩ e3 rz re3 rs3 => ?_
    subst ex ey ez
    cases rx; cases ry; cases rz
    exact ⟨i, j, c, n, rfl, g, k _ _ st3 _ H3 q3 (e1.trans (e2.trans e3)) rs3 src_step⟩⟩
theorem di_rng1 {a : Expr} {m : ME} {p pos : Pos} (hg : Gl X "range") (hm : X.mg "range" = none) (ha : DE X a m) (hs : starEach [a] X.env = [(false, eval a X.env)] := by rfl) : DI X tg (.Call (.Name "range" p) [a] [] pos) (wRng1 m) :=
  ⟨pi_mono (pi_range1 hg hm (pa_cons ha.pe pa_nil hs) hs) fun σ H R ⟨env, st, Q0, re, rs, h, k⟩ =>
    lift_args1 (a := a) re rs h fun x st1 x' H1 ⟨j, e, ⟨b1, b2⟩, q⟩ ex rx rs1 => by
      subst e
      cases rx
      exact ⟨j, rfl, b1, b2, k _ _ st1 _ H1 q ex rs1 src_rng⟩⟩
theorem di_rng2 {a b : Expr} {ma mb : ME} {p pos : Pos} (hg : Gl X "range") (hm : X.mg "range" = none) (ha : DE X a ma) (hb : DE X b mb) (hs : starEach [a, b] X.env = [(false, eval a X.env), (false, eval b X.env)] := by rfl) (hs2 : starEach [b] X.env = [(false, eval b X.env)] := by rfl) :
    DI X tg (.Call (.Name "range" p) [a, b] [] pos) (wRng2 ma mb) :=
  ⟨pi_mono (pi_range2 hg hm (pa_cons ha.pe (pa_cons hb.pe pa_nil hs2) (by rw [hs, hs2])) hs hs2) fun σ H R ⟨env, st, Q0, re, rs, h, k⟩ =>
    lift_args2 re rs h fun x y st1 x' y' H1 ⟨i, j, e, e2, b, q⟩ ex rx ry rs1 => by
      subst e e2
      cases rx; cases ry
      exact ⟨i, j, rfl, b, k _ _ st1 _ H1 q ex rs1 src_rng⟩⟩
end

/-! ### comprehensions -/
def mYes : MT := fun _ st Q => Q true st
structure DTs (X : Cx) (ifs : List Expr) (t : MT) : Prop where
  pts : PTs X ifs (liftT X.K t)
theorem pts_mono {X : Cx} {ifs : List Expr} {t t' : TT} (h : PTs X ifs t) (k : ∀ σ H Q, t' σ H Q → t σ H Q) : PTs X ifs t' := ⟨fun pins s σ H Q I hw => h.run pins s σ H Q I (k _ _ _ hw)⟩
theorem dts_nil {X : Cx} : DTs X [] mYes := ⟨pts_mono pts_nil fun σ H Q ⟨env, st, Q0, re, rs, h, k⟩ => k true st H h .refl rs⟩
theorem dts_one {X : Cx} {c : Expr} {t : MT} (h : DT X c t) : DTs X [c] t := ⟨pts_one h.pt⟩
/-- a comprehension's targets: its own slots alone are stored -/
def liftGc (K : PySem.W.Frag) (g : MG) (ws : List Nat) : TG := fun v σ H Q' => ∃ d env st Q, RelD K H d v ∧ RelE K H env σ ∧ RelSto K H st ∧ g d env st Q ∧
  ∀ env' st' σ' H', Q env' st' → Ext H H' → RelE K H' env' σ' → RelSto K H' st' → wipe σ' ws = wipe σ ws → Q' σ' H'
def liftGsc (K : PySem.W.Frag) (g : MGs) (ws : List Nat) : TGs := fun vs σ H Q' => ∃ ds env st Q, RelDs K H ds vs ∧ RelE K H env σ ∧ RelSto K H st ∧ g ds env st Q ∧
  ∀ env' st' σ' H', Q env' st' → Ext H H' → RelE K H' env' σ' → RelSto K H' st' → wipe σ' ws = wipe σ ws → Q' σ' H'
structure DGc (X : Cx) (t : Expr) (g : MG) (ws : List Nat) : Prop where
  pg : PG X t (liftGc X.K g ws)
structure DGsc (X : Cx) (t : List Expr) (g : MGs) (ws : List Nat) : Prop where
  pgs : PGs X t (liftGsc X.K g ws)
theorem wipe_get (σ : L2.St) : ∀ (ws : List Nat) (j : Nat), (wipe σ ws)[j]? = if j ∈ ws then σ[j]?.map (fun _ => none) else σ[j]?
  | [], j => by simp [wipe]
  | w :: ws, j => by
    unfold wipe
    by_cases h : w = j
    · subst h
      rw [List.getElem?_set_self', wipe_get σ ws w]
      simp only [List.mem_cons, true_or, if_true]
      split <;> cases σ[w]? <;> rfl
    · rw [List.getElem?_set_ne h, wipe_get σ ws j]
      simp [List.mem_cons, Ne.symm h]
theorem wipe_set {σ : L2.St} {i : Nat} {v : Option V} {ws : List Nat} (h : i ∈ ws) : wipe (σ.set i v) ws = wipe σ ws := by
  apply List.ext_getElem?
  intro j
  rw [wipe_get, wipe_get]
  by_cases hj : j ∈ ws
  · simp only [hj, if_true]
    by_cases e : i = j
    · subst e
      rw [List.getElem?_set_self']
      cases σ[i]? <;> simp
    · rw [List.getElem?_set_ne e]
  · simp only [hj, if_false]
    have e : i ≠ j := fun z => hj (z ▸ h)
    rw [List.getElem?_set_ne e]
theorem wipe_wipe {σ : L2.St} {ws : List Nat} : wipe (wipe σ ws) ws = wipe σ ws := by
  apply List.ext_getElem?
  intro j
  rw [wipe_get, wipe_get]
  split
  · cases σ[j]? <;> simp
  · rfl
section
variable {X : Cx} {pos : Pos} {ws : List Nat}
theorem dgc_name {i : Nat} {x : Str} (hN : X.N.Nodup) (hi : X.N[i]? = some x) (hx : Loc X.env.scope x) (hw : i ∈ ws) (hf : X.fn x = true ∨ X.env.scope.names.lookup x = some .local := by first | exact .inl rfl | exact .inr rfl | assumption) : DGc X (.Name x pos) (gN i) ws :=
  ⟨pg_mono (pg_name hN hi hx hf) fun v σ H Q ⟨d, env, st, Q0, r, re, rs, h, k⟩ => k _ st _ H h .refl (re.set r i) rs (wipe_set hw)⟩
theorem dgsc_nil : DGsc X [] gNil ws := ⟨pgs_mono pgs_nil fun vs σ H Q ⟨ds, env, st, Q0, r, re, rs, ⟨e, h⟩, k⟩ => by
  subst e
  cases r
  exact ⟨rfl, k env st σ H h .refl re rs rfl⟩⟩
theorem dgsc_cons {e : Expr} {es : List Expr} {g : MG} {gs : MGs} (h1 : DGc X e g ws) (h2 : DGsc X es gs ws)
    (hs : (assignEach (e :: es) X.env).map (·.2) = assign e X.env :: (assignEach es X.env).map (·.2) := by rfl) : DGsc X (e :: es) (gCons g gs) ws :=
  ⟨pgs_mono (pgs_cons h1.pg h2.pgs hs) fun vs σ H Q ⟨ds, env, st, Q0, r, re, rs, ⟨d, dr, e, h⟩, k⟩ => by
    subst e
    cases r with
    | cons r t =>
      refine ⟨_, _, rfl, d, env, st, _, r, re, rs, h, fun env' st' σ' H' q e re' rs' ew => ?_⟩
      exact ⟨dr, env', st', Q0, t.mono e, re', rs', q, fun a b c d q e2 re2 rs2 ew2 => k a b c d q (e.trans e2) re2 rs2 (ew2.trans ew)⟩⟩
theorem dgc_tup {es : List Expr} {k : Nat} {gs : MGs} {n : Nat} (hc : X.calm = true) (h : DGsc X es gs ws)
    (hn : (assignEach es X.env).length = n := by rfl) (hst : (assignEach es X.env).findIdx? (·.1) = none := by rfl) : DGc X (.Tuple es k pos) (gTup n gs) ws :=
  ⟨pg_mono (pg_tup hc h.pgs hn hst) fun v σ H Q ⟨d, env, st, Q0, r, re, rs, ⟨ds, e, hl, h⟩, k⟩ => by
    subst e
    obtain ⟨a, vs, rfl, g, r2⟩ := r.tup_of
    exact ⟨a, vs, rfl, g, by rw [← r2.length]; exact hl, ds, env, st, Q0, r2, re, rs, h, k⟩⟩
end
/-- [e for g in xs if t]: W by the turn and the store, the new list at p within -/
def mLc (mi : MI) (g : MG) (mt : MT) (me : ME) (ws : List Nat) : ME := fun env st Q => mi env st fun xs ok st1 => ∀ p, Nf st1 p → ∃ W : Nat → List D → Sto → Prop, W 0 [] (put st1 p (.lst [])) ∧
  (∀ i acc st, i ≤ xs.length → W i acc st → ok st ∧ st p = some (.lst acc)) ∧
  (∀ i acc x st, xs[i]? = some x → W i acc st → g x (wipeE env ws) st fun env2 st2 => mt env2 st2 fun b st3 =>
    if b = true then me env2 st3 fun y st4 => st4 p = some (.lst acc) ∧ acc.length < sizeLine ∧ W (i + 1) (acc ++ [y]) (put st4 p (.lst (acc ++ [y]))) else W (i + 1) acc st3) ∧
  (∀ acc st, W xs.length acc st → Q (.ref p) st)
theorem lift_lc {K : PySem.W.Frag} {mi : MI} {g : MG} {mt : MT} {me : ME} {ws : List Nat} {σ : L2.St} {H : Hp} {Q : VK} (h : lift K (mLc mi g mt me ws) σ H Q) : tLc (liftI K mi) (liftGc K g ws) (liftT K mt) (lift K me) ws σ H Q := by
  obtain ⟨env, st, Q0, re, rs, h, k⟩ := h
  refine ⟨env, st, _, re, rs, h, fun xs ok st1 J H1 q e1 rs1 S p hp => ?_⟩
  obtain ⟨W, w0, hok, turn, fin⟩ := q p (rs1.fresh hp)
  have exp : Ext H1 (upd H1 p (.lst [])) := .upd_new hp
  refine ⟨fun i m H' => m = xs.length - i ∧ i ≤ xs.length ∧ ∃ acc st', Ext H1 H' ∧ RelSto K H' st' ∧ W i acc st', ⟨xs.length, by simp, Nat.zero_le _, [], _, exp, rs1.put (o := .lst []) exp ⟨[], upd_same, .nil⟩, w0⟩, ?_⟩
  rintro i m H' ⟨rfl, hi, acc, st', e2, rs2, w⟩
  obtain ⟨okk, hpp⟩ := hok i acc st' hi w
  by_cases hlt : i < xs.length
  · refine .inr ⟨S.go i H' st' hlt e2 rs2 okk, fun H2 => ∃ acc2 st2, Ext H1 H2 ∧ RelSto K H2 st2 ∧ W (i + 1) acc2 st2, fun H2 z => ⟨xs.length - (i + 1), by omega, rfl, hlt, z⟩, fun x H3 y => ?_⟩
    obtain ⟨d, hd, rd, kp⟩ := S.yld i H' st' x H3 hlt e2 rs2 okk y
    have e3 : Ext H' H3 := .of_keep kp
    refine ⟨d, wipeE env ws, st', _, rd, ((re.mono (e1.trans (e2.trans e3))).wipe ws), rs2.of_keep kp, turn i acc d st' hd w, fun env4 st4 σ4 H4 q4 e4 re4 rs4 ew => ⟨by rw [ew, wipe_wipe], ?_⟩⟩
    refine liftT_in re4 rs4 q4 fun b st5 H5 q5 e5 re5 rs5 => ?_
    have E5 : Ext H1 H5 := e2.trans (e3.trans (e4.trans e5))
    cases b with
    | false => exact ⟨acc, st5, E5, rs5, q5⟩
    | true =>
      refine lift_in re5 rs5 q5 fun y st6 y' H6 ⟨hD, hz, w6⟩ e6 ry re6 rs6 => ?_
      obtain ⟨vs, gD, rD⟩ := rs6 _ _ hD
      have ex : ∀ u, Ext H6 (upd H6 p u) := fun u => upd_mutL gD
      exact ⟨vs, gD, by rw [← rD.length]; exact hz, _, _, E5.trans (e6.trans (ex _)), rs6.put (o := .lst (acc ++ [y])) (ex _) ⟨_, upd_same, (rD.append (.cons ry .nil)).mono (ex _)⟩, w6⟩
  · have hn : i = xs.length := by omega
    subst hn
    exact .inl ⟨S.stop _ H' st' (Nat.le_refl _) e2 rs2 okk, k _ st' _ H' (fin acc st' w) (e1.trans e2) (.ref p) rs2⟩
section
variable {X : Cx}
theorem de_lc {elt tg iter : Expr} {ifs : List Expr} {scope : Scope} {own : List (Str × Nat)} {ws : List Nat} {pos : Pos} {mi : MI} {g : MG} {mt : MT} {me : ME} (hc : X.calm = true) (hN : X.N.Nodup) (hi : DI X tg iter mi) (ok : BlkOk X.N X.env.scope scope own)
    (hg : ∀ (s : Shared) (H : Hp) (C : Addr) (cl : List (Str × Addr)) (fp : List Addr), DGc (X.blk s H scope (compEnvC scope cl C X.env) fp) tg g ws) (ht : ∀ (s : Shared) (H : Hp) (C : Addr) (cl : List (Str × Addr)) (fp : List Addr), DTs (X.blk s H scope (compEnvC scope cl C X.env) fp) ifs mt)
    (he : ∀ (s : Shared) (H : Hp) (C : Addr) (cl : List (Str × Addr)) (fp : List Addr), DE (X.blk s H scope (compEnvC scope cl C X.env) fp) elt me) (hws : own.map (·.2) = ws := by rfl) (hs : ∀ x, foldedSetIterable iter X.env x = pure x := by intro _; rfl) :
    DE X (.ListComp elt [⟨tg, iter, ifs, 0⟩] scope pos) (mLc mi g mt me ws) := by
  subst hws
  exact ⟨pe_mono (pe_lc hc hN hi.pi ok (fun s H C cl fp => (hg s H C cl fp).pg) (fun s H C cl fp => (ht s H C cl fp).pts) (fun s H C cl fp => (he s H C cl fp).pe) hs) fun σ H Q => lift_lc⟩
theorem ds_setLc {i : Nat} {y : Str} {py : Pos} {elt tg iter : Expr} {ifs : List Expr} {scope : Scope} {own : List (Str × Nat)} {ws : List Nat} {pos spos : Pos} {mi : MI} {g : MG} {mt : MT} {me : ME} (hc : X.calm = true) (hN : X.N.Nodup) (hy : X.N[i]? = some y) (hyl : X.env.scope.names.lookup y = some .local)
    (hsw : swapsWith (.ListComp elt [⟨tg, iter, ifs, 0⟩] scope pos) (some (.Name y py)) spos.line X.env = pure true) (hi : DI X tg iter mi) (ok : BlkOk X.N X.env.scope scope own)
    (hg : ∀ (s : Shared) (H : Hp) (C : Addr) (cl : List (Str × Addr)) (fp : List Addr), DGc (X.blk s H scope (compEnvC scope cl C X.env) fp) tg g ws) (ht : ∀ (s : Shared) (H : Hp) (C : Addr) (cl : List (Str × Addr)) (fp : List Addr), DTs (X.blk s H scope (compEnvC scope cl C X.env) fp) ifs mt)
    (he : ∀ (s : Shared) (H : Hp) (C : Addr) (cl : List (Str × Addr)) (fp : List Addr), DE (X.blk s H scope (compEnvC scope cl C X.env) fp) elt me) (hws : own.map (·.2) = ws := by rfl) (hs : ∀ x, foldedSetIterable iter X.env x = pure x := by intro _; rfl) :
    DS X (.Assign [.Name y py] (.ListComp elt [⟨tg, iter, ifs, 0⟩] scope pos) spos) (sAsg (mLc mi g mt me ws) (gN i)) := by
  subst hws
  exact ⟨ps_mono (ps_setLc hc hN hy hyl hsw hi.pi ok (fun s H C cl fp => (hg s H C cl fp).pg) (fun s H C cl fp => (ht s H C cl fp).pts) (fun s H C cl fp => (he s H C cl fp).pe) hs) fun D σ H ⟨env, st, D0, re, rs, h, k1, _⟩ => by
    have h2 : lift X.K (mLc mi g mt me (own.map (·.2))) σ H fun x H1 => gName i x σ H1 D.nx :=
      ⟨env, st, _, re, rs, h, fun d st' v H' q e r s => k1 _ st' _ H' q e ((re.mono e).set r i) s⟩
    exact lift_lc h2⟩

/-! ### dict comprehensions -/
def mDc (mi : MI) (g : MG) (mt : MT) (mk mv : ME) (ws : List Nat) : ME := fun env st Q => mi env st fun xs ok st1 => ∀ p, Nf st1 p → ∃ W : Nat → List (Key × D) → Sto → Prop, W 0 [] (put st1 p (.dic [])) ∧
  (∀ i acc st, i ≤ xs.length → W i acc st → ok st ∧ st p = some (.dic acc)) ∧
  (∀ i acc x st, xs[i]? = some x → W i acc st → g x (wipeE env ws) st fun env2 st2 => mt env2 st2 fun b st3 =>
    if b = true then mk env2 st3 fun y st4 => mv env2 st4 fun z st5 => ∃ k, keyD y = some k ∧ st5 p = some (.dic acc) ∧ acc.length < sizeLine ∧ W (i + 1) (putD acc k z) (put st5 p (.dic (putD acc k z))) else W (i + 1) acc st3) ∧
  (∀ acc st, W xs.length acc st → Q (.ref p) st)
theorem lift_dc {K : PySem.W.Frag} {mi : MI} {g : MG} {mt : MT} {mk mv : ME} {ws : List Nat} {σ : L2.St} {H : Hp} {Q : VK} (h : lift K (mDc mi g mt mk mv ws) σ H Q) : tDc (liftI K mi) (liftGc K g ws) (liftT K mt) (lift K mk) (lift K mv) ws σ H Q := by
  obtain ⟨env, st, Q0, re, rs, h, k⟩ := h
  refine ⟨env, st, _, re, rs, h, fun xs ok st1 J H1 q e1 rs1 S p hp => ?_⟩
  obtain ⟨W, w0, hok, turn, fin⟩ := q p (rs1.fresh hp)
  have exp : Ext H1 (upd H1 p (.dK [])) := .upd_new hp
  refine ⟨fun i m H' => m = xs.length - i ∧ i ≤ xs.length ∧ ∃ acc st', Ext H1 H' ∧ RelSto K H' st' ∧ W i acc st', ⟨xs.length, by simp, Nat.zero_le _, [], _, exp, rs1.put (o := .dic []) exp ⟨[], upd_same, .nil⟩, w0⟩, ?_⟩
  rintro i m H' ⟨rfl, hi, acc, st', e2, rs2, w⟩
  obtain ⟨okk, hpp⟩ := hok i acc st' hi w
  by_cases hlt : i < xs.length
  · refine .inr ⟨S.go i H' st' hlt e2 rs2 okk, fun H2 => ∃ acc2 st2, Ext H1 H2 ∧ RelSto K H2 st2 ∧ W (i + 1) acc2 st2, fun H2 z => ⟨xs.length - (i + 1), by omega, rfl, hlt, z⟩, fun x H3 y => ?_⟩
    obtain ⟨d, hd, rd, kp⟩ := S.yld i H' st' x H3 hlt e2 rs2 okk y
    have e3 : Ext H' H3 := .of_keep kp
    refine ⟨d, wipeE env ws, st', _, rd, ((re.mono (e1.trans (e2.trans e3))).wipe ws), rs2.of_keep kp, turn i acc d st' hd w, fun env4 st4 σ4 H4 q4 e4 re4 rs4 ew => ⟨by rw [ew, wipe_wipe], ?_⟩⟩
    refine liftT_in re4 rs4 q4 fun b st5 H5 q5 e5 re5 rs5 => ?_
    have E5 : Ext H1 H5 := e2.trans (e3.trans (e4.trans e5))
    cases b with
    | false => exact ⟨acc, st5, E5, rs5, q5⟩
    | true =>
      refine lift_in re5 rs5 q5 fun y st6 y' H6 q6 e6 ry re6 rs6 => ?_
      refine lift_in re6 rs6 q6 fun z st7 z' H7 ⟨k, ek, hD, hz, w7⟩ e7 rz re7 rs7 => ?_
      obtain ⟨vs, gD, rD⟩ := rs7 _ _ hD
      have ex : ∀ u, Ext H7 (upd H7 p u) := fun u => .upd_mut (by rw [gD]; trivial)
      exact ⟨vs, k, key_rel ry ek, gD, by rw [rD.length]; exact hz, _, _, E5.trans (e6.trans (e7.trans (ex _))), rs7.put (o := .dic (putD acc k z)) (ex _) ⟨_, upd_same, (rD.put k rz).mono (ex _)⟩, w7⟩
  · have hn : i = xs.length := by omega
    subst hn
    exact .inl ⟨S.stop _ H' st' (Nat.le_refl _) e2 rs2 okk, k _ st' _ H' (fin acc st' w) (e1.trans e2) (.ref p) rs2⟩
theorem de_dc {kx vx tg iter : Expr} {ifs : List Expr} {scope : Scope} {own : List (Str × Nat)} {ws : List Nat} {pos : Pos} {mi : MI} {g : MG} {mt : MT} {mk mv : ME} (hc : X.calm = true) (hN : X.N.Nodup) (hi : DI X tg iter mi) (ok : BlkOk X.N X.env.scope scope own)
    (hg : ∀ (s : Shared) (H : Hp) (C : Addr) (cl : List (Str × Addr)) (fp : List Addr), DGc (X.blk s H scope (compEnvC scope cl C X.env) fp) tg g ws) (ht : ∀ (s : Shared) (H : Hp) (C : Addr) (cl : List (Str × Addr)) (fp : List Addr), DTs (X.blk s H scope (compEnvC scope cl C X.env) fp) ifs mt)
    (hk : ∀ (s : Shared) (H : Hp) (C : Addr) (cl : List (Str × Addr)) (fp : List Addr), DE (X.blk s H scope (compEnvC scope cl C X.env) fp) kx mk)
    (he : ∀ (s : Shared) (H : Hp) (C : Addr) (cl : List (Str × Addr)) (fp : List Addr), DE (X.blk s H scope (compEnvC scope cl C X.env) fp) vx mv) (hws : own.map (·.2) = ws := by rfl) (hs : ∀ x, foldedSetIterable iter X.env x = pure x := by intro _; rfl) :
    DE X (.DictComp kx vx [⟨tg, iter, ifs, 0⟩] scope pos) (mDc mi g mt mk mv ws) := by
  subst hws
  exact ⟨pe_mono (pe_dc hc hN hi.pi ok (fun s H C cl fp => (hg s H C cl fp).pg) (fun s H C cl fp => (ht s H C cl fp).pts) (fun s H C cl fp => (hk s H C cl fp).pe) (fun s H C cl fp => (he s H C cl fp).pe) hs) fun σ H Q => lift_dc⟩
/-- name = {..} on one line, the name a local -/
theorem ps_setDc {i : Nat} {y : Str} {py : Pos} {kx vx tg iter : Expr} {ifs : List Expr} {scope : Scope} {own : List (Str × Nat)} {pos spos : Pos} {wi : TI} {g : TG} {tt : TT} {tk tv : TE} (hc : X.calm = true) (hN : X.N.Nodup) (hy : X.N[i]? = some y) (hyl : X.env.scope.names.lookup y = some .local)
    (hsw : swapsWith (.DictComp kx vx [⟨tg, iter, ifs, 0⟩] scope pos) (some (.Name y py)) spos.line X.env = pure true) (hi : PI X tg iter wi) (ok : BlkOk X.N X.env.scope scope own)
    (hg : ∀ (s : Shared) (H : Hp) (C : Addr) (cl : List (Str × Addr)) (fp : List Addr), PG (X.blk s H scope (compEnvC scope cl C X.env) fp) tg g) (ht : ∀ (s : Shared) (H : Hp) (C : Addr) (cl : List (Str × Addr)) (fp : List Addr), PTs (X.blk s H scope (compEnvC scope cl C X.env) fp) ifs tt)
    (hk : ∀ (s : Shared) (H : Hp) (C : Addr) (cl : List (Str × Addr)) (fp : List Addr), PE (X.blk s H scope (compEnvC scope cl C X.env) fp) kx tk)
    (he : ∀ (s : Shared) (H : Hp) (C : Addr) (cl : List (Str × Addr)) (fp : List Addr), PE (X.blk s H scope (compEnvC scope cl C X.env) fp) vx tv) (hs : ∀ x, foldedSetIterable iter X.env x = pure x := by intro _; rfl) :
    PS X (.Assign [.Name y py] (.DictComp kx vx [⟨tg, iter, ifs, 0⟩] scope pos) spos) (tAsg (tDc wi g tt tk tv (own.map (·.2))) (gName i)) := by
  refine ⟨fun pins s σ H D I h => ?_⟩
  rw [exec_Assign_Name_used _ _ _ _ hsw]
  refine wpAny_bind (wpAny_standAt (wpAny_bind ?_))
  show wpAny _ X.A (do let _ ← comprehension (.DictComp kx vx [⟨tg, iter, ifs, 0⟩] scope pos) scope X.env (firstIterPos [⟨tg, iter, ifs, 0⟩] pos) newDict false (eval iter X.env) (some (assign (.Name y py) X.env))) _ _ s
  have h : tDc wi g tt tk tv (own.map (·.2)) σ H (fun x H1 => gName i x σ H1 D.nx) := h
  refine wpAny_bind (thn (dc_core (Qf := fun _ s' => SP X pins D .next s') hc hN I hi ok hg ht hk he hs h fun L C s' m H' I' q hn f => ?_) fun _ s' hq => wpAny_pure (wpAny_pure hq))
  show wpAny _ _ (assign (.Name y py) X.env (.ref L)) _ _ _
  refine wpAny_assign_Name (store_ok2 (v := V.ref L) I' hN hy (.inl hyl) rfl (fun s2 I2 ⟨a, sb, ha⟩ => ?_) (.inr hyl))
  obtain ⟨f0, f1, f2, f3, f4, f5⟩ := f
  have haC : C ≠ a := by
    rcases ha with z | z
    · rw [z]; exact f1
    · exact fun e => f4 y a z e.symm
  refine ⟨m, hn.sameBut sb haC, fun h3 sb3 => ?_⟩
  exact ⟨_, H', I2.turned (t' := s2.toks) (fun b o hb e => (sb3.2 b hb).trans e) f0 f1 f3 f4 f5, q⟩
theorem swD_true {kx vx : Expr} {gs : List Comprehension} {scope : Scope} {pos py : Pos} {y : Str} {l : Nat} {env : PySem.Env} (hk : env.scope.kind = .function) (hy : env.scope.names.lookup y = some .local) (hl : (py.line == pos.line) = true)
    (ha : (scope.names.any fun (n, k) => n == y && (k == .local || k == .cell)) = false) : swapsWith (.DictComp kx vx gs scope pos) (some (.Name y py)) l env = pure true := by
  have ky : env.kindOf y = some .local := hy
  have hb : env.blockKind = .function := by unfold Env.blockKind; rw [hk]; rfl
  unfold swapsWith
  simp only [hb, ky, ha, Expr.pos, hl]
  rfl
theorem ds_setDc {i : Nat} {y : Str} {py : Pos} {kx vx tg iter : Expr} {ifs : List Expr} {scope : Scope} {own : List (Str × Nat)} {ws : List Nat} {pos spos : Pos} {mi : MI} {g : MG} {mt : MT} {mk mv : ME} (hc : X.calm = true) (hN : X.N.Nodup) (hy : X.N[i]? = some y) (hyl : X.env.scope.names.lookup y = some .local)
    (hsw : swapsWith (.DictComp kx vx [⟨tg, iter, ifs, 0⟩] scope pos) (some (.Name y py)) spos.line X.env = pure true) (hi : DI X tg iter mi) (ok : BlkOk X.N X.env.scope scope own)
    (hg : ∀ (s : Shared) (H : Hp) (C : Addr) (cl : List (Str × Addr)) (fp : List Addr), DGc (X.blk s H scope (compEnvC scope cl C X.env) fp) tg g ws) (ht : ∀ (s : Shared) (H : Hp) (C : Addr) (cl : List (Str × Addr)) (fp : List Addr), DTs (X.blk s H scope (compEnvC scope cl C X.env) fp) ifs mt)
    (hk : ∀ (s : Shared) (H : Hp) (C : Addr) (cl : List (Str × Addr)) (fp : List Addr), DE (X.blk s H scope (compEnvC scope cl C X.env) fp) kx mk)
    (he : ∀ (s : Shared) (H : Hp) (C : Addr) (cl : List (Str × Addr)) (fp : List Addr), DE (X.blk s H scope (compEnvC scope cl C X.env) fp) vx mv) (hws : own.map (·.2) = ws := by rfl) (hs : ∀ x, foldedSetIterable iter X.env x = pure x := by intro _; rfl) :
    DS X (.Assign [.Name y py] (.DictComp kx vx [⟨tg, iter, ifs, 0⟩] scope pos) spos) (sAsg (mDc mi g mt mk mv ws) (gN i)) := by
  subst hws
  exact ⟨ps_mono (ps_setDc hc hN hy hyl hsw hi.pi ok (fun s H C cl fp => (hg s H C cl fp).pg) (fun s H C cl fp => (ht s H C cl fp).pts) (fun s H C cl fp => (hk s H C cl fp).pe) (fun s H C cl fp => (he s H C cl fp).pe) hs) fun D σ H ⟨env, st, D0, re, rs, h, k1, _⟩ => by
    have h2 : lift X.K (mDc mi g mt mk mv (own.map (·.2))) σ H fun x H1 => gName i x σ H1 D.nx :=
      ⟨env, st, _, re, rs, h, fun d st' v H' q e r s => k1 _ st' _ H' q e ((re.mono e).set r i) s⟩
    exact lift_dc h2⟩

/-! ### a dict locked while it is walked -/
/-- the keys -/
def keyB : Key → D
  | .inl i => .int i
  | .inr x => .str x
def mLock (i : Nat) (m : ME) : ME := fun env st Q => ∃ p kvs, env[i]? = some (some (.ref p)) ∧ st p = some (.dic kvs) ∧ m env (put st p (.rod kvs)) fun d st' => st' p = some (.rod kvs) ∧ Q d (put st' p (.dic kvs))
theorem de_lock {e : Expr} {i : Nat} {m : ME} (he : DE X e m) : DE X e (mLock i m) :=
  ⟨pe_mono (pe_lock he.pe) fun σ H Q ⟨env, st, Q0, re, rs, ⟨p, kvs, _, e2, h⟩, k⟩ => by
    obtain ⟨ws, g, r⟩ := rs _ _ e2
    refine ⟨p, .dK ws, g, trivial, fun od => ?_⟩
    have ex : Ext H (upd H p (.frz od (.dK ws))) := .upd_mut (by rw [g]; trivial)
    refine lift_in (re.mono ex) (rs.put (o := .rod kvs) ex ⟨ws, od, upd_same, r.mono ex⟩) h fun d st' v H' ⟨q1, q2⟩ e' rd re' rs' => ?_
    have hp : H' p = some (.frz od (.dK ws)) := e'.f _ _ _ upd_same
    have notp : ∀ a xs, Rd H' a (.tup xs) → a ≠ p := by
      rintro a xs r rfl
      rcases r with r | ⟨_, r⟩ <;> rw [hp] at r <;> cases r
    have exT : ExtT H' (upd H' p (.dK ws)) := fun a xs r => by
      have ne := notp a xs r
      rcases r with r | ⟨u, r⟩
      · exact .inl (by rw [upd_ne ne]; exact r)
      · exact .inr ⟨u, by rw [upd_ne ne]; exact r⟩
    have rk : RelK X.K H' kvs ws := by
      obtain ⟨ws', u, g', r'⟩ := rs' _ _ q1
      rw [hp] at g'
      cases g'
      exact r'
    refine ⟨hp, k d _ v _ q2 ⟨fun a xs r => exT _ _ (e'.t _ _ (ex.t _ _ r)), fun a o u h0 => ?_⟩ (rd.monoT exT) fun b ob hb => ?_⟩
    · have ne : a ≠ p := by
        rintro rfl
        rw [g] at h0; cases h0
      rw [upd_ne ne]
      exact e'.f _ _ _ (ex.f _ _ _ h0)
    · by_cases qb : b = p
      · subst qb
        rw [put_same] at hb
        cases hb
        exact ⟨ws, upd_same, rk.monoT exT⟩
      · rw [put_ne qb] at hb
        exact (rs' b ob hb).keep exT fun u hu => by rw [upd_ne qb]; exact hu⟩
/-- the keys of a locked dict -/
def wKeys (m : ME) : MI := fun env st Q => m env st fun x st1 => ∃ p kvs, x = .ref p ∧ st1 p = some (.rod kvs) ∧ Q (kvs.map fun kv => keyB kv.1) (fun st => st p = some (.rod kvs)) st1
theorem RelK.getV {κ : Type} {K : PySem.W.Frag} {H : Hp} : ∀ {ds : List (κ × D)} {vs : List (κ × V)} {i : Nat} {k : κ} {v : V}, RelK K H ds vs → vs[i]? = some (k, v) → ∃ d, ds[i]? = some (k, d) ∧ RelD K H d v
  | _, _, _, _, _, .nil, e => by simp at e
  | _, _, 0, _, _, .cons r _, e => by simp at e; obtain ⟨rfl, rfl⟩ := e; exact ⟨_, rfl, r⟩
  | _, _, i + 1, k, v, .cons _ t, e => by
    obtain ⟨u, h1, h2⟩ := RelK.getV (i := i) (k := k) (v := v) t (by simpa using e)
    exact ⟨u, by simpa using h1, h2⟩
theorem keyB_rel {K : PySem.W.Frag} {H : Hp} (k : Key) : RelD K H (keyB k) (kV k) := by
  cases k <;> first | exact .int _ | exact .str _
theorem src_keys {K : PySem.W.Frag} {H0 : Hp} {p : Addr} {kvs : List (Key × D)} {ws : List (Key × V)} {u : Obj} (g : H0 p = some (.frz u (.dK ws))) (r : RelK K H0 kvs ws) :
    SrcJ K H0 (kvs.map fun kv => keyB kv.1) (fun st => st p = some (.rod kvs)) (Itk p u ws) where
  stop := fun i H st h e rs o => ⟨e.f _ _ _ g, by rw [r.length]; simpa using h⟩
  go := fun i H st h e rs o => ⟨e.f _ _ _ g, by rw [r.length]; simpa using h⟩
  yld := fun i H st x H' h e rs o y => by
    obtain ⟨rfl, k, v, hk, rfl⟩ := y
    obtain ⟨d, hd, _⟩ := r.getV hk
    exact ⟨keyB k, by simp [hd], keyB_rel k, fun b u z => z⟩
theorem di_keys {tg e : Expr} {m : ME} (he : DE X e m) : DI X tg e (wKeys m) :=
  ⟨pi_mono (pi_keys he.pe) fun σ H R ⟨env, st, Q0, re, rs, h, k⟩ => by
    refine lift_in re rs h fun x st1 x' H1 ⟨p, kvs, e, e2, q⟩ ex rx re1 rs1 => ?_
    subst e
    cases rx
    obtain ⟨ws, u, g, r⟩ := rs1 _ _ e2
    exact ⟨p, u, rfl, .inl ⟨ws, g, k _ _ st1 _ H1 q ex rs1 (src_keys g r)⟩⟩⟩
end

/-! ### a def of the text -/
/-- what is wanted behind a body -/
def endsOf (Q : DK) : DEnds := { nx := fun _ st => ∃ st2, Sub st2 st ∧ Q .non st2, rt := fun d st => ∃ st2, Sub st2 st ∧ Q d st2 }
def startE (N : Nat) (ds : List D) : Env := ds.map some ++ List.replicate (N - ds.length) none
/-- a def keeps its promise: t its body's reading -/
structure Keeps (n N : Nat) (sp : DSp) (t : MS) : Prop where
  len : ∀ ds st Q, sp ds st Q → ds.length = n
  run : ∀ ds st Q, sp ds st Q → t (endsOf Q) (startE N ds) st
theorem keeps_use {K : PySem.W.Frag} {n : Nat} {N : List Str} {sp : DSp} {t : MS} (h : Keeps n N.length sp t) {vs : List V} {H : Hp} {Q : VK} {E : XK} (hs : liftSp K sp vs H Q E) :
    liftS K t { nx := fun _ H' => Q .non H', rt := Q } (start N vs) H := by
  obtain ⟨ds, st, Q0, r, rs, hsp, k⟩ := hs
  refine ⟨startE N.length ds, st, endsOf Q0, .start N r, rs, h.run ds st Q0 hsp, ?_, ?_, ?_, ?_⟩
  · exact fun env' st' σ' H' ⟨st2, s, q⟩ e re' rs' => k _ st2 _ H' q e .non (rs'.sub s)
  · exact fun d st' v H' ⟨st2, s, q⟩ e r rs' => k _ st2 _ H' q e r (rs'.sub s)
  · exact fun _ _ _ _ q => q.elim
  · exact fun _ _ _ _ q => q.elim
theorem keeps_len {K : PySem.W.Frag} {n N : Nat} {sp : DSp} {t : MS} (h : Keeps n N sp t) {vs : List V} {H : Hp} {Q : VK} {E : XK} (hs : liftSp K sp vs H Q E) : vs.length = n := by
  obtain ⟨ds, st, Q0, r, rs, hsp, k⟩ := hs
  rw [← r.length]
  exact h.len _ _ _ hsp
end L2.DL

namespace L2.DL
open PySem PySem.Spec PyProof.Rows

/-! ### texts in their order -/
def ltS (x y : Str) : Bool := decide (x.cps.toList < y.cps.toList)
def leS (x y : Str) : Bool := !ltS y x
theorem str_ext {x y : Str} (h : x.cps.toList = y.cps.toList) : x = y := Str.ext' (Array.toList_inj.mp h)
theorem ltS_irrefl (x : Str) : ltS x x = false := by
  unfold ltS
  exact decide_eq_false (List.lt_irrefl _)
theorem ltS_trans {x y z : Str} (h : ltS x y = true) (k : ltS y z = true) : ltS x z = true := by
  unfold ltS at *
  exact decide_eq_true (List.lt_trans (of_decide_eq_true h) (of_decide_eq_true k))
theorem ltS_asymm {x y : Str} (h : ltS x y = true) : ltS y x = false := by
  cases e : ltS y x with
  | false => rfl
  | true => have := ltS_trans h e; rw [ltS_irrefl] at this; cases this
theorem ltS_tri {x y : Str} (h : ltS x y = false) (k : ltS y x = false) : x = y := by
  unfold ltS at *
  apply str_ext
  exact List.le_antisymm (List.not_lt.mp (of_decide_eq_false k)) (List.not_lt.mp (of_decide_eq_false h))
theorem leS_total (x y : Str) : (leS x y || leS y x) = true := by
  unfold leS
  cases e : ltS y x with
  | false => rfl
  | true => rw [ltS_asymm e]; rfl
theorem leS_trans {x y z : Str} (h : leS x y = true) (k : leS y z = true) : leS x z = true := by
  unfold leS at *
  cases e : ltS z x with
  | false => rfl
  | true =>
    exfalso
    have h1 : ltS y x = false := by simpa using h
    have h2 : ltS z y = false := by simpa using k
    cases e3 : ltS x y with
    | true =>
      have := ltS_trans e e3
      rw [h2] at this; cases this
    | false =>
      have := ltS_tri e3 h1
      subst this
      rw [h2] at e; cases e
theorem leS_antisymm {x y : Str} (h : leS x y = true) (k : leS y x = true) : x = y := by
  unfold leS at *
  exact ltS_tri (by simpa using k) (by simpa using h)
/-- a list sorted by text keys -/
def sortBy {α : Type} (f : α → Str) (l : List α) : List α := l.mergeSort fun x y => leS (f x) (f y)
theorem sortBy_perm {α : Type} (f : α → Str) (l : List α) : (sortBy f l).Perm l := List.mergeSort_perm ..
theorem sortBy_sorted {α : Type} (f : α → Str) (l : List α) : (sortBy f l).Pairwise fun x y => leS (f x) (f y) = true :=
  List.pairwise_mergeSort (le := fun x y => leS (f x) (f y)) (fun a b c h k => leS_trans h k) (fun a b => leS_total _ _) l
/-- two sorted rearrangements of one another with unlike keys are one -/
theorem sorted_uniq {α : Type} {f : α → Str} : ∀ {l m : List α}, l.Perm m → l.Pairwise (fun x y => leS (f x) (f y) = true) → m.Pairwise (fun x y => leS (f x) (f y) = true) → (∀ x ∈ l, ∀ y ∈ l, f x = f y → x = y) → l = m
  | [], m, p, _, _, _ => (List.nil_perm.mp p).symm ▸ rfl
  | x :: l, m, p, s, t, u => by
    cases m with
    | nil => exact absurd p.length_eq (by simp)
    | cons y m =>
      have hx : x ∈ y :: m := p.mem_iff.mp (List.mem_cons_self ..)
      have hy : y ∈ x :: l := p.mem_iff.mpr (List.mem_cons_self ..)
      have h1 : leS (f x) (f y) = true := by
        rcases List.mem_cons.mp hy with e | e
        · subst e
          unfold leS
          rw [ltS_irrefl]
          rfl
        · exact (List.pairwise_cons.mp s).1 y e
      have h2 : leS (f y) (f x) = true := by
        rcases List.mem_cons.mp hx with e | e
        · subst e
          unfold leS
          rw [ltS_irrefl]
          rfl
        · exact (List.pairwise_cons.mp t).1 x e
      have e := u x (List.mem_cons_self ..) y hy (leS_antisymm h1 h2)
      subst e
      rw [sorted_uniq (List.Perm.cons_inv p) (List.pairwise_cons.mp s).2 (List.pairwise_cons.mp t).2 fun a ha b hb => u a (List.mem_cons_of_mem _ ha) b (List.mem_cons_of_mem _ hb)]
theorem sortBy_eq {α : Type} {f : α → Str} {l m : List α} (p : m.Perm l) (s : m.Pairwise fun x y => leS (f x) (f y) = true) (u : ∀ x ∈ l, ∀ y ∈ l, f x = f y → x = y) : m = sortBy f l :=
  sorted_uniq (p.trans (sortBy_perm f l).symm) s (sortBy_sorted f l) fun a ha b hb => u a (p.mem_iff.mp ha) b (p.mem_iff.mp hb)
theorem ltCps_ltS (x y : Str) : ltCps x.cps.toList y.cps.toList = ltS x y := by
  unfold ltS
  have go : ∀ a b : List Nat, ltCps a b = decide (a < b) := by
    intro a
    induction a with
    | nil =>
      intro b
      cases b with
      | nil => simp [ltCps]
      | cons c b => simp [ltCps]
    | cons c a ih =>
      intro b
      cases b with
      | nil => simp [ltCps]
      | cons d b =>
        simp only [ltCps, ih, List.cons_lt_cons_iff]
        by_cases h : c < d
        · simp [h]
        · by_cases e : c = d
          · subst e; simp
          · have h2 : d < c := by omega
            simp [h, e]
  exact go _ _
theorem sortedS_pair : ∀ {l : List Str}, sortedS l = true → l.Pairwise fun x y => leS x y = true
  | [], _ => .nil
  | x :: l, h => by
    have go : ∀ (l : List Str) (p : Str), risingS p l = true → (∀ y ∈ l, leS p y = true) ∧ l.Pairwise fun x y => leS x y = true := by
      intro l
      induction l with
      | nil => exact fun p _ => ⟨fun y hy => (by cases hy), List.Pairwise.nil⟩
      | cons z l ih =>
        intro p h
        simp only [risingS, Bool.and_eq_true] at h
        obtain ⟨h1, h2⟩ := h
        rw [ltCps_ltS] at h1
        have hp : leS p z = true := h1
        obtain ⟨i1, i2⟩ := ih z h2
        refine ⟨fun y hy => ?_, List.pairwise_cons.mpr ⟨i1, i2⟩⟩
        rcases List.mem_cons.mp hy with e | e
        · subst e; exact hp
        · exact leS_trans hp (i1 y e)
    obtain ⟨a, b⟩ := go l x h
    exact List.pairwise_cons.mpr ⟨a, b⟩
theorem sortedS_eq {l m : List Str} (p : m.Perm l) (h : sortedS m = true) : m = sortBy id l := sortBy_eq p (sortedS_pair h) fun x _ y _ e => e

/-! ### sorted, of tuples that begin with unlike texts -/
end L2.DL
namespace SrtK
open PySem PySem.Calls PyProof.Rows SrtO
section
variable {prog : Program} {w : World} {A : Around} {E : Value → Shared → Prop} {s : Shared}
/-- a tuple that begins with a text -/
def Hd (h : Heap) (v : Value) (k : Str) : Prop := ∃ a o t rest n, v = .ref a ∧ h.get? a = some o ∧ o.cls = .type "tuple" ∧ o.data = .seq (Value.str k t :: rest).toArray n
theorem Hd.keeps {h h' : Heap} {v : Value} {k : Str} (p : Hd h v k) (g : ∀ b o, h.get? b = some o → o.cls = .type "tuple" → h'.get? b = some o) : Hd h' v k := by
  obtain ⟨a, o, t, rest, n, e, ho, hc, hd⟩ := p
  exact ⟨a, o, t, rest, n, e, g _ _ ho hc, hc, hd⟩
theorem lex_same {Q : Bool → Shared → Prop} {b fin : Bool} : ∀ (l : List Value) (i : Nat), Q fin s → PySem.W.KatLex prog w A b fin Q (l.zip l) i s
  | [], _, h => PySem.W.kat_nil h
  | v :: l, i, h => by
    rw [List.zip_cons_cons]
    refine PySem.W.kat_cons (SeqAt.EqAt.same v prog w _ _ ?_)
    exact PySem.W.kat_yes (lex_same l (i + 1) h)
theorem hd_cmp {vs : List Value} {k : Value → Str} (hp : ∀ v ∈ vs, Hd s.heap v (k v)) (hi : ∀ v ∈ vs, ∀ u ∈ vs, k v = k u → v = u) : Cmp prog w A s (tuples' true) (fun p => p.1 ∈ vs) (lt2 fun v u => L2.DL.ltS (k v) (k u)) := by
  intro p q hm hm'
  have h1 := hp _ hm
  have h2 := hp _ hm'
  show wpAny (model prog w) A (keyLt' (tuples' true) p.1 q.1) (fun r s' => s' = s ∧ r = L2.DL.ltS (k p.1) (k q.1)) (fun _ _ => False) s
  by_cases he : k p.1 = k q.1
  · have e := hi _ hm _ hm' he
    rw [← e, L2.DL.ltS_irrefl]
    obtain ⟨a, o, t, rest, n, e1, ho, hc, hd⟩ := h1
    rw [e1]
    refine PySem.W.kat_lt ho hd ho hd ?_
    refine lex_same _ 0 ?_
    exact ⟨rfl, by simp⟩
  · generalize k p.1 = x at h1 he ⊢
    generalize k q.1 = y at h2 he ⊢
    obtain ⟨a, o, t, rest, n, e1, ho, hc, hd⟩ := h1
    obtain ⟨a', o', t', rest', n', e1', ho', hc', hd'⟩ := h2
    rw [e1, e1']
    refine PySem.W.kat_lt ho hd ho' hd' ?_
    show PySem.W.KatLex prog w A true _ _ ((Value.str x t :: rest).zip (Value.str y t' :: rest')) 0 s
    rw [List.zip_cons_cons]
    refine PySem.W.kat_cons (SeqAt.EqAt.str_str x t y t' prog w _ _ ?_)
    have e2 : (x == y) = false := by simpa using he
    rw [e2]
    exact PySem.W.kat_no (oneLt_str ⟨rfl, rfl⟩)
theorem firsts_of {h : Heap} {k : Value → Str} : ∀ {vs : List Value}, (∀ v ∈ vs, Hd h v (k v)) → ∃ fs : List Value, PySem.W.KatTups h vs fs ∧ fs.length = vs.length ∧ ∀ f ∈ fs, ∃ x t, f = Value.str x t
  | [], _ => ⟨[], PySem.W.KatTups.nil, rfl, fun _ hm => by simp at hm⟩
  | v :: vs, hp => by
    obtain ⟨fs, h1, h2, h3⟩ := firsts_of (vs := vs) fun v' hm => hp v' (List.mem_cons_of_mem _ hm)
    obtain ⟨a, o, t, rest, n, e, ho, hc, hd⟩ := hp v (List.mem_cons_self ..)
    generalize k v = kv at hd
    subst e
    refine ⟨.str kv t :: fs, PySem.W.KatTups.cons ho hc hd (by simp) h1, by rw [List.length_cons, List.length_cons, h2], fun f hm => ?_⟩
    rcases List.mem_cons.mp hm with rfl | hm
    · exact ⟨kv, t, rfl⟩
    · exact h3 f hm
theorem hd_sortable {a : Addr} {vs : List Value} {k : Value → Str} (h0 : 0 < vs.length) (hp : ∀ v ∈ vs, Hd s.heap v (k v)) (hi : ∀ v ∈ vs, ∀ u ∈ vs, k v = k u → v = u) (ha : ∀ o, s.heap.get? a = some o → o.cls ≠ .type "tuple") : SortableO prog w A s a vs fun v u => L2.DL.ltS (k v) (k u) := by
  intro h' keep
  have hp' : ∀ v ∈ vs, Hd h' v (k v) := fun v hm => (hp v hm).keeps fun b o e c => keep b o (fun z => by subst z; exact ha o e c) e
  obtain ⟨fs, h1, h2, h3⟩ := firsts_of hp'
  refine ⟨tuples' true, fun Q E hq => ?_, hd_cmp hp' hi⟩
  refine PySem.W.kat_kind (T := .type "str") h1 (by omega) (fun f hm => ?_) (by rfl) ?_
  · obtain ⟨x, t, rfl⟩ := h3 f hm
    exact PySem.W.Looks.now
  · have e : (Value.type "str" != Value.type "tuple") = true := by first | decide +kernel | rfl | decide
    rw [e]
    exact hq
theorem swo_str (k : Value → Str) : Swo fun v u => L2.DL.ltS (k v) (k u) := by
  refine ⟨fun x y h => L2.DL.ltS_asymm h, fun x y z h1 h2 => ?_⟩
  have a : L2.DL.leS (k x) (k y) = true := by unfold L2.DL.leS; rw [h1]; rfl
  have b : L2.DL.leS (k y) (k z) = true := by unfold L2.DL.leS; rw [h2]; rfl
  have c := L2.DL.leS_trans a b
  unfold L2.DL.leS at c
  simpa using c
theorem sorted_hd {l : Addr} {vs : List Value} {k : Value → Str} {Q : Value → Shared → Prop} (hl : s.heap.IsList l vs.toArray) (hz : vs.length ≤ sizeLine) (hp : ∀ v ∈ vs, Hd s.heap v (k v)) (hi : ∀ v ∈ vs, ∀ u ∈ vs, k v = k u → v = u)
    (h : ∀ (h' : Heap) (d : Addr) (out : List Value), Srtd (fun v u => L2.DL.ltS (k v) (k u)) out → Stb (fun v u => L2.DL.ltS (k v) (k u)) out vs → (∀ b o, s.heap.get? b = some o → h'.get? b = some o) → s.heap.objs.size ≤ d → (∃ n, h'.get? d = some (seqObj "list" out.toArray n)) → Q (.ref d) { s with heap := h' }) :
    wpAny (model prog w) A (call (.builtin "sorted") [.ref l]) Q E s := by
  refine sorted_ord (swo_str k) hl hz (fun h2 h₁ a ha kk => ?_) fun out hs hb => ?_
  · refine hd_sortable (s := { s with heap := h₁ }) (by omega) (fun v hm => (hp v hm).keeps fun b o e _ => (kk b o e).2) hi fun o e => ?_
    have e' : some o = some (seqObj "list" vs.toArray 0) := e.symm.trans ha
    cases e'
    intro c
    exact absurd (Value.type.inj c) (by decide)
  · exact h _ _ out hs hb (fun b o e => sortedAll_old e) (Nat.le_succ _) (sortedAll_at s.heap vs out.toArray)
end
end SrtK

/-! sorted of a tuple of texts -/
namespace SrtT
open PySem PySem.Spec PyProof.Rows L2
section
variable {P : Program} {w : World} {A : Around} {E : Value → Shared → Prop} {s : Shared}
/-- the list that is laid for the items -/
abbrev laid (h : Heap) (vs : List Value) : Heap := (h.push (seqObj "list" #[] 0)).update h.objs.size (Obj.mapSeq (· ++ vs.toArray))
theorem collect_tuple {l : Addr} {vs : List Value} {Q : List Value → Shared → Prop} (hl : s.heap.IsTuple l vs.toArray) (fin : Q vs { s with heap := laid s.heap vs }) (few : vs.length ≤ sizeLine) :
    wpAny (model P w) A (collect (.ref l)) Q E s := by
  obtain ⟨o, ho, hc, n, hd⟩ := id hl
  unfold collect
  refine wpAny_bind (wpAny_runValue (codeAny_builtin entry_proto_collect' ?_))
  show wpAny _ _ (newList [] >>= fun r => again (.builtin "list.__iadd__" ⟨[r, .ref l], []⟩)) _ _ s
  refine wpAny_bind (wpAny_newList (wpAny_pure ⟨Code.quiet_builtin _ (by decide +kernel), codeAny_builtin entry_list_iadd' ?_⟩))
  show wpAny _ _ (Builtin.List.listExtendWith (.ref s.heap.objs.size) (.ref l) (.ref s.heap.objs.size)) _ _ { s with heap := s.heap.push (seqObj "list" #[] 0) }
  unfold Builtin.List.listExtendWith
  have ho2 : (s.heap.push (seqObj "list" #[] 0)).get? l = some o := Heap.get?_push_of_some _ ho
  refine wpAny_bind (wpAny_typeOf (T := "tuple") ⟨o, ho2, hc⟩ ?_)
  rw [if_pos (by rw [show (Value.type "tuple" == Value.type "tuple") = true from rfl]; simp)]
  refine wpAny_bind (listItems_at ho2 hd (wpAny_bind (listItems_at (xs := #[]) (n := 0) (Heap.get?_push_size _ rfl) rfl ?_)))
  rw [if_neg (by simp)]
  refine wpAny_bind (listUpdate_at (xs := #[]) (n := 0) (Heap.get?_push_size _ rfl) rfl ?_ (Nat.zero_le _) (by show (#[] ++ vs.toArray).size ≤ sizeLine + 1; simp; omega))
  refine wpAny_pure (wpAny_bind (wpAny_load (get?_update_seq (Heap.get?_push_size _ rfl) _) ?_))
  show wpAny _ _ (pure ((#[] : Array Value) ++ vs.toArray).toList) Q E _
  rw [show ((#[] : Array Value) ++ vs.toArray).toList = vs by simp]
  exact wpAny_pure fin
theorem sort {l : Addr} {vs : List Value} {ks : List Str} {Q : Value → Shared → Prop} (hl : s.heap.IsTuple l vs.toArray) (are : StrsAre vs ks) (few : vs.length < 64)
    (fin : ∀ (out : Array Value) (ys : List Str), StrsAre out.toList ys → ys.Perm ks → sortedS ys = true → Q (.ref (s.heap.objs.size + 1)) { s with heap := sortedAll s.heap vs out }) :
    wpAny (model P w) A (call (.builtin "sorted") [.ref l]) Q E s := by
  refine Calls.call_function_entry kind_sorted plain_sorted entry_sorted (args_sorted1 _) ?_
  unfold Builtin.«sorted»
  refine wpAny_bind (m := checkCount "sorted" 1 1 _) (wpAny_pure ?_)
  refine wpAny_bind (collect_tuple hl ?_ (by rw [sizeLine_eq]; omega))
  refine wpAny_bind (wpAny_newList ?_ (by rw [sizeLine_eq]; omega))
  have sz : (laid s.heap vs).objs.size = s.heap.objs.size + 1 := by unfold laid; rw [Heap.size_update, size_push']
  have gL : ((laid s.heap vs).push (seqObj "list" vs.toArray 0)).get? (s.heap.objs.size + 1) = some (seqObj "list" vs.toArray 0) := by
    rw [← sz]
    exact Heap.get?_push_size _ rfl
  show wpAny _ _ _ _ _ { s with heap := (laid s.heap vs).push (seqObj "list" vs.toArray 0) }
  rw [sz]
  refine wpAny_bind (wpAny_holding (wpAny_call_entry slot_list_sort ⟨_, gL, rfl⟩ entry_list_sort (list_sort_treeK strKind_oneLt gL are.keysOf (fun v₁ v₂ rest e => keyKind_strs (by rw [← e]; exact are)) few fun st' a1 a2 => ⟨_, rfl, ?_⟩) (args_list_sort _)))
  obtain ⟨ys, r1, r2, r3⟩ := sorted_out_str are a1 a2
  exact wpAny_pure ⟨_, rfl, fin _ ys r1 r2 r3⟩
end
section
variable {X : Cx}
def rSrt (K : PySem.W.Frag) : List V → Hp → VK → Prop := fun xs H Q => ∃ (a : Addr) (ks : List Str), xs = [V.ref a] ∧ SqT K H a (ks.map V.str) ∧ ks.length < 64 ∧ ∀ ys p, ys.Perm ks → sortedS ys = true → H p = none → Q (.ref p) (upd H p (.lst (ys.map V.str)))
theorem cr_srt : CallR X (.builtin "sorted") (rSrt X.K) := by
  intro pins s σ H xs us Q I r ⟨a, ks, e, hs, few, q⟩
  subst e
  obtain ⟨its, rv, p, hz⟩ := I.tuple hs
  have hp : s.heap.IsTuple a its.toArray := p
  rw [Vals.ref1 r]
  have len := rv.length
  rw [List.length_map] at len
  refine sort hp rv.strs (by rw [← len]; exact few) fun out ys h1 h2 h3 => ?_
  obtain ⟨c, gc⟩ := sortedAll_at s.heap its out
  have few2 : (ys.map V.str).length ≤ sizeLine := by rw [List.length_map, h2.length_eq, sizeLine_eq]; omega
  exact ⟨.ref _, upd H (s.heap.objs.size + 1) (.lst (ys.map V.str)), I.laid (t' := s.toks) (fun _ _ => sortedAll_old) (Nat.le_succ _) ⟨few2, out.toList, c, vals_of_strs h1, gc⟩, rfl, q ys _ h2 h3 (I.hok.fresh (Nat.le_succ _))⟩
end
end SrtT

namespace L2.DL
open PySem PySem.Spec PyProof.Rows

theorem perm_map_inv {α β : Type} {f : α → β} {l m : List β} (h : l.Perm m) : ∀ (L : List α), m = L.map f → ∃ L' : List α, L'.Perm L ∧ l = L'.map f := by
  induction h with
  | nil =>
    intro L e
    cases L with
    | nil => exact ⟨[], .refl _, rfl⟩
    | cons a L => cases e
  | cons x h ih =>
    intro L e
    cases L with
    | nil => cases e
    | cons a L =>
      simp only [List.map_cons, List.cons.injEq] at e
      obtain ⟨e1, e2⟩ := e
      obtain ⟨L', p, e3⟩ := ih L e2
      exact ⟨a :: L', p.cons a, by simp [e1, e3]⟩
  | swap x y l =>
    intro L e
    cases L with
    | nil => cases e
    | cons a L =>
      cases L with
      | nil => simp at e
      | cons b L =>
        simp only [List.map_cons, List.cons.injEq] at e
        obtain ⟨e1, e2, e3⟩ := e
        exact ⟨b :: a :: L, List.Perm.swap a b L, by simp [e1, e2, e3]⟩
  | trans h1 h2 ih1 ih2 =>
    intro L e
    obtain ⟨L1, p1, e1⟩ := ih2 L e
    obtain ⟨L2, p2, e2⟩ := ih1 L1 e1
    exact ⟨L2, p2.trans p1, e2⟩
theorem nodup_inj {α β : Type} {f : α → β} : ∀ {l : List α}, (l.map f).Nodup → ∀ {a b : α}, a ∈ l → b ∈ l → f a = f b → a = b
  | [], _, _, _, h, _, _ => by cases h
  | x :: l, n, a, b, ha, hb, e => by
    rw [List.map_cons, List.nodup_cons] at n
    rcases List.mem_cons.mp ha with e1 | ha
    · subst e1
      rcases List.mem_cons.mp hb with e2 | hb
      · exact e2.symm
      · exact absurd (List.mem_map.mpr ⟨b, hb, e.symm⟩) n.1
    · rcases List.mem_cons.mp hb with e2 | hb
      · exact absurd (List.mem_map.mpr ⟨a, ha, by rw [e, e2]⟩) n.1
      · exact nodup_inj n.2 ha hb e
/-- a pair's datum: a text and what follows -/
def pairD (p : Str × List D) : D := .tup (.str p.1 :: p.2)
/-- the values of a list, each with its pair -/
theorem zip_rel {K : PySem.W.Frag} {H : Hp} : ∀ {ps : List (Str × List D)} {vs : List V} {us : List Value}, RelDs K H (ps.map pairD) vs → Vals vs us →
    ∃ L : List (Value × (Str × List D)), L.map (·.1) = us ∧ L.map (·.2) = ps ∧ ∀ q ∈ L, ∃ t, q.1 = Value.ref t ∧ RelD K H (pairD q.2) (.ref t)
  | [], _, _, .nil, .nil => ⟨[], rfl, rfl, fun _ h => by cases h⟩
  | p :: ps, _, _, .cons r t, .cons rv tv => by
    obtain ⟨L, e1, e2, h⟩ := zip_rel t tv
    obtain ⟨a, ws, rfl, _, _⟩ := r.tup_of
    cases rv
    refine ⟨(Value.ref a, p) :: L, by simp [e1], by simp [e2], fun q hq => ?_⟩
    rcases List.mem_cons.mp hq with rfl | hq
    · exact ⟨a, rfl, r⟩
    · exact h q hq
theorem rel_unzip {K : PySem.W.Frag} {H : Hp} : ∀ {L : List (Value × (Str × List D))}, (∀ q ∈ L, ∃ t, q.1 = Value.ref t ∧ RelD K H (pairD q.2) (.ref t)) →
    ∃ vs, RelDs K H ((L.map (·.2)).map pairD) vs ∧ Vals vs (L.map (·.1))
  | [], _ => ⟨[], .nil, .nil⟩
  | q :: L, h => by
    obtain ⟨vs, r, t⟩ := rel_unzip (L := L) fun q' hq => h q' (List.mem_cons_of_mem _ hq)
    obtain ⟨a, e, r1⟩ := h q (List.mem_cons_self ..)
    exact ⟨.ref a :: vs, .cons r1 r, .cons e t⟩
/-- sorted(x): a dict's text keys; a list of texts; a list of tuples that begin with unlike texts -/
def oSorted : MC
  | [.ref a], st, Q => (∃ kvs ks, rdD (st a) = some kvs ∧ kvs.map (·.1) = ks.map Sum.inr ∧ ks.length < 64 ∧ ∀ p, Nf st p → Q (.ref p) (put st p (.lst ((sortBy id ks).map D.str)))) ∨
      (∃ ks, rdL (st a) = some (ks.map D.str) ∧ ks.length < 64 ∧ ∀ p, Nf st p → Q (.ref p) (put st p (.lst ((sortBy id ks).map D.str)))) ∨
      (∃ ps, rdL (st a) = some (ps.map pairD) ∧ (ps.map (·.1)).Nodup ∧ ∀ p, Nf st p → Q (.ref p) (put st p (.lst ((sortBy (·.1) ps).map pairD))))
  | [.tup xs], st, Q => ∃ ks, xs = ks.map D.str ∧ ks.length < 64 ∧ ∀ p, Nf st p → Q (.ref p) (put st p (.lst ((sortBy id ks).map D.str)))
  | _, _, _ => False
section
variable {X : Cx}
theorem sorted_hdV {pins : List (Addr × Obj)} {s : Shared} {σ : L2.St} {H : Hp} {a : Addr} {st : Sto} {ps : List (Str × List D)} {Q : VK} (I : Inv X pins σ H s) (rs : RelSto X.K H st) (e : rdL (st a) = some (ps.map pairD)) (nd : (ps.map (·.1)).Nodup)
    (h : ∀ p vs, H p = none → RelDs X.K H ((sortBy (·.1) ps).map pairD) vs → Q (.ref p) (upd H p (.lst vs))) :
    wpAny (model X.prog X.w) X.A (call (.builtin "sorted") [.ref a]) (EP X pins σ Q) X.xe s := by
  obtain ⟨vs, g, r⟩ := rs.rdL e
  obtain ⟨its, rv, hl, hz⟩ := I.list g
  obtain ⟨L, e1, e2, hL⟩ := zip_rel r rv
  have inj : ∀ q ∈ L, ∀ q' ∈ L, q.1 = q'.1 → q.2.1 = q'.2.1 := fun q hq q' hq' e => by
    obtain ⟨t, e3, r3⟩ := hL q hq
    obtain ⟨t', e4, r4⟩ := hL q' hq'
    rw [e, e4] at e3
    cases e3
    obtain ⟨b, ws, eb, g1, s1⟩ := r3.tup_of
    cases eb
    obtain ⟨b', ws', eb', g2, s2⟩ := r4.tup_of
    cases eb'
    have ew := I.tuple_inj g1 g2
    subst ew
    generalize q.2 = x at s1 ⊢
    generalize q'.2 = y at s2 ⊢
    obtain ⟨x1, x2⟩ := x
    obtain ⟨y1, y2⟩ := y
    cases s1 with
    | cons s1 _ =>
      cases s2 with
      | cons s2 _ =>
        have a1 := s1.str_of
        have a2 := s2.str_of
        rw [a1] at a2
        exact V.str.inj a2
  obtain ⟨k, hk⟩ : ∃ k : Value → Str, ∀ q ∈ L, k q.1 = q.2.1 := by
    classical
    refine ⟨fun u => if h : ∃ q, q ∈ L ∧ q.1 = u then (Classical.choose h).2.1 else Str.empty, fun q hq => ?_⟩
    have ex : ∃ q', q' ∈ L ∧ q'.1 = q.1 := ⟨q, hq, rfl⟩
    simp only [dif_pos ex]
    obtain ⟨c1, c2⟩ := Classical.choose_spec ex
    exact inj _ c1 _ hq c2
  have ndL : (L.map fun q => q.2.1).Nodup := by
    have : (L.map fun q => q.2.1) = ps.map (·.1) := by rw [← e2, List.map_map]; rfl
    rw [this]
    exact nd
  refine SrtK.sorted_hd (k := k) hl.isList (by rw [← rv.length]; exact hz) (fun v hv => ?_) (fun v hv u hu ek => ?_) fun h' d out h1 h2 kp hd hn => ?_
  · rw [← e1] at hv
    obtain ⟨q, hq, rfl⟩ := List.mem_map.mp hv
    rw [hk q hq]
    obtain ⟨t, e3, r3⟩ := hL q hq
    obtain ⟨b, ws, eb, g1, s1⟩ := r3.tup_of
    cases eb
    cases s1 with
    | cons s1 s2 =>
      cases s1
      obtain ⟨its2, rv2, ⟨o, ho, hc, n, hd⟩, _⟩ := I.tuple g1
      cases rv2 with
      | cons q1 q2 =>
        obtain ⟨tk, rfl⟩ := q1
        exact ⟨t, o, tk, _, n, e3, ho, hc, hd⟩
  · rw [← e1] at hv hu
    obtain ⟨q, hq, rfl⟩ := List.mem_map.mp hv
    obtain ⟨q', hq', rfl⟩ := List.mem_map.mp hu
    rw [hk q hq, hk q' hq'] at ek
    exact congrArg (·.1) (nodup_inj ndL hq hq' ek)
  · obtain ⟨L', pL, eL⟩ := perm_map_inv h2.perm L e1.symm
    obtain ⟨n, hn⟩ := hn
    obtain ⟨ws, rD, rV⟩ := rel_unzip (L := L') fun q hq => hL q (pL.mem_iff.mp hq)
    rw [← eL] at rV
    have es : L'.map (·.2) = sortBy (·.1) ps := by
      refine sortBy_eq ?_ ?_ fun x hx y hy e => nodup_inj nd hx hy e
      · rw [← e2]
        exact pL.map _
      · rw [List.pairwise_map]
        have h1' : out.Pairwise fun x y => leS (k x) (k y) = true := h1.imp fun {x y} (hxy : ltS (k y) (k x) = false) => by unfold leS; rw [hxy]; rfl
        rw [eL, List.pairwise_map] at h1'
        refine h1'.imp_of_mem fun {x y} hx hy hxy => ?_
        rw [hk x (pL.mem_iff.mp hx), hk y (pL.mem_iff.mp hy)] at hxy
        exact hxy
    rw [es] at rD
    refine ⟨.ref d, upd H d (.lst ws), I.laid (t' := s.toks) kp hd ⟨?_, out, n, rV, hn⟩, rfl, h d ws (I.hok.fresh hd) rD⟩
    have l1 := rV.length
    have l2 := h2.perm.length_eq
    have l3 := rv.length
    omega
theorem callr_or {f : Value} {r r' : List V → Hp → VK → Prop} (h : CallR X f r) (h' : CallR X f r') : CallR X f (fun xs H Q => r xs H Q ∨ r' xs H Q) := h.or h'
theorem dc_sorted (hc : X.calm = true) : DC X (.builtin "sorted") oSorted := by
  refine ⟨fun pins s σ H xs us Q I rx ⟨ds, st, Q0, rd, rs, h, k⟩ => ?_⟩
  unfold oSorted at h
  split at h
  · cases rd with
    | cons r t =>
      cases t; cases r
      rcases h with ⟨kvs, ks, e, ek, hl, h⟩ | ⟨ks, e, hl, h⟩ | ⟨ps, e, nd, h⟩
      · obtain ⟨ws, g, rk⟩ := rs.rdD e
        refine call_sortedD hc pins s σ H _ us Q I rx ⟨_, ws, ks, rfl, g, by rw [rk.keys]; exact ek, hl, fun ys p hp hs hn => ?_⟩
        have ey := sortedS_eq hp hs
        subst ey
        have ex : Ext H (upd H p (.lst ((sortBy id ks).map V.str))) := .upd_new hn
        exact k _ _ _ _ (h p (rs.fresh hn)) ex (.ref p) (rs.put (o := .lst ((sortBy id ks).map D.str)) ex ⟨_, upd_same, .of_strs _⟩)
      · obtain ⟨ws, g, r⟩ := rs.rdL e
        have ew := r.strs
        subst ew
        refine cr_sortedS pins s σ H _ us Q I rx ⟨_, ks, rfl, g, hl, fun ys p hp hs hn => ?_⟩
        have ey := sortedS_eq hp hs
        subst ey
        have ex : Ext H (upd H p (.lst ((sortBy id ks).map V.str))) := .upd_new hn
        exact k _ _ _ _ (h p (rs.fresh hn)) ex (.ref p) (rs.put (o := .lst ((sortBy id ks).map D.str)) ex ⟨_, upd_same, .of_strs _⟩)
      · cases rx with
        | cons rv rt =>
          cases rt
          cases rv
          refine sorted_hdV I rs e nd fun p vs hn r => ?_
          have ex : Ext H (upd H p (.lst vs)) := .upd_new hn
          exact k _ _ _ _ (h p (rs.fresh hn)) ex (.ref p) (rs.put (o := .lst ((sortBy (·.1) ps).map pairD)) ex ⟨_, upd_same, r.mono ex⟩)
  · cases rd with
    | cons r t =>
      cases t
      obtain ⟨ks, rfl, hl, h⟩ := h
      obtain ⟨a, vs, rfl, g, r2⟩ := r.tup_of
      have ew := r2.strs
      subst ew
      refine SrtT.cr_srt pins s σ H _ us Q I rx ⟨a, ks, rfl, g, hl, fun ys p hp hs hn => ?_⟩
      have ey := sortedS_eq hp hs
      subst ey
      have ex : Ext H (upd H p (.lst ((sortBy id ks).map V.str))) := .upd_new hn
      exact k _ _ _ _ (h p (rs.fresh hn)) ex (.ref p) (rs.put (o := .lst ((sortBy id ks).map D.str)) ex ⟨_, upd_same, .of_strs _⟩)
  · exact h.elim

/-! ### isinstance of built-in classes -/
def tyD (st : Sto) : D → Option String
  | .non => some "NoneType"
  | .bl _ => some "bool"
  | .int _ => some "int"
  | .str _ => some "str"
  | .tup _ => some "tuple"
  | .ref a => (match st a with
    | some (.lst _) => some "list"
    | some (.dic _) => some "dict"
    | some (.rod _) => some "dict"
    | _ => none)
  | .ty _ => none
def isiB (t n : String) : Bool := t == n || (t == "bool" && n == "int")
def tyNames : List String := ["NoneType", "bool", "int", "str", "tuple", "list", "dict"]
theorem kit_all : ∀ t ∈ tyNames, ∀ n ∈ ["int", "str", "bool", "tuple", "list", "dict"], kitB t n = some (isiB t n) := by decide +kernel
theorem tyD_mem {st : Sto} {d : D} {t : String} (h : tyD st d = some t) : t ∈ tyNames := by
  unfold tyD at h
  split at h <;> try (simp only [Option.some.injEq] at h; subst h; decide)
  · split at h <;> simp only [Option.some.injEq, reduceCtorEq] at h <;> subst h <;> decide
  · cases h
theorem tyD_rel {K : PySem.W.Frag} {H : Hp} {st : Sto} {d : D} {v : V} {t : String} (rs : RelSto K H st) (r : RelD K H d v) (h : tyD st d = some t) : TyX K H v (.type t) := by
  cases d with
  | non => cases r; simp only [tyD, Option.some.injEq] at h; subst h; exact .base .non
  | bl b => cases r; simp only [tyD, Option.some.injEq] at h; subst h; exact .base (.bl b)
  | int b => cases r; simp only [tyD, Option.some.injEq] at h; subst h; exact .base (.int b)
  | str b => cases r; simp only [tyD, Option.some.injEq] at h; subst h; exact .base (.str b)
  | ty n => simp [tyD] at h
  | tup ds =>
    simp only [tyD, Option.some.injEq] at h; subst h
    obtain ⟨a, vs, rfl, g, _⟩ := r.tup_of
    rcases g with (g | ⟨o, g⟩) | ⟨o, its, n, hk, hc, _⟩
    · exact .base (.tup g)
    · exact .fTuple g
    · exact .kTuple hk hc
  | ref a =>
    cases r
    simp only [tyD] at h
    split at h
    · rename_i xs e
      simp only [Option.some.injEq] at h; subst h
      obtain ⟨vs, g, _⟩ := rs _ _ e
      exact .base (.lst g)
    · rename_i xs e
      simp only [Option.some.injEq] at h; subst h
      obtain ⟨vs, g, _⟩ := rs _ _ e
      exact .base (.dK g)
    · rename_i xs e
      simp only [Option.some.injEq] at h; subst h
      obtain ⟨vs, u, g, _⟩ := rs _ _ e
      exact .fDict g
    · cases h
def oIsi : MC
  | [x, .ty n], st, Q => n ∈ ["int", "str", "bool", "tuple", "list", "dict"] ∧ ∃ t, tyD st x = some t ∧ Q (.bl (isiB t n)) st
  | _, _, _ => False
theorem dc_isi : DC X (.builtin "isinstance") oIsi :=
  ⟨callr_mono call_isi fun xs H Q ⟨ds, st, Q0, rx, rs, h, k⟩ => by
    unfold oIsi at h
    split at h
    · cases rx with
      | cons r t =>
        cases t with
        | cons r2 t =>
          cases t; cases r2
          obtain ⟨hn, t, ht, h⟩ := h
          exact ⟨_, _, .type t, .type _, isiB t _, rfl, .ty _, tyD_rel rs r ht, kit_ty (kit_all t (tyD_mem ht) _ hn), k _ st _ H h .refl (.bl _) rs⟩
    · exact h.elim⟩
/-- isinstance(x, (T, ..)) -/
theorem kitAny_ty {K : PySem.W.Frag} {t : String} (ht : t ∈ tyNames) : ∀ {ns : List String}, (∀ n ∈ ns, n ∈ ["int", "str", "bool", "tuple", "list", "dict"]) → PySem.W.kitAny K (.type t) (ns.map Value.type) = some (ns.any (isiB t))
  | [], _ => kitAny_nil
  | n :: ns, h => by
    have h1 := kit_all t ht n (h n (List.mem_cons_self ..))
    have ih := kitAny_ty (K := K) ht (ns := ns) fun m hm => h m (List.mem_cons_of_mem _ hm)
    rw [List.map_cons, List.any_cons]
    refine kitAny_cons (kit_ty h1) (fun e => ?_) (fun e => by rw [e]; rfl)
    rw [e, Bool.false_or]
    exact ih
structure DTys (X : Cx) (es : List Expr) (ns : List String) : Prop where
  pa : PA X es (fun σ H Q => Q (ns.map V.ty) H)
theorem dtys_nil : DTys X [] [] := ⟨pa_nil⟩
theorem dtys_cons {e : Expr} {es : List Expr} {n : String} {ns : List String} (he : PE X e (tC (.ty n))) (hr : DTys X es ns) (hs : starEach (e :: es) X.env = (false, eval e X.env) :: starEach es X.env := by rfl) : DTys X (e :: es) (n :: ns) :=
  ⟨pa_mono (pa_cons he hr.pa hs) fun σ H Q h => h⟩
theorem pe_tyN {x : Str} {n : String} {pos : Pos} (hg : Gl X x) (hm : X.mg x = none) (hv : bootBuiltins x = some (.type n)) (hn : x ≠ "__name__" := by decide) (hd : (x == ("__debug__" : Str)) = false := by decide) : PE X (.Name x pos) (tC (.ty n)) := pe_bltn hg hm hv rfl hn hd
def mIsi (ns : List String) (m : ME) : ME := fun env st Q => m env st fun x st1 => ∃ t, tyD st1 x = some t ∧ Q (.bl (ns.any (isiB t))) st1
theorem paired_tys : ∀ ns : List String, Paired ClsV (ns.map V.ty) (ns.map Value.type)
  | [] => .nil
  | n :: ns => .cons (.ty n) (paired_tys ns)
theorem de_isiT {e : Expr} {es : List Expr} {m : ME} {ns : List String} {p pos tpos : Pos} {k1 : Nat} (hns : ∀ n ∈ ns, n ∈ ["int", "str", "bool", "tuple", "list", "dict"]) (hlen : ns.length ≤ 100) (hg : Gl X "isinstance") (hm : X.mg "isinstance" = none) (he : DE X e m) (hes : DTys X es ns)
    (hs : starEach [e, .Tuple es k1 tpos] X.env = (false, eval e X.env) :: starEach [.Tuple es k1 tpos] X.env := by rfl) (hs2 : starEach [.Tuple es k1 tpos] X.env = (false, eval (.Tuple es k1 tpos) X.env) :: starEach [] X.env := by rfl) (hpl : (backTo pos (starEach [.Tuple es k1 tpos] X.env)).any (·.1) = false := by rfl) :
    DE X (.Call (.Name "isinstance" p) [e, .Tuple es k1 tpos] [] pos) (mIsi ns m) :=
  ⟨pe_mono (pe_callB (call_isiT (X := X)) hg hm boot_isinstance (pa_cons he.pe (pa_cons (pe_tup hes.pa) pa_nil hs2) hs) (by decide) (by decide) hs hpl) fun σ H Q ⟨env, st, Q0, re, rs, h, k⟩ => by
    refine lift_in re rs h fun x st1 x' H1 ⟨t, ht, q⟩ ex rx re1 rs1 => ?_
    refine ⟨by rw [List.length_map]; exact Nat.le_trans hlen (by decide), fun q1 hq => ?_⟩
    have ex2 : Ext H1 (upd H1 q1 (.tup (ns.map V.ty))) := .upd_new hq
    exact ⟨x', q1, ns.map V.ty, .type t, ns.map Value.type, ns.any (isiB t), rfl, upd_same, paired_tys ns, tyD_rel (rs1.new hq) (rx.mono ex2) ht, kitAny_ty (tyD_mem ht) hns, k _ st1 _ _ q (ex.trans ex2) (.bl _) (rs1.new hq)⟩⟩

/-! ### small rules for the printed derivations -/
theorem dv (i : Nat) {x : Str} {pos : Pos} (hN : X.N[i]? = some x := by rfl) (hv : Vis X.env.scope x := by first | exact Or.inl rfl | exact Or.inr (Or.inl rfl) | exact Or.inr (Or.inr rfl)) (hd : (x == ("__debug__" : Str)) = false := by decide)
    (hcd : (x == ("__classdict__" : Str)) = false := by decide) : DE X (.Name x pos) (mVar i) := de_var hN hv hd hcd
theorem de_neg {pos : Pos} {i : Int} {j pos'} : DE X (.UnaryOp .USub (.Constant (.int i) j pos') pos) (mC (.int (-i))) :=
  ⟨pe_mono (pe_un un_neg pe_int) fun σ H Q ⟨env, st, Q0, re, rs, h, k⟩ => ⟨i, rfl, k _ st _ H h .refl (.int _) rs⟩⟩
theorem de_gint {x : Str} {pos : Pos} {i : Int} (hm : ∃ t, X.mg x = some (.int i t)) (hg : Gl X x := by rfl) (hd : (x == ("__debug__" : Str)) = false := by decide) : DE X (.Name x pos) (mC (.int i)) := by
  obtain ⟨t, hm⟩ := hm
  exact de_glob (v := .int i) hg hm ⟨t, rfl⟩ (fun H => .int i) hd
theorem de_gstr {x : Str} {pos : Pos} {z : Str} (hm : ∃ t, X.mg x = some (.str z t)) (hg : Gl X x := by rfl) (hd : (x == ("__debug__" : Str)) = false := by decide) : DE X (.Name x pos) (mC (.str z)) := by
  obtain ⟨t, hm⟩ := hm
  exact de_glob (v := .str z) hg hm ⟨t, rfl⟩ (fun H => .str z) hd
end
/-- a def that may be called: where it stands, what it promises -/
def Cal (P : Program) (w : World) (K : PySem.W.Frag) (mg : Str → Option Value) (base : Heap) (k : Nat) (x : Str) (ps : List Str) (sp : DSp) : Prop :=
  ∃ f fd, mg x = some (.ref f) ∧ PySem.W.keepIn K (.ref f) = true ∧ Binds K fd ps [] ∧ FnOk P w K mg base CX0 k f fd ps (liftSp K sp)
section
variable {X : Cx} {e : Expr} {es : List Expr} {mr : MA} {x : Str} {k j : Nat} {ps : List Str} {sp : DSp} {p pos : Pos}
theorem dcall (C : Cal X.prog X.w X.K X.mg X.base k x ps sp) (hr : Room j X.A) (hj : k ≤ j) (ha : DA X (e :: es) mr) (hg : Gl X x := by rfl) (hdb : (x == ("__debug__" : Str)) = false := by decide) (he : starEach (e :: es) X.env = (false, eval e X.env) :: starEach es X.env := by rfl) (hpl : (backTo pos (starEach es X.env)).any (·.1) = false := by rfl) :
    DE X (.Call (.Name x p) (e :: es) [] pos) (mCall sp mr) := by
  obtain ⟨f, fd, hm, hk, hb, F⟩ := C
  exact de_call F (hr.mono hj) hg hm hk hb ha hdb he hpl
theorem dcall0 (C : Cal X.prog X.w X.K X.mg X.base k x ps sp) (hr : Room j X.A) (hj : k ≤ j) (hg : Gl X x := by rfl) (hdb : (x == ("__debug__" : Str)) = false := by decide) :
    DE X (.Call (.Name x p) [] [] pos) (mCall sp mNil) := by
  obtain ⟨f, fd, hm, hk, hb, F⟩ := C
  exact de_call0 F (hr.mono hj) hg hm hk hb hdb
end
end L2.DL

namespace L2.DL
open PySem PySem.Spec PyProof.Rows

/-! ### calls by keywords alone -/
structure DKw (X : Cx) (kws : List Keyword) (m : MA) : Prop where
  pk : PK X kws (liftA X.K m)
theorem pk_mono {X : Cx} {kws : List Keyword} {t t' : TA} (h : PK X kws t) (k : ∀ σ H Q, t' σ H Q → t σ H Q) : PK X kws t' := ⟨fun pos pins s σ H Q I hw => h.run pos pins s σ H Q I (k _ _ _ hw)⟩
section
variable {X : Cx} {e : Expr} {kws : List Keyword} {ma : ME} {mr : MA} {nm : Option Str} {kpos : Pos}
theorem dk_nil : DKw X [] mNil := ⟨pk_mono pk_nil fun σ H Q ⟨env, st, Q0, re, rs, h, k⟩ => k [] st [] H h .refl .nil rs⟩
theorem dk_cons (ha : DE X e ma) (hr : DKw X kws mr) : DKw X (⟨nm, e, kpos⟩ :: kws) (mCons ma mr) :=
  ⟨pk_mono (pk_cons ha.pe hr.pk) fun σ H Q ⟨env, st, Q0, re, rs, h, k⟩ => by
    refine lift_in re rs h fun x st1 x' H1 q1 e1 rx re1 rs1 => ?_
    refine liftA_in re1 rs1 q1 fun xs st2 xs' H2 q2 e2 rxs re2 rs2 => ?_
    exact k _ st2 _ H2 q2 (e1.trans e2) (.cons (rx.mono e2) rxs) rs2⟩
end
def CalK (P : Program) (w : World) (K : PySem.W.Frag) (mg : Str → Option Value) (base : Heap) (k : Nat) (x : Str) (ps ks : List Str) (idx : List Nat) (sp : DSp) : Prop :=
  ∃ f fd, mg x = some (.ref f) ∧ PySem.W.keepIn K (.ref f) = true ∧ (∀ (s : Shared) (ws : List Value), ws.length = ks.length → BindsTo s fd ⟨[], ks.zip ws⟩ (ps.zip (idx.map fun i => ws.getD i .none))) ∧
    (∀ i ∈ idx, i < ks.length) ∧ idx.length = ps.length ∧ FnOk P w K mg base CX0 k f fd ps (liftSp K sp)
def mCallK (n : Nat) (idx : List Nat) (sp : DSp) (m : MA) : ME := fun env st Q => m env st fun zs st1 => zs.length = n ∧ sp (idx.map fun i => zs.getD i .non) st1 Q
theorem RelDs.pick {K : PySem.W.Frag} {H : Hp} {ds : List D} {vs : List V} (r : RelDs K H ds vs) : ∀ (idx : List Nat), RelDs K H (idx.map fun i => ds.getD i .non) (idx.map fun i => vs.getD i .non)
  | [] => .nil
  | i :: idx => by
    refine .cons ?_ (RelDs.pick r idx)
    show RelD K H (ds.getD i .non) (vs.getD i .non)
    rw [List.getD_eq_getElem?_getD, List.getD_eq_getElem?_getD]
    cases e : ds[i]? with
    | none =>
      have : vs[i]? = none := List.getElem?_eq_none (by rw [← r.length]; exact List.getElem?_eq_none_iff.mp e)
      rw [this]; exact .non
    | some d =>
      obtain ⟨v, h1, h2⟩ := r.get e
      rw [h1]; exact h2
theorem vals_pick {vs : List V} {us : List Value} (r : Vals vs us) : ∀ (idx : List Nat), Vals (idx.map fun i => vs.getD i .non) (idx.map fun i => us.getD i .none)
  | [] => .nil
  | i :: idx => by
    refine .cons ?_ (vals_pick r idx)
    show RelV (vs.getD i .non) (us.getD i .none)
    rw [List.getD_eq_getElem?_getD, List.getD_eq_getElem?_getD]
    cases e : vs[i]? with
    | none =>
      rw [Vals.none_of r e]; rfl
    | some v =>
      obtain ⟨u, h1, h2⟩ := r.get e
      rw [h1]; exact h2
section
variable {X : Cx} {x : Str} {k j n : Nat} {ps ks : List Str} {idx : List Nat} {sp : DSp} {p pos : Pos} {kws : List Keyword} {m : MA}
theorem dcallK (C : CalK X.prog X.w X.K X.mg X.base k x ps ks idx sp) (hr : Room j X.A) (hj : k ≤ j) (hkw : DKw X kws m) (hn : ks.length = n := by rfl) (hg : Gl X x := by rfl) (hdb : (x == ("__debug__" : Str)) = false := by decide)
    (hall : (backToKw pos (keywordEach kws X.env)).all (·.1.isSome) = true := by rfl) (hks : (backToKw pos (keywordEach kws X.env)).filterMap (·.1) = ks := by rfl)
    (hpl : ((backTo pos (starEach [] X.env)).any (·.1) || (backToKw pos (keywordEach kws X.env)).any (·.1.isNone)) = false := by rfl) :
    DE X (.Call (.Name x p) [] kws pos) (mCallK n idx sp m) := by
  obtain ⟨f, fd, hm, hk, hb, hi, hil, F⟩ := C
  refine ⟨⟨fun pins s σ H Q I h => ?_⟩⟩
  refine wpAny_Call_Name_kw (ld_glob I hg hm ?_ hdb)
  obtain ⟨env, st, Q0, re, rs, h, k1⟩ := h
  refine PySem.W.callWith_KW0 (h₀ := X.base) I.ok.mod.kin hk hall ?_ hpl
  have hw : liftA X.K m σ H fun zs H2 => ∃ ds st', RelDs X.K H2 ds zs ∧ RelSto X.K H2 st' ∧ Ext H H2 ∧ ds.length = n ∧ sp (idx.map fun i => ds.getD i .non) st' Q0 :=
    ⟨env, st, _, re, rs, h, fun ds st' zs H2 q e r s => ⟨ds, st', r, s, e, q.1, q.2⟩⟩
  refine thn (hkw.pk.run pos pins s σ H _ I hw) fun ws s2 ⟨zs, H2, I2, rz, ds, st', rd, rs', ex, hl, hsp⟩ => ⟨I2.kIn, ?_⟩
  rw [hks]
  show wpAny _ _ (call (.ref f) ([] ++ []) (ks.zip ws)) _ _ _
  have hzl : zs.length = n := by rw [← rd.length]; exact hl
  have hwl : ws.length = ks.length := by rw [← rz.length, hzl, hn]
  refine wpAny_call (codeAny_mono (F.run X.A X.stack s2 H2 ⟨[], ks.zip ws⟩ _ _ Q E0 (hr.mono hj) I2.env0 (hb s2 ws hwl) (vals_pick rz idx) ⟨_, st', Q0, rd.pick idx, rs', hsp, fun d st2 v H3 q e r s => k1 d st2 v H3 q (ex.trans e) r s⟩) fun r s' hq => ?_)
  cases r with
  | error e => exact hq.elim
  | ok fl =>
    cases fl with
    | ret u => exact I2.after hq
    | next => exact False.elim hq
    | brk => exact False.elim hq
    | cont => exact False.elim hq
end
theorem bindsK {K : PySem.W.Frag} {x qual : Str} {params : Arguments} {body : List Stmt} {scope : Scope} {kws : List (Str × V)} {f : Addr} {fd : FuncData} {ps ks : List Str} {idx : List Nat} (F : FunD K x qual params body scope [] kws f fd)
    (h : ∀ (kV doc pm : Value) (an : Option Addr) (cdv ct : Value) (ws : List Value), ws.length = ks.length → bindArgs (PySem.W.fnOf x qual params body scope .none kV doc pm an cdv ct) ⟨[], ks.zip ws⟩ = pure (ps.zip (idx.map fun i => ws.getD i .none))) (s : Shared) (ws : List Value) (hl : ws.length = ks.length) : BindsTo s fd ⟨[], ks.zip ws⟩ (ps.zip (idx.map fun i => ws.getD i .none)) := by
  obtain ⟨oc, od, dV, kV, doc, pm, an, cdv, ct, osl, rfl, lk, hcd, hD, hK⟩ := F.ex
  rcases hD with ⟨_, rfl⟩ | ⟨e, _⟩
  · exact .of_eq (h kV doc pm an cdv ct ws hl)
  · exact absurd rfl e
end L2.DL
namespace L2.DL
open PySem PySem.Spec PyProof.Rows
/-- the law's def, called with the script -/
theorem law_in {K : PySem.W.Frag} {H : Hp} {a : Addr} {ns : List Int} {sp : DSp} (hl : ns.length ≤ 63) (hS : SqL K H a (ns.map V.int))
    (spec : ∀ a (ns : List Int), ns.length ≤ 63 → sp [.ref a] (put (fun _ => none) a (.rol (ns.map D.int))) (fun d _ => d = .bl true)) : liftSp K sp [.ref a] H (fun v _ => v = .bl true) fun _ _ _ => False := by
  refine ⟨[.ref a], _, _, .cons (.ref a) .nil, fun b o hb => ?_, spec a ns hl, fun d st' v H' e _ r _ => ?_⟩
  · by_cases q : b = a
    · subst q
      rw [put_same] at hb
      cases hb
      exact ⟨_, hS, .of_ints ns⟩
    · rw [put_ne q] at hb; cases hb
  · subst e
    exact r.bl_of
end L2.DL

namespace L2.DL
open PySem PySem.Spec PyProof.Rows

/-! ### readings step by step (no program in sight from here on) -/
section
variable {env : Env} {st : Sto} {Q : DK} {D0 : DEnds}
theorem sSeq_a {t u : MS} : sSeq t u D0 env st = t { nx := u D0, rt := D0.rt, bk := D0.bk, ct := D0.ct } env st := rfl
theorem sNext_a : sNext D0 env st = D0.nx env st := rfl
theorem sBreak_a : sBreak D0 env st = D0.bk env st := rfl
theorem sCont_a : sCont D0 env st = D0.ct env st := rfl
theorem sDrop_a {m : ME} : sDrop m D0 env st = m env st fun _ st1 => D0.nx env st1 := rfl
theorem sRet_a {m : ME} : sRet m D0 env st = m env st D0.rt := rfl
theorem sRetN_a : sRetN D0 env st = D0.rt .non st := rfl
theorem sIf_a {c : MT} {t u : MS} : sIf c t u D0 env st = c env st fun b st1 => if b = true then t D0 env st1 else u D0 env st1 := rfl
theorem sAsg_a {m : ME} {g : MG} : sAsg m g D0 env st = m env st fun d st1 => g d env st1 D0.nx := rfl
theorem sAug_a {i : Nat} {m : ME} {r : M2} {x : D} (h : env[i]? = some (some x)) : sAug i m r D0 env st = m env st fun y st1 => r x y st1 fun z st2 => D0.nx (env.set i (some z)) st2 := by
  unfold sAug
  rw [h]
  simp
theorem ex_pair {α : Type} {x y : α} {P : α → α → Prop} : (∃ v w, [x, y] = [v, w] ∧ P v w) = P x y := by
  apply propext
  constructor
  · rintro ⟨v, w, e, h⟩; cases e; exact h
  · exact fun h => ⟨x, y, rfl, h⟩
theorem ex_three {α : Type} {x y z : α} {P : α → α → α → Prop} : (∃ u v w, [x, y, z] = [u, v, w] ∧ P u v w) = P x y z := by
  apply propext
  constructor
  · rintro ⟨u, v, w, e, h⟩; cases e; exact h
  · exact fun h => ⟨x, y, z, rfl, h⟩
theorem sPar_a {i j : Nat} {a b : ME} : sPar i j (mCons a (mCons b mNil)) D0 env st = a env st fun x st1 => b env st1 fun y st2 => D0.nx ((env.set i (some x)).set j (some y)) st2 := by
  unfold sPar mCons mNil
  simp only [ex_pair]
theorem sPar3_a {i j l : Nat} {a b c : ME} : sPar3 i j l (mCons a (mCons b (mCons c mNil))) D0 env st = a env st fun x st1 => b env st1 fun y st2 => c env st2 fun z st3 => D0.nx (((env.set i (some x)).set j (some y)).set l (some z)) st3 := by
  unfold sPar3 mCons mNil
  simp only [ex_three]
/-- a slot's value -/
def vAt : Option (Option D) → Sto → DK → Prop
  | some (some d), st, Q => Q d st
  | _, _, _ => False
theorem mVar_a {i : Nat} : mVar i env st Q = vAt env[i]? st Q := by
  unfold mVar
  cases e : env[i]? with
  | none => simp [vAt]
  | some o => cases o <;> simp [vAt]
theorem vAt_a {d : D} : vAt (some (some d)) st Q = Q d st := rfl
theorem mC_a {d : D} : mC d env st Q = Q d st := rfl
theorem mBin_a {r : M2} {a b : ME} : mBin r a b env st Q = a env st fun x st1 => b env st1 fun y st2 => r x y st2 Q := rfl
def bAt : D → Sto → (Bool → Sto → Prop) → Prop
  | .bl k, st, Q => Q k st
  | _, _, _ => False
theorem mTest_a {m : ME} {Q : Bool → Sto → Prop} : mTest m env st Q = m env st fun x st1 => bAt x st1 Q := by
  have e : (fun x st1 => ∃ k, x = D.bl k ∧ Q k st1) = fun x st1 => bAt x st1 Q := by
    funext x st1
    cases x <;> simp [bAt]
  unfold mTest
  rw [e]
theorem bAt_a {k : Bool} {Q : Bool → Sto → Prop} : bAt (.bl k) st Q = Q k st := rfl
theorem mAnd_a {t u : MT} {Q : Bool → Sto → Prop} : mAnd t u env st Q = t env st fun c st1 => if c = true then u env st1 Q else Q false st1 := rfl
theorem mOr_a {t u : MT} {Q : Bool → Sto → Prop} : mOr t u env st Q = t env st fun c st1 => if c = true then Q true st1 else u env st1 Q := rfl
theorem mNot_a {t : MT} {Q : Bool → Sto → Prop} : mNot t env st Q = t env st fun c st1 => Q (!c) st1 := rfl
theorem mYes_a {Q : Bool → Sto → Prop} : mYes env st Q = Q true st := rfl
theorem mAndV_a {a b : ME} : mAndV a b env st Q = a env st fun x st1 => bAt x st1 fun c st2 => if c = true then b env st2 Q else Q (.bl false) st2 := by
  have e : (fun x st1 => ∃ c, x = D.bl c ∧ if c = true then b env st1 Q else Q (.bl false) st1) = fun x st1 => bAt x st1 fun c st2 => if c = true then b env st2 Q else Q (.bl false) st2 := by
    funext x st1
    cases x <;> simp [bAt]
  unfold mAndV
  rw [e]
theorem mOrV_a {a b : ME} : mOrV a b env st Q = a env st fun x st1 => bAt x st1 fun c st2 => if c = true then Q (.bl true) st2 else b env st2 Q := by
  have e : (fun x st1 => ∃ c, x = D.bl c ∧ if c = true then Q (.bl true) st1 else b env st1 Q) = fun x st1 => bAt x st1 fun c st2 => if c = true then Q (.bl true) st2 else b env st2 Q := by
    funext x st1
    cases x <;> simp [bAt]
  unfold mOrV
  rw [e]
theorem mNotV_a {a : ME} : mNotV a env st Q = a env st fun x st1 => bAt x st1 fun c st2 => Q (.bl (!c)) st2 := by
  have e : (fun x st1 => ∃ c, x = D.bl c ∧ Q (.bl (!c)) st1) = fun x st1 => bAt x st1 fun c st2 => Q (.bl (!c)) st2 := by
    funext x st1
    cases x <;> simp [bAt]
  unfold mNotV
  rw [e]
theorem mIf_a {t : MT} {a b : ME} : mIf t a b env st Q = t env st fun c st1 => if c = true then a env st1 Q else b env st1 Q := rfl
theorem mNil_a {Q : List D → Sto → Prop} : mNil env st Q = Q [] st := rfl
theorem mCons_a {a : ME} {r : MA} {Q : List D → Sto → Prop} : mCons a r env st Q = a env st fun x st1 => r env st1 fun xs st2 => Q (x :: xs) st2 := rfl
theorem mTup_a {m : MA} : mTup m env st Q = m env st fun xs st1 => xs.length ≤ sizeLine ∧ Q (.tup xs) st1 := rfl
theorem mLst_a {m : MA} : mLst m env st Q = m env st fun xs st1 => xs.length ≤ sizeLine ∧ ∀ p, Nf st1 p → Q (.ref p) (put st1 p (.lst xs)) := rfl
theorem mCall_a {r : MC} {m : MA} : mCall r m env st Q = m env st fun xs st1 => r xs st1 Q := rfl
theorem mCallK_a {n : Nat} {idx : List Nat} {sp : DSp} {m : MA} : mCallK n idx sp m env st Q = m env st fun zs st1 => zs.length = n ∧ sp (idx.map fun i => zs.getD i .non) st1 Q := rfl
theorem mMeth_a {ty : D → Sto → Prop} {r : MM} {mo : ME} {ma : MA} : mMeth ty r mo ma env st Q = mo env st fun x st1 => ty x st1 ∧ ma env st1 fun xs st2 => r x xs st2 Q := rfl
theorem mSl_a {m : ME} {ml mh : MO} : mSl m ml mh env st Q = m env st fun x st1 => ml env st1 fun lo st2 => mh env st2 fun hi st3 => oSl x lo hi st3 Q := rfl
theorem mNoPart_a {Q : Option Int → Sto → Prop} : mNoPart env st Q = Q none st := rfl
def iAt : D → Sto → (Int → Sto → Prop) → Prop
  | .int k, st, Q => Q k st
  | _, _, _ => False
theorem iAt_a {k : Int} {Q : Int → Sto → Prop} : iAt (.int k) st Q = Q k st := rfl
theorem mPart_a {m : ME} {Q : Option Int → Sto → Prop} : mPart m env st Q = m env st fun x st1 => iAt x st1 fun i st2 => Q (some i) st2 := by
  have e : (fun x st1 => ∃ i, x = D.int i ∧ Q (some i) st1) = fun x st1 => iAt x st1 fun i st2 => Q (some i) st2 := by
    funext x st1
    cases x <;> simp [iAt]
  unfold mPart
  rw [e]
theorem mIsi_a {ns : List String} {m : ME} : mIsi ns m env st Q = m env st fun x st1 => ∃ t, tyD st1 x = some t ∧ Q (.bl (ns.any (isiB t))) st1 := rfl
theorem gN_a {i : Nat} {d : D} {Q : Env → Sto → Prop} : gN i d env st Q = Q (env.set i (some d)) st := rfl
theorem gTup_a {n : Nat} {gs : MGs} {ds : List D} {Q : Env → Sto → Prop} : gTup n gs (.tup ds) env st Q = (ds.length = n ∧ gs ds env st Q) := by
  apply propext
  constructor
  · rintro ⟨es, e, h⟩; cases e; exact h
  · exact fun h => ⟨ds, rfl, h⟩
theorem gCons_a {g : MG} {gs : MGs} {d : D} {ds : List D} {Q : Env → Sto → Prop} : gCons g gs (d :: ds) env st Q = g d env st fun env' st' => gs ds env' st' Q := by
  apply propext
  constructor
  · rintro ⟨e, r, h, q⟩; cases h; exact q
  · exact fun h => ⟨d, ds, rfl, h⟩
theorem gNil_a {Q : Env → Sto → Prop} : gNil [] env st Q = Q env st := by
  apply propext
  exact ⟨fun h => h.2, fun h => ⟨rfl, h⟩⟩
theorem gSub_a {mo mi : ME} {r : M3} {d : D} {Q : Env → Sto → Prop} : gSub mo mi r d env st Q = mo env st fun o st1 => mi env st1 fun i st2 => r o i d st2 fun st3 => Q env st3 := rfl
theorem endsOf_rt {d : D} : (endsOf Q).rt d st = ∃ st2, Sub st2 st ∧ Q d st2 := rfl
theorem endsOf_nx : (endsOf Q).nx env st = ∃ st2, Sub st2 st ∧ Q .non st2 := rfl
end
/-! values compared -/
theorem beq_dec_int (i j : Int) : (i == j) = decide (i = j) := by
  by_cases e : i = j
  · simp [e]
  · simp [e]
theorem beq_dec_str (i j : Str) : (i == j) = decide (i = j) := by
  by_cases e : i = j
  · simp [e]
  · simp [e]
theorem oEq_int {i j : Int} {st : Sto} {Q : DK} : oEq (.int i) (.int j) st Q = Q (.bl (decide (i = j))) st := by
  apply propext
  constructor
  · rintro (⟨b, e, h⟩ | ⟨p, q, e1, e2, _, _, h⟩)
    · cases e; exact h
    · simp only [pyOf, toPy, Option.some.injEq] at e1 e2
      subst e1 e2
      simpa only [PyData.eqv, beq_dec_int] using h
  · exact fun h => .inl ⟨_, rfl, h⟩
theorem oNe_int {i j : Int} {st : Sto} {Q : DK} : oNe (.int i) (.int j) st Q = Q (.bl (!decide (i = j))) st := by
  apply propext
  constructor
  · rintro (⟨b, e, h⟩ | ⟨p, q, e1, e2, _, _, h⟩)
    · cases e; exact h
    · simp only [pyOf, toPy, Option.some.injEq] at e1 e2
      subst e1 e2
      simpa only [PyData.eqv, beq_dec_int] using h
  · exact fun h => .inl ⟨_, rfl, h⟩
theorem oEq_str {i j : Str} {st : Sto} {Q : DK} : oEq (.str i) (.str j) st Q = Q (.bl (decide (i = j))) st := by
  apply propext
  constructor
  · rintro (⟨b, e, h⟩ | ⟨p, q, e1, e2, _, _, h⟩)
    · cases e; exact h
    · simp only [pyOf, toPy, Option.some.injEq] at e1 e2
      subst e1 e2
      simpa only [PyData.eqv, beq_dec_str] using h
  · exact fun h => .inl ⟨_, rfl, h⟩
theorem oNe_str {i j : Str} {st : Sto} {Q : DK} : oNe (.str i) (.str j) st Q = Q (.bl (!decide (i = j))) st := by
  apply propext
  constructor
  · rintro (⟨b, e, h⟩ | ⟨p, q, e1, e2, _, _, h⟩)
    · cases e; exact h
    · simp only [pyOf, toPy, Option.some.injEq] at e1 e2
      subst e1 e2
      simpa only [PyData.eqv, beq_dec_str] using h
  · exact fun h => .inl ⟨_, rfl, h⟩
theorem Nf.ne {st : Sto} {p a : Addr} {xs : List D} (h : Nf st p) (e : st a = some (.lst xs)) : p ≠ a := by
  rintro rfl
  rcases h with h | ⟨_, h⟩ <;> rw [e] at h <;> cases h
theorem Nf.neD {st : Sto} {p a : Addr} {xs : List (Key × D)} (h : Nf st p) (e : st a = some (.dic xs)) : p ≠ a := by
  rintro rfl
  rcases h with h | ⟨_, h⟩ <;> rw [e] at h <;> cases h
theorem rdL_lst {xs : List D} : rdL (some (.lst xs)) = some xs := rfl
theorem rdL_rol {xs : List D} : rdL (some (.rol xs)) = some xs := rfl
end L2.DL

namespace L2.DL
open PySem PySem.Spec PyProof.Rows

/-! ### operations, case by case -/
theorem szL : sizeLine = 16777216 := rfl

section
variable {st : Sto} {Q : DK}
theorem oAdd_int {i j : Int} : oAdd (.int i) (.int j) st Q = Q (.int (i + j)) st := rfl
theorem oAdd_str {i j : Str} : oAdd (.str i) (.str j) st Q = (i.length + j.length ≤ sizeLine ∧ Q (.str (i ++ j)) st) := rfl
theorem oAdd_tup {a b : List D} : oAdd (.tup a) (.tup b) st Q = (a.length + b.length ≤ sizeLine ∧ Q (.tup (a ++ b)) st) := rfl
theorem oAdd_lst {a b : Addr} {xs ys : List D} (h1 : st a = some (.lst xs)) (h2 : st b = some (.lst ys)) (hl : xs.length + ys.length ≤ sizeLine) (k : ∀ p, Nf st p → Q (.ref p) (put st p (.lst (xs ++ ys)))) : oAdd (.ref a) (.ref b) st Q := ⟨xs, ys, h1, h2, hl, k⟩
theorem oSub_int {i j : Int} : oSub (.int i) (.int j) st Q = Q (.int (i - j)) st := rfl
theorem oMul_int {i j : Int} : oMul (.int i) (.int j) st Q = (CMulW i j ∧ Q (.int (i * j)) st) := rfl
theorem oDiv_int {i j : Int} : oDiv (.int i) (.int j) st Q = (CDivW i j ∧ Q (.int (i / j)) st) := rfl
theorem oMod_int {i j : Int} : oMod (.int i) (.int j) st Q = (0 < j ∧ Q (.int (i % j)) st) := rfl
theorem oPow_int {i j : Int} : oPow (.int i) (.int j) st Q = (CPow i j ∧ Q (.int (i ^ j.toNat)) st) := rfl
theorem oLt_int {i j : Int} : oLt (.int i) (.int j) st Q = Q (.bl (decide (i < j))) st := rfl
theorem oLe_int {i j : Int} : oLe (.int i) (.int j) st Q = Q (.bl (decide (i ≤ j))) st := rfl
theorem oGt_int {i j : Int} : oGt (.int i) (.int j) st Q = Q (.bl (decide (j < i))) st := rfl
theorem oGe_int {i j : Int} : oGe (.int i) (.int j) st Q = Q (.bl (decide (j ≤ i))) st := rfl
theorem oIs_nn : oIs .non .non st Q = Q (.bl true) st := rfl
theorem oIs_bn {b : Bool} : oIs (.bl b) .non st Q = Q (.bl false) st := rfl
theorem oIs_in {b : Int} : oIs (.int b) .non st Q = Q (.bl false) st := rfl
theorem oIs_sn {b : Str} : oIs (.str b) .non st Q = Q (.bl false) st := rfl
theorem oIs_tn {b : List D} : oIs (.tup b) .non st Q = Q (.bl false) st := rfl
theorem oIs_rn {b : Addr} : oIs (.ref b) .non st Q = Q (.bl false) st := rfl
theorem oIs_nb {b : Bool} : oIs .non (.bl b) st Q = Q (.bl false) st := rfl
theorem oIs_ib {b : Bool} {i : Int} : oIs (.int i) (.bl b) st Q = Q (.bl false) st := rfl
theorem oIs_sb {b : Bool} {i : Str} : oIs (.str i) (.bl b) st Q = Q (.bl false) st := rfl
theorem oIs_tb {b : Bool} {i : List D} : oIs (.tup i) (.bl b) st Q = Q (.bl false) st := rfl
theorem oIs_rb {b : Bool} {i : Addr} : oIs (.ref i) (.bl b) st Q = Q (.bl false) st := rfl
theorem oIs_bb {a b : Bool} : oIs (.bl a) (.bl b) st Q = Q (.bl (decide (a = b))) st := rfl
theorem oIx_tup {xs : List D} {i : Int} : oIx (.tup xs) (.int i) st Q = ∃ v, atI xs i = some v ∧ Q v st := rfl
theorem oIx_t {xs : List D} {i : Int} {v : D} (e : atI xs i = some v) (q : Q v st) : oIx (.tup xs) (.int i) st Q := ⟨v, e, q⟩
theorem oIx_s {z : Str} {i : Int} {c : Nat} (hz : z.length ≤ sizeLine) (e : atI z.cps.toList i = some c) (q : Q (.str ⟨#[c]⟩) st) : oIx (.str z) (.int i) st Q := ⟨hz, c, e, q⟩
theorem oIx_l {a : Addr} {xs : List D} {i : Int} {v : D} (h : rdL (st a) = some xs) (e : atI xs i = some v) (q : Q v st) : oIx (.ref a) (.int i) st Q := .inl ⟨xs, i, v, h, rfl, e, q⟩
theorem oIx_d {a : Addr} {kvs : List (Key × D)} {y v : D} {k : Key} (h : rdD (st a) = some kvs) (ek : keyD y = some k) (e : valD kvs k = some v) (q : Q v st) : oIx (.ref a) y st Q := .inr ⟨kvs, k, v, h, ek, e, q⟩
theorem oSl_tup {xs : List D} {lo hi : Option Int} : oSl (.tup xs) lo hi st Q = Q (.tup (cutL xs lo hi)) st := rfl
theorem oSl_str {z : Str} {lo hi : Option Int} : oSl (.str z) lo hi st Q = (z.length ≤ sizeLine ∧ Q (.str (cutS z lo hi)) st) := rfl
theorem oSl_l {a : Addr} {xs : List D} {lo hi : Option Int} (h : rdL (st a) = some xs) (k : ∀ p, Nf st p → Q (.ref p) (put st p (.lst (cutL xs lo hi)))) : oSl (.ref a) lo hi st Q := ⟨xs, h, k⟩
theorem oAppend_l {a : Addr} {xs : List D} {y : D} (h : st a = some (.lst xs)) (hl : xs.length < sizeLine) (q : Q .non (put st a (.lst (xs ++ [y])))) : oAppend (.ref a) [y] st Q := ⟨xs, h, hl, q⟩
theorem oPop_l {a : Addr} {xs : List D} {y : D} (h : st a = some (.lst xs)) (hl : xs.getLast? = some y) (q : Q y (put st a (.lst xs.dropLast))) : oPop (.ref a) [] st Q := ⟨xs, y, h, hl, q⟩
theorem oExtend_l {a b : Addr} {xs ys : List D} (h : st a = some (.lst xs)) (h2 : st b = some (.lst ys)) (hl : xs.length + ys.length ≤ sizeLine) (q : Q .non (put st a (.lst (xs ++ ys)))) : oExtend (.ref a) [.ref b] st Q := ⟨xs, ys, h, h2, hl, q⟩
theorem oExtend_t {a : Addr} {xs ys : List D} (h : st a = some (.lst xs)) (hl : xs.length + ys.length ≤ sizeLine) (q : Q .non (put st a (.lst (xs ++ ys)))) : oExtend (.ref a) [.tup ys] st Q := ⟨xs, h, hl, q⟩
theorem oLen_tup {xs : List D} : oLen [.tup xs] st Q = Q (.int xs.length) st := rfl
theorem oLen_str {z : Str} : oLen [.str z] st Q = (z.length ≤ sizeLine ∧ Q (.int z.length) st) := rfl
theorem oLen_l {a : Addr} {xs : List D} (h : rdL (st a) = some xs) (q : Q (.int xs.length) st) : oLen [.ref a] st Q := .inl ⟨xs, h, q⟩
theorem oLen_d {a : Addr} {kvs : List (Key × D)} (h : st a = some (.dic kvs)) (q : Q (.int kvs.length) st) : oLen [.ref a] st Q := .inr ⟨kvs, h, q⟩
theorem oAbs_int {i : Int} : oAbs [.int i] st Q = Q (.int (if i < 0 then -i else i)) st := rfl
theorem oInt_int {i : Int} : oInt [.int i] st Q = Q (.int i) st := rfl
theorem oInt_bl {b : Bool} : oInt [.bl b] st Q = Q (.int (if b then 1 else 0)) st := rfl
theorem oMax_int {i j : Int} : oMax [.int i, .int j] st Q = Q (.int (if j > i then j else i)) st := rfl
theorem oMin_int {i j : Int} : oMin [.int i, .int j] st Q = Q (.int (if j < i then j else i)) st := rfl
theorem oTuple_tup {xs : List D} : oTuple [.tup xs] st Q = Q (.tup xs) st := rfl
theorem oTuple_l {a : Addr} {xs : List D} (h : rdL (st a) = some xs) (q : Q (.tup xs) st) : oTuple [.ref a] st Q := ⟨xs, h, q⟩
theorem oList_tup {xs : List D} : oList [.tup xs] st Q = ∀ p, Nf st p → Q (.ref p) (put st p (.lst xs)) := rfl
theorem oList_str {z : Str} : oList [.str z] st Q = (z.length ≤ sizeLine ∧ ∀ p, Nf st p → Q (.ref p) (put st p (.lst (signsD z)))) := rfl
theorem oList_l {a : Addr} {xs : List D} (h : rdL (st a) = some xs) (k : ∀ p, Nf st p → Q (.ref p) (put st p (.lst xs))) : oList [.ref a] st Q := ⟨xs, h, k⟩
theorem oSet_l {a : Addr} {xs : List D} {i : Int} {j : Nat} {v : D} {Q : Sto → Prop} (h : st a = some (.lst xs)) (e : ixN xs.length i = some j) (q : Q (put st a (.lst (xs.set j v)))) : oSet (.ref a) (.int i) v st Q := .inl ⟨xs, i, j, h, rfl, e, q⟩
theorem oSet_d {a : Addr} {kvs : List (Key × D)} {k : Key} {y v : D} {Q : Sto → Prop} (h : st a = some (.dic kvs)) (e : keyD y = some k) (hl : kvs.length < sizeLine) (q : Q (put st a (.dic (putD kvs k v)))) : oSet (.ref a) y v st Q := .inr ⟨kvs, k, h, e, hl, q⟩
theorem oIn_l {a : Addr} {xs : List D} {x : D} (h : rdL (st a) = some xs) (f1 : flatD x = true) (f2 : xs.all flatD = true) (q : Q (.bl (inF x xs)) st) : oIn x (.ref a) st Q := by
  cases x <;> exact .inl ⟨xs, h, f1, f2, q⟩
theorem oIn_d {a : Addr} {kvs : List (Key × D)} {k : Key} {x : D} (h : rdD (st a) = some kvs) (e : keyD x = some k) (q : Q (.bl (valD kvs k).isSome) st) : oIn x (.ref a) st Q := by
  cases x <;> exact .inr ⟨kvs, k, h, e, q⟩
theorem oIn_t {xs : List D} {x : D} (f1 : flatD x = true) (f2 : xs.all flatD = true) (q : Q (.bl (inF x xs)) st) : oIn x (.tup xs) st Q := by
  cases x <;> exact ⟨f1, f2, q⟩
theorem oNotIn_l {a : Addr} {xs : List D} {x : D} (h : rdL (st a) = some xs) (f1 : flatD x = true) (f2 : xs.all flatD = true) (q : Q (.bl (!inF x xs)) st) : oNotIn x (.ref a) st Q := oIn_l h f1 f2 ⟨_, rfl, q⟩
theorem oNotIn_d {a : Addr} {kvs : List (Key × D)} {k : Key} {x : D} (h : rdD (st a) = some kvs) (e : keyD x = some k) (q : Q (.bl (!(valD kvs k).isSome)) st) : oNotIn x (.ref a) st Q := oIn_d h e ⟨_, rfl, q⟩
/-- isinstance, where the kind is known -/
def tyO : Option String → String → Sto → DK → Prop
  | some t, n, st, Q => Q (.bl (isiB t n)) st
  | none, _, _, _ => False
theorem oIsi_t {x : D} {n : String} (hn : n ∈ ["int", "str", "bool", "tuple", "list", "dict"]) : oIsi [x, .ty n] st Q = tyO (tyD st x) n st Q := by
  apply propext
  constructor
  · rintro ⟨_, t, e, q⟩; rw [e]; exact q
  · intro h
    cases e : tyD st x with
    | none => rw [e] at h; exact h.elim
    | some t => rw [e] at h; exact ⟨hn, t, e, h⟩
theorem oIsi_int {x : D} : oIsi [x, .ty "int"] st Q = tyO (tyD st x) "int" st Q := oIsi_t (by decide)
theorem oIsi_str {x : D} : oIsi [x, .ty "str"] st Q = tyO (tyD st x) "str" st Q := oIsi_t (by decide)
theorem oIsi_bool {x : D} : oIsi [x, .ty "bool"] st Q = tyO (tyD st x) "bool" st Q := oIsi_t (by decide)
theorem oIsi_tuple {x : D} : oIsi [x, .ty "tuple"] st Q = tyO (tyD st x) "tuple" st Q := oIsi_t (by decide)
theorem oIsi_list {x : D} : oIsi [x, .ty "list"] st Q = tyO (tyD st x) "list" st Q := oIsi_t (by decide)
theorem oIsi_dict {x : D} : oIsi [x, .ty "dict"] st Q = tyO (tyD st x) "dict" st Q := oIsi_t (by decide)
theorem tyO_some {t n : String} : tyO (some t) n st Q = Q (.bl (isiB t n)) st := rfl
theorem tyD_non : tyD st .non = some "NoneType" := rfl
theorem tyD_bl {b : Bool} : tyD st (.bl b) = some "bool" := rfl
theorem tyD_int {b : Int} : tyD st (.int b) = some "int" := rfl
theorem tyD_str {b : Str} : tyD st (.str b) = some "str" := rfl
theorem tyD_tup {b : List D} : tyD st (.tup b) = some "tuple" := rfl
theorem isi_facts : isiB "NoneType" "str" = false ∧ isiB "NoneType" "int" = false ∧ isiB "NoneType" "bool" = false ∧ isiB "NoneType" "tuple" = false ∧ isiB "NoneType" "list" = false ∧ isiB "NoneType" "dict" = false ∧
    isiB "bool" "str" = false ∧ isiB "bool" "int" = true ∧ isiB "bool" "bool" = true ∧ isiB "bool" "tuple" = false ∧ isiB "bool" "list" = false ∧ isiB "bool" "dict" = false ∧
    isiB "int" "str" = false ∧ isiB "int" "int" = true ∧ isiB "int" "bool" = false ∧ isiB "int" "tuple" = false ∧ isiB "int" "list" = false ∧ isiB "int" "dict" = false ∧
    isiB "str" "str" = true ∧ isiB "str" "int" = false ∧ isiB "str" "bool" = false ∧ isiB "str" "tuple" = false ∧ isiB "str" "list" = false ∧ isiB "str" "dict" = false ∧
    isiB "tuple" "str" = false ∧ isiB "tuple" "int" = false ∧ isiB "tuple" "bool" = false ∧ isiB "tuple" "tuple" = true ∧ isiB "tuple" "list" = false ∧ isiB "tuple" "dict" = false := by decide
def tysO : Option String → List String → Sto → DK → Prop
  | some t, ns, st, Q => Q (.bl (ns.any (isiB t))) st
  | none, _, _, _ => False
theorem tysO_some {t : String} {ns : List String} : tysO (some t) ns st Q = Q (.bl (ns.any (isiB t))) st := rfl
theorem mIsi_b {ns : List String} {m : ME} {env : Env} : mIsi ns m env st Q = m env st fun x st1 => tysO (tyD st1 x) ns st1 Q := by
  have e : (fun (x : D) (st1 : Sto) => ∃ t, tyD st1 x = some t ∧ Q (.bl (ns.any (isiB t))) st1) = fun x st1 => tysO (tyD st1 x) ns st1 Q := by
    funext x st1
    cases h : tyD st1 x with
    | none => simp [tysO]
    | some t => simp [tysO]
  unfold mIsi
  rw [e]
theorem oIsi_a {x : D} {n t : String} (h : tyD st x = some t) (hn : n ∈ ["int", "str", "bool", "tuple", "list", "dict"]) (q : Q (.bl (isiB t n)) st) : oIsi [x, .ty n] st Q := ⟨hn, t, h, q⟩
theorem oJoin_l {a : Addr} {s : Str} {ys : List Str} (h : rdL (st a) = some (ys.map D.str)) (hl : (ys.map (·.length)).sum + ys.length * s.length ≤ 16777216) (q : Q (.str (Txt.join s ys)) st) : oJoin (.str s) [.ref a] st Q := ⟨_, ys, h, texts_map ys, hl, q⟩
theorem endsOf_i {d : D} (q : Q d st) : (endsOf Q).rt d st := ⟨st, .refl, q⟩
theorem endsOf_n {env : Env} (q : Q .non st) : (endsOf Q).nx env st := ⟨st, .refl, q⟩
theorem wSeq_tup {xs : List D} {m : ME} {env : Env} {R : List D → (Sto → Prop) → Sto → Prop} (h : m env st fun x st1 => ∃ xs, x = .tup xs ∧ R xs (fun _ => True) st1) (mono : ∀ P P' : DK, (∀ d s, P d s → P' d s) → m env st P → m env st P') : wSeq m env st R :=
  mono _ _ (fun d s ⟨xs, e, r⟩ => by subst e; exact r) h
end

/-! operations that read an address: by what stands there -/
def vO : Option D → Sto → DK → Prop
  | some v, st, Q => Q v st
  | none, _, _ => False
theorem vO_some {v : D} {st : Sto} {Q : DK} : vO (some v) st Q = Q v st := rfl
theorem vO_eq {o : Option D} {st : Sto} {Q : DK} : (∃ v, o = some v ∧ Q v st) = vO o st Q := by
  apply propext
  cases o with
  | none => exact ⟨fun ⟨_, h, _⟩ => (by cases h), fun h => h.elim⟩
  | some v => exact ⟨fun ⟨_, h, q⟩ => (by cases h; exact q), fun h => ⟨v, rfl, h⟩⟩
theorem oIx_tupE {xs : List D} {i : Int} {st : Sto} {Q : DK} : oIx (.tup xs) (.int i) st Q = vO (atI xs i) st Q := vO_eq
def ixO : Option Ob → D → Sto → DK → Prop
  | some (.lst xs), .int i, st, Q => vO (atI xs i) st Q
  | some (.rol xs), .int i, st, Q => vO (atI xs i) st Q
  | some (.dic kvs), y, st, Q => vO ((keyD y).bind (valD kvs)) st Q
  | some (.rod kvs), y, st, Q => vO ((keyD y).bind (valD kvs)) st Q
  | _, _, _, _ => False
theorem oIx_ref {a : Addr} {y : D} {st : Sto} {Q : DK} : oIx (.ref a) y st Q = ixO (st a) y st Q := by
  have key : ∀ kvs : List (Key × D), vO ((keyD y).bind (valD kvs)) st Q = ∃ k v, keyD y = some k ∧ valD kvs k = some v ∧ Q v st := fun kvs => by
    rw [← vO_eq]
    apply propext
    constructor
    · rintro ⟨v, e, q⟩
      obtain ⟨k, e1, e2⟩ := Option.bind_eq_some_iff.mp e
      exact ⟨k, v, e1, e2, q⟩
    · rintro ⟨k, v, e1, e2, q⟩
      exact ⟨v, Option.bind_eq_some_iff.mpr ⟨k, e1, e2⟩, q⟩
  have lst : ∀ xs : List D, (∃ i v, y = .int i ∧ atI xs i = some v ∧ Q v st) = match y with | .int i => vO (atI xs i) st Q | _ => False := fun xs => by
    apply propext
    constructor
    · rintro ⟨i, v, rfl, e, q⟩
      show vO _ _ _
      rw [e]; exact q
    · intro h
      cases y <;> simp only at h
      rw [← vO_eq] at h
      obtain ⟨v, e, q⟩ := h
      exact ⟨_, v, rfl, e, q⟩
  apply propext
  constructor
  · rintro (⟨xs, i, v, h, rfl, e, q⟩ | ⟨kvs, k, v, h, ek, e, q⟩)
    · cases hs : st a with
      | none => rw [hs] at h; cases h
      | some o => cases o <;> rw [hs] at h <;> cases h <;> (show vO _ _ _; rw [e]; exact q)
    · cases hs : st a with
      | none => rw [hs] at h; cases h
      | some o => cases o <;> rw [hs] at h <;> cases h <;> (show vO _ _ _; rw [key]; exact ⟨k, v, ek, e, q⟩)
  · intro h
    cases hs : st a with
    | none => rw [hs] at h; exact h.elim
    | some o =>
      rw [hs] at h
      cases o with
      | lst xs =>
        refine .inl ?_
        cases y <;> simp only [ixO] at h
        rw [← vO_eq] at h
        obtain ⟨v, e, q⟩ := h
        exact ⟨xs, _, v, by rw [hs]; rfl, rfl, e, q⟩
      | rol xs =>
        refine .inl ?_
        cases y <;> simp only [ixO] at h
        rw [← vO_eq] at h
        obtain ⟨v, e, q⟩ := h
        exact ⟨xs, _, v, by rw [hs]; rfl, rfl, e, q⟩
      | dic kvs =>
        have h' : vO ((keyD y).bind (valD kvs)) st Q := by cases y <;> exact h
        rw [key] at h'
        obtain ⟨k, v, e1, e2, q⟩ := h'
        exact .inr ⟨kvs, k, v, by rw [hs]; rfl, e1, e2, q⟩
      | rod kvs =>
        have h' : vO ((keyD y).bind (valD kvs)) st Q := by cases y <;> exact h
        rw [key] at h'
        obtain ⟨k, v, e1, e2, q⟩ := h'
        exact .inr ⟨kvs, k, v, by rw [hs]; rfl, e1, e2, q⟩
      | raw u => exact h.elim
theorem ixO_lst {xs : List D} {i : Int} {st : Sto} {Q : DK} : ixO (some (.lst xs)) (.int i) st Q = vO (atI xs i) st Q := rfl
theorem ixO_dicI {kvs : List (Key × D)} {i : Int} {st : Sto} {Q : DK} : ixO (some (.dic kvs)) (.int i) st Q = vO (valD kvs (.inl i)) st Q := rfl
theorem ixO_dicS {kvs : List (Key × D)} {i : Str} {st : Sto} {Q : DK} : ixO (some (.dic kvs)) (.str i) st Q = vO (valD kvs (.inr i)) st Q := rfl
theorem ixO_rodI {kvs : List (Key × D)} {i : Int} {st : Sto} {Q : DK} : ixO (some (.rod kvs)) (.int i) st Q = vO (valD kvs (.inl i)) st Q := rfl
theorem ixO_rodS {kvs : List (Key × D)} {i : Str} {st : Sto} {Q : DK} : ixO (some (.rod kvs)) (.str i) st Q = vO (valD kvs (.inr i)) st Q := rfl
theorem ex_st {α : Type} {f : Ob → Option α} {o : Option Ob} {P : α → Prop} : (∃ x, o.bind f = some x ∧ P x) = match o.bind f with | some x => P x | none => False := by
  apply propext
  cases o.bind f with
  | none => simp
  | some v => simp
def lsO : Option Ob → (List D → Prop) → Prop
  | some (.lst xs), P => P xs
  | _, _ => False
theorem lsO_lst {xs : List D} {P : List D → Prop} : lsO (some (.lst xs)) P = P xs := rfl
theorem lsO_eq {o : Option Ob} {P : List D → Prop} : (∃ xs, o = some (.lst xs) ∧ P xs) = lsO o P := by
  apply propext
  constructor
  · rintro ⟨xs, rfl, h⟩; exact h
  · intro h
    cases o with
    | none => exact h.elim
    | some o => cases o <;> first | exact h.elim | exact ⟨_, rfl, h⟩
def rdO : Option Ob → (List D → Prop) → Prop
  | some (.lst xs), P => P xs
  | some (.rol xs), P => P xs
  | _, _ => False
theorem rdO_lst {xs : List D} {P : List D → Prop} : rdO (some (.lst xs)) P = P xs := rfl
theorem rdO_rol {xs : List D} {P : List D → Prop} : rdO (some (.rol xs)) P = P xs := rfl
theorem rdO_eq {o : Option Ob} {P : List D → Prop} : (∃ xs, rdL o = some xs ∧ P xs) = rdO o P := by
  apply propext
  constructor
  · rintro ⟨xs, e, h⟩
    cases o with
    | none => cases e
    | some o => cases o <;> cases e <;> exact h
  · intro h
    cases o with
    | none => exact h.elim
    | some o => cases o <;> first | exact h.elim | exact ⟨_, rfl, h⟩
theorem oAppend_ref {a : Addr} {y : D} {st : Sto} {Q : DK} : oAppend (.ref a) [y] st Q = lsO (st a) fun xs => xs.length < sizeLine ∧ Q .non (put st a (.lst (xs ++ [y]))) := lsO_eq
theorem oPop_ref {a : Addr} {st : Sto} {Q : DK} : oPop (.ref a) [] st Q = lsO (st a) fun xs => vO xs.getLast? (put st a (.lst xs.dropLast)) Q := by
  rw [← lsO_eq]
  apply propext
  constructor
  · rintro ⟨xs, y, e, e2, q⟩
    exact ⟨xs, e, by rw [← vO_eq]; exact ⟨y, e2, q⟩⟩
  · rintro ⟨xs, e, q⟩
    rw [← vO_eq] at q
    obtain ⟨y, e2, q⟩ := q
    exact ⟨xs, y, e, e2, q⟩
theorem oExtend_tupE {a : Addr} {ys : List D} {st : Sto} {Q : DK} : oExtend (.ref a) [.tup ys] st Q = lsO (st a) fun xs => xs.length + ys.length ≤ sizeLine ∧ Q .non (put st a (.lst (xs ++ ys))) := lsO_eq
theorem oTuple_ref {a : Addr} {st : Sto} {Q : DK} : oTuple [.ref a] st Q = rdO (st a) fun xs => Q (.tup xs) st := rdO_eq
theorem oSl_ref {a : Addr} {lo hi : Option Int} {st : Sto} {Q : DK} : oSl (.ref a) lo hi st Q = rdO (st a) fun xs => ∀ p, Nf st p → Q (.ref p) (put st p (.lst (cutL xs lo hi))) := rdO_eq
theorem oList_ref {a : Addr} {st : Sto} {Q : DK} : oList [.ref a] st Q = rdO (st a) fun xs => ∀ p, Nf st p → Q (.ref p) (put st p (.lst xs)) := rdO_eq
def lenO : Option Ob → Sto → DK → Prop
  | some (.lst xs), st, Q => Q (.int xs.length) st
  | some (.rol xs), st, Q => Q (.int xs.length) st
  | some (.dic xs), st, Q => Q (.int xs.length) st
  | _, _, _ => False
theorem lenO_lst {xs : List D} {st : Sto} {Q : DK} : lenO (some (.lst xs)) st Q = Q (.int xs.length) st := rfl
theorem lenO_rol {xs : List D} {st : Sto} {Q : DK} : lenO (some (.rol xs)) st Q = Q (.int xs.length) st := rfl
theorem lenO_dic {xs : List (Key × D)} {st : Sto} {Q : DK} : lenO (some (.dic xs)) st Q = Q (.int xs.length) st := rfl
theorem oLen_ref {a : Addr} {st : Sto} {Q : DK} : oLen [.ref a] st Q = lenO (st a) st Q := by
  apply propext
  constructor
  · rintro (⟨xs, e, h⟩ | ⟨kvs, e, h⟩)
    · cases hs : st a with
      | none => rw [hs] at e; cases e
      | some o => cases o <;> rw [hs] at e <;> cases e <;> exact h
    · rw [e]; exact h
  · intro h
    cases hs : st a with
    | none => rw [hs] at h; exact h.elim
    | some o =>
      rw [hs] at h
      cases o with
      | lst xs => exact .inl ⟨xs, by rw [hs]; rfl, h⟩
      | rol xs => exact .inl ⟨xs, by rw [hs]; rfl, h⟩
      | dic xs => exact .inr ⟨xs, hs, h⟩
      | rod xs => exact h.elim
      | raw u => exact h.elim
def addO : Option Ob → Option Ob → Sto → DK → Prop
  | some (.lst xs), some (.lst ys), st, Q => xs.length + ys.length ≤ sizeLine ∧ ∀ p, Nf st p → Q (.ref p) (put st p (.lst (xs ++ ys)))
  | _, _, _, _ => False
theorem addO_lst {xs ys : List D} {st : Sto} {Q : DK} : addO (some (.lst xs)) (some (.lst ys)) st Q = (xs.length + ys.length ≤ sizeLine ∧ ∀ p, Nf st p → Q (.ref p) (put st p (.lst (xs ++ ys)))) := rfl
theorem oAdd_ref {a b : Addr} {st : Sto} {Q : DK} : oAdd (.ref a) (.ref b) st Q = addO (st a) (st b) st Q := by
  apply propext
  constructor
  · rintro ⟨xs, ys, e1, e2, h⟩
    rw [e1, e2]; exact h
  · intro h
    cases h1 : st a with
    | none => rw [h1] at h; exact h.elim
    | some o =>
      cases h2 : st b with
      | none => rw [h1, h2] at h; cases o <;> exact h.elim
      | some u =>
        rw [h1, h2] at h
        cases o <;> cases u <;> first | exact h.elim | exact ⟨_, _, h1, h2, h⟩
def inO : Option Ob → D → Sto → DK → Prop
  | some (.lst xs), x, st, Q => flatD x = true ∧ xs.all flatD = true ∧ Q (.bl (inF x xs)) st
  | some (.dic kvs), x, st, Q => ∃ k, keyD x = some k ∧ Q (.bl (valD kvs k).isSome) st
  | _, _, _, _ => False
theorem inO_lst {xs : List D} {x : D} {st : Sto} {Q : DK} : inO (some (.lst xs)) x st Q = (flatD x = true ∧ xs.all flatD = true ∧ Q (.bl (inF x xs)) st) := rfl
theorem inO_dicS {kvs : List (Key × D)} {x : Str} {st : Sto} {Q : DK} : inO (some (.dic kvs)) (.str x) st Q = Q (.bl (valD kvs (.inr x)).isSome) st := by
  apply propext
  constructor
  · rintro ⟨k, e, q⟩; cases e; exact q
  · exact fun q => ⟨_, rfl, q⟩
theorem inO_dicI {kvs : List (Key × D)} {x : Int} {st : Sto} {Q : DK} : inO (some (.dic kvs)) (.int x) st Q = Q (.bl (valD kvs (.inl x)).isSome) st := by
  apply propext
  constructor
  · rintro ⟨k, e, q⟩; cases e; exact q
  · exact fun q => ⟨_, rfl, q⟩
/-- one way is enough: what stands there gives the test -/
theorem oIn_ref {a : Addr} {x : D} {st : Sto} {Q : DK} (h : inO (st a) x st Q) : oIn x (.ref a) st Q := by
  cases hs : st a with
  | none => rw [hs] at h; exact h.elim
  | some o =>
    rw [hs] at h
    cases o with
    | lst xs => exact oIn_l (by rw [hs]; rfl) h.1 h.2.1 h.2.2
    | dic kvs =>
      obtain ⟨k, e, q⟩ := h
      exact oIn_d (by rw [hs]; rfl) e q
    | rol xs => exact h.elim
    | rod xs => exact h.elim
    | raw u => exact h.elim
def setO : Option Ob → Addr → D → D → Sto → (Sto → Prop) → Prop
  | some (.lst xs), a, .int i, v, st, Q => ∃ j, ixN xs.length i = some j ∧ Q (put st a (.lst (xs.set j v)))
  | some (.dic kvs), a, y, v, st, Q => kvs.length < sizeLine ∧ ∃ k, keyD y = some k ∧ Q (put st a (.dic (putD kvs k v)))
  | _, _, _, _, _, _ => False
theorem setO_dicS {kvs : List (Key × D)} {a : Addr} {x : Str} {v : D} {st : Sto} {Q : Sto → Prop} : setO (some (.dic kvs)) a (.str x) v st Q = (kvs.length < sizeLine ∧ Q (put st a (.dic (putD kvs (.inr x) v)))) := by
  apply propext
  constructor
  · rintro ⟨h, k, e, q⟩; cases e; exact ⟨h, q⟩
  · exact fun ⟨h, q⟩ => ⟨h, _, rfl, q⟩
theorem setO_dicI {kvs : List (Key × D)} {a : Addr} {x : Int} {v : D} {st : Sto} {Q : Sto → Prop} : setO (some (.dic kvs)) a (.int x) v st Q = (kvs.length < sizeLine ∧ Q (put st a (.dic (putD kvs (.inl x) v)))) := by
  apply propext
  constructor
  · rintro ⟨h, k, e, q⟩; cases e; exact ⟨h, q⟩
  · exact fun ⟨h, q⟩ => ⟨h, _, rfl, q⟩
theorem setO_lst {xs : List D} {a : Addr} {i : Int} {v : D} {st : Sto} {Q : Sto → Prop} : setO (some (.lst xs)) a (.int i) v st Q = ∃ j, ixN xs.length i = some j ∧ Q (put st a (.lst (xs.set j v))) := rfl
theorem oSet_ref {a : Addr} {y v : D} {st : Sto} {Q : Sto → Prop} : oSet (.ref a) y v st Q = setO (st a) a y v st Q := by
  apply propext
  constructor
  · rintro (⟨xs, i, j, e, rfl, e2, q⟩ | ⟨kvs, k, e, e2, h, q⟩)
    · rw [e]; exact ⟨j, e2, q⟩
    · rw [e]
      cases y <;> exact ⟨h, k, e2, q⟩
  · intro h
    cases hs : st a with
    | none => rw [hs] at h; exact h.elim
    | some o =>
      rw [hs] at h
      cases o with
      | lst xs =>
        cases y <;> simp only [setO] at h
        obtain ⟨j, e, q⟩ := h
        exact .inl ⟨xs, _, j, hs, rfl, e, q⟩
      | dic kvs =>
        have h' : kvs.length < sizeLine ∧ ∃ k, keyD y = some k ∧ Q (put st a (.dic (putD kvs k v))) := by cases y <;> exact h
        obtain ⟨h1, k, e, q⟩ := h'
        exact .inr ⟨kvs, k, hs, e, h1, q⟩
      | rol xs => exact h.elim
      | rod xs => exact h.elim
      | raw u => exact h.elim
theorem isL_ref {a : Addr} {st : Sto} : isL (.ref a) st = rdO (st a) fun _ => True := by
  rw [← rdO_eq]
  apply propext
  constructor
  · rintro ⟨b, xs, e, h⟩; cases e; exact ⟨xs, h, trivial⟩
  · rintro ⟨xs, h, _⟩; exact ⟨a, xs, rfl, h⟩
theorem isS_str {z : Str} {st : Sto} : isS (.str z) st = True := by
  apply propext
  exact ⟨fun _ => trivial, fun _ => ⟨z, rfl⟩⟩
def revO : D → Sto → DK → Prop
  | .ref a, st, Q => rdO (st a) fun xs => ∀ p, Nf st p → Q (.ref p) (put st p (.lst xs.reverse))
  | _, _, _ => False
theorem revO_ref {a : Addr} {st : Sto} {Q : DK} : revO (.ref a) st Q = rdO (st a) fun xs => ∀ p, Nf st p → Q (.ref p) (put st p (.lst xs.reverse)) := rfl
theorem mRev_a {m : ME} {env : Env} {st : Sto} {Q : DK} : mRev m env st Q = m env st fun x st1 => revO x st1 Q := by
  have e : (fun (x : D) (st1 : Sto) => ∃ a xs, x = .ref a ∧ rdL (st1 a) = some xs ∧ ∀ p, Nf st1 p → Q (.ref p) (put st1 p (.lst xs.reverse))) = fun x st1 => revO x st1 Q := by
    funext x st1
    cases x <;> try simp [revO]
    rw [← rdO_eq]
  unfold mRev
  rw [e]
theorem atI_zero {α : Type} {x : α} {xs : List α} : atI (x :: xs) 0 = some x := by
  simp [atI, ixN]
theorem atI_one {α : Type} {x y : α} {xs : List α} : atI (x :: y :: xs) 1 = some y := by
  have h : (1 : Int) < ((x :: y :: xs).length : Nat) := by simp; omega
  simp only [atI, ixN, if_pos (show (0 : Int) ≤ 1 by omega), if_pos h]
  rfl
theorem atI_two {α : Type} {x y z : α} {xs : List α} : atI (x :: y :: z :: xs) 2 = some z := by
  have h : (2 : Int) < ((x :: y :: z :: xs).length : Nat) := by simp; omega
  simp only [atI, ixN, if_pos (show (0 : Int) ≤ 2 by omega), if_pos h]
  rfl
theorem atI_end {α : Type} {xs : List α} : atI xs (-1) = xs.getLast? := by
  rcases List.eq_nil_or_concat xs with rfl | ⟨l, x, rfl⟩
  · rfl
  · rw [List.concat_eq_append, atI_last, List.getLast?_concat]
theorem atI_ofNat {α : Type} {xs : List α} {j : Nat} : atI xs (j : Int) = xs[j]? := by
  unfold atI ixN
  by_cases h : (j : Int) < (xs.length : Nat)
  · simp only [if_pos (show (0 : Int) ≤ j by omega), if_pos h, Int.toNat_natCast, Option.bind_some]
  · simp only [if_pos (show (0 : Int) ≤ j by omega), if_neg h, Option.bind_none]
    rw [List.getElem?_eq_none (by omega)]
/-- what is walked -/
def sqO : D → Sto → (List D → (Sto → Prop) → Sto → Prop) → Prop
  | .tup xs, st, Q => Q xs (fun _ => True) st
  | .str z, st, Q => Q (signsD z) (fun _ => True) st
  | .ref a, st, Q => rdO (st a) fun xs => Q xs (fun st => rdL (st a) = some xs) st
  | _, _, _ => False
theorem wSeq_a {m : ME} {env : Env} {st : Sto} {Q : List D → (Sto → Prop) → Sto → Prop} : wSeq m env st Q = m env st fun x st1 => sqO x st1 Q := by
  have e : (fun (x : D) (st1 : Sto) => match x with
    | .tup xs => Q xs (fun _ => True) st1
    | .str z => Q (signsD z) (fun _ => True) st1
    | .ref a => ∃ xs, rdL (st1 a) = some xs ∧ Q xs (fun st => rdL (st a) = some xs) st1
    | _ => False) = fun x st1 => sqO x st1 Q := by
    funext x st1
    cases x <;> simp only [sqO]
    rw [rdO_eq]
  unfold wSeq
  rw [← e]
  try rfl
theorem sqO_tup {xs : List D} {st : Sto} {Q : List D → (Sto → Prop) → Sto → Prop} : sqO (.tup xs) st Q = Q xs (fun _ => True) st := rfl
theorem sqO_str {z : Str} {st : Sto} {Q : List D → (Sto → Prop) → Sto → Prop} : sqO (.str z) st Q = Q (signsD z) (fun _ => True) st := rfl
theorem sqO_ref {a : Addr} {st : Sto} {Q : List D → (Sto → Prop) → Sto → Prop} : sqO (.ref a) st Q = rdO (st a) fun xs => Q xs (fun st => rdL (st a) = some xs) st := rfl
theorem wRng1_a {m : ME} {env : Env} {st : Sto} {Q : List D → (Sto → Prop) → Sto → Prop} : wRng1 m env st Q = m env st fun x st1 => iAt x st1 fun j st2 => (-(2 ^ 62) ≤ j ∧ j < 2 ^ 62) ∧ Q (rangeD 0 j.toNat) (fun _ => True) st2 := by
  have e : (fun x st1 => ∃ j, x = D.int j ∧ (-(2 ^ 62) ≤ j ∧ j < 2 ^ 62) ∧ Q (rangeD 0 j.toNat) (fun _ => True) st1) = fun x st1 => iAt x st1 fun j st2 => (-(2 ^ 62) ≤ j ∧ j < 2 ^ 62) ∧ Q (rangeD 0 j.toNat) (fun _ => True) st2 := by
    funext x st1
    cases x <;> simp [iAt]
  unfold wRng1
  rw [e]
/-- a walk's turns -/
def forO (xs : List D) (ok : Sto → Prop) (g : MG) (b : MS) (D : DEnds) (env : Env) (st1 : Sto) : Prop := ∃ W : Nat → Env → Sto → Prop, W 0 env st1 ∧ (∀ i env st, i ≤ xs.length → W i env st → ok st) ∧
  (∀ i x env st, xs[i]? = some x → W i env st → g x env st fun env2 st2 => b { nx := W (i + 1), rt := D.rt, bk := D.nx, ct := W (i + 1) } env2 st2) ∧
  (∀ env st, W xs.length env st → D.nx env st)
theorem sFor_a {mi : MI} {g : MG} {b : MS} {D : DEnds} {env : Env} {st : Sto} : sFor mi g b D env st = mi env st fun xs ok st1 => forO xs ok g b D env st1 := rfl
def lcO (xs : List D) (ok : Sto → Prop) (g : MG) (mt : MT) (me : ME) (ws : List Nat) (env : Env) (st1 : Sto) (Q : DK) : Prop := ∀ p, Nf st1 p → ∃ W : Nat → List D → Sto → Prop, W 0 [] (put st1 p (.lst [])) ∧
  (∀ i acc st, i ≤ xs.length → W i acc st → ok st ∧ st p = some (.lst acc)) ∧
  (∀ i acc x st, xs[i]? = some x → W i acc st → g x (wipeE env ws) st fun env2 st2 => mt env2 st2 fun b st3 =>
    if b = true then me env2 st3 fun y st4 => st4 p = some (.lst acc) ∧ acc.length < sizeLine ∧ W (i + 1) (acc ++ [y]) (put st4 p (.lst (acc ++ [y]))) else W (i + 1) acc st3) ∧
  (∀ acc st, W xs.length acc st → Q (.ref p) st)
theorem mLc_a {mi : MI} {g : MG} {mt : MT} {me : ME} {ws : List Nat} {env : Env} {st : Sto} {Q : DK} : mLc mi g mt me ws env st Q = mi env st fun xs ok st1 => lcO xs ok g mt me ws env st1 Q := rfl
def dcO (xs : List D) (ok : Sto → Prop) (g : MG) (mt : MT) (mk mv : ME) (ws : List Nat) (env : Env) (st1 : Sto) (Q : DK) : Prop := ∀ p, Nf st1 p → ∃ W : Nat → List (Key × D) → Sto → Prop, W 0 [] (put st1 p (.dic [])) ∧
  (∀ i acc st, i ≤ xs.length → W i acc st → ok st ∧ st p = some (.dic acc)) ∧
  (∀ i acc x st, xs[i]? = some x → W i acc st → g x (wipeE env ws) st fun env2 st2 => mt env2 st2 fun b st3 =>
    if b = true then mk env2 st3 fun y st4 => mv env2 st4 fun z st5 => ∃ k, keyD y = some k ∧ st5 p = some (.dic acc) ∧ acc.length < sizeLine ∧ W (i + 1) (putD acc k z) (put st5 p (.dic (putD acc k z))) else W (i + 1) acc st3) ∧
  (∀ acc st, W xs.length acc st → Q (.ref p) st)
theorem mDc_a {mi : MI} {g : MG} {mt : MT} {mk mv : ME} {ws : List Nat} {env : Env} {st : Sto} {Q : DK} : mDc mi g mt mk mv ws env st Q = mi env st fun xs ok st1 => dcO xs ok g mt mk mv ws env st1 Q := rfl

/-! one statement and the rest -/
section
variable {D0 : DEnds} {env : Env} {st : Sto} {u : MS}
theorem sqAsg_a {m : ME} {g : MG} : sSeq (sAsg m g) u D0 env st = m env st fun d st1 => g d env st1 fun env2 st2 => u D0 env2 st2 := rfl
theorem sqDrop_a {m : ME} : sSeq (sDrop m) u D0 env st = m env st fun _ st1 => u D0 env st1 := rfl
theorem sqPar_a {i j : Nat} {a b : ME} : sSeq (sPar i j (mCons a (mCons b mNil))) u D0 env st = a env st fun x st1 => b env st1 fun y st2 => u D0 ((env.set i (some x)).set j (some y)) st2 := by
  rw [sSeq_a, sPar_a]
theorem sqPar3_a {i j l : Nat} {a b c : ME} : sSeq (sPar3 i j l (mCons a (mCons b (mCons c mNil)))) u D0 env st = a env st fun x st1 => b env st1 fun y st2 => c env st2 fun z st3 => u D0 (((env.set i (some x)).set j (some y)).set l (some z)) st3 := by
  rw [sSeq_a, sPar3_a]
theorem sqIf_a {c : MT} {t v : MS} : sSeq (sIf c t v) u D0 env st = c env st fun b st1 => if b = true then sSeq t u D0 env st1 else sSeq v u D0 env st1 := rfl
theorem sqNext_a : sSeq sNext u D0 env st = u D0 env st := rfl
theorem sqRet_a {m : ME} : sSeq (sRet m) u D0 env st = m env st D0.rt := rfl
theorem sqSeq_a {t v : MS} : sSeq (sSeq t v) u D0 env st = sSeq t (sSeq v u) D0 env st := rfl
/-- the rest held back -/
theorem sSeq_t {t : MS} (h : ∀ T : MS, u = T → sSeq t T D0 env st) : sSeq t u D0 env st := h u rfl
/-- what stands between a statement and the rest -/
theorem sSeq_i {t : MS} (X : Env → Sto → Prop) (h : ∀ nx, (∀ env st, X env st → nx env st) → t { nx := nx, rt := D0.rt, bk := D0.bk, ct := D0.ct } env st) (fin : ∀ env st, X env st → u D0 env st) : sSeq t u D0 env st := h _ fin
end

/-! ### stores that stay -/
def nr : Ob → Prop
  | .rol _ => False
  | _ => True
def Keep (st st' : Sto) : Prop := ∀ a o, nr o → st a = some o → st' a = some o
theorem Keep.refl {st : Sto} : Keep st st := fun _ _ _ h => h
theorem Keep.trans {a b c : Sto} (h : Keep a b) (k : Keep b c) : Keep a c := fun _ _ n e => k _ _ n (h _ _ n e)
theorem Nf.not {st : Sto} {p a : Addr} {o : Ob} (h : Nf st p) (e : st a = some o) (n : nr o) : a ≠ p := by
  rintro rfl
  rcases h with h | ⟨_, h⟩ <;> rw [e] at h <;> cases h
  exact n
theorem Keep.put {st : Sto} {p : Addr} {o : Ob} (h : Nf st p) : Keep st (put st p o) := fun a u n e => by
  rw [put_ne (h.not e n)]; exact e
theorem Keep.new {st st' : Sto} {p : Addr} {o : Ob} (k : Keep st st') (h : Nf st' p) : Keep st (DL.put st' p o) := k.trans (Keep.put h)
/-- an object that was new may change -/
theorem Keep.mut {st st' : Sto} {p : Addr} {o : Ob} (k : Keep st st') (h : Nf st p) : Keep st (DL.put st' p o) := fun a u n e => by
  rw [put_ne (h.not e n)]; exact k _ _ n e

theorem Keep.l {st st' : Sto} {a : Addr} {xs : List D} (k : Keep st st') (h : st a = some (.lst xs)) : st' a = some (.lst xs) := k a _ trivial h
theorem Keep.d {st st' : Sto} {a : Addr} {xs : List (Key × D)} (k : Keep st st') (h : st a = some (.dic xs)) : st' a = some (.dic xs) := k a _ trivial h

/-! ### the deal of draws -/
structure DealAt (st : Sto) (n m : Addr) (cells : List Int) (mix : Int) : Prop where
  ln : st n = some (.lst [.ref m, .int mix])
  lm : st m = some (.lst (cells.map D.int))
  nn : ∀ c ∈ cells, 0 ≤ c
  m0 : 0 ≤ mix
  m1 : mix < 2147483647
  sz : cells.length ≤ 63
theorem DealAt.ne {st : Sto} {n m : Addr} {cells : List Int} {mix : Int} (h : DealAt st n m cells mix) : n ≠ m := by
  rintro rfl
  have e := h.ln.symm.trans h.lm
  simp only [Option.some.injEq, Ob.lst.injEq] at e
  cases cells with
  | nil => simp at e
  | cons c cs => simp at e
def Deal (st : Sto) (n m : Addr) : Prop := ∃ cells mix, DealAt st n m cells mix
/-- behind draws -/
structure Up (n m : Addr) (st st' : Sto) : Prop where
  keep : ∀ a o, a ≠ n → a ≠ m → nr o → st a = some o → st' a = some o
  deal : Deal st' n m
theorem Up.l {n m a : Addr} {st st' : Sto} {xs : List D} (u : Up n m st st') (h1 : a ≠ n) (h2 : a ≠ m) (h : st a = some (.lst xs)) : st' a = some (.lst xs) := u.keep a _ h1 h2 trivial h
theorem Up.d {n m a : Addr} {st st' : Sto} {xs : List (Key × D)} (u : Up n m st st') (h1 : a ≠ n) (h2 : a ≠ m) (h : st a = some (.dic xs)) : st' a = some (.dic xs) := u.keep a _ h1 h2 trivial h
theorem Deal.keep {st st' : Sto} {n m : Addr} (h : Deal st n m) (k : Keep st st') : Deal st' n m := by
  obtain ⟨c, x, h⟩ := h
  exact ⟨c, x, k _ _ trivial h.ln, k _ _ trivial h.lm, h.nn, h.m0, h.m1, h.sz⟩
theorem Up.refl {st : Sto} {n m : Addr} (h : Deal st n m) : Up n m st st := ⟨fun _ _ _ _ _ e => e, h⟩
theorem Up.trans {a b c : Sto} {n m : Addr} (h : Up n m a b) (k : Up n m b c) : Up n m a c := ⟨fun x o h1 h2 hn e => k.keep x o h1 h2 hn (h.keep x o h1 h2 hn e), k.deal⟩
theorem Up.then {a b c : Sto} {n m : Addr} (h : Up n m a b) (k : Keep b c) : Up n m a c := ⟨fun x o h1 h2 hn e => k _ _ hn (h.keep x o h1 h2 hn e), h.deal.keep k⟩
theorem Up.of {a b : Sto} {n m : Addr} (h : Deal a n m) (k : Keep a b) : Up n m a b := ⟨fun x o _ _ hn e => k _ _ hn e, h.keep k⟩
theorem Up.put {a b : Sto} {n m p : Addr} {o : Ob} (h : Up n m a b) (f : Nf a p) (g : p ≠ n) (g' : p ≠ m) : Up n m a (DL.put b p o) := ⟨fun x u h1 h2 hn e => by
  rw [put_ne (f.not e hn)]; exact h.keep x u h1 h2 hn e, by
  obtain ⟨c, x, d⟩ := h.deal
  exact ⟨c, x, by rw [put_ne g.symm]; exact d.ln, by rw [put_ne g'.symm]; exact d.lm, d.nn, d.m0, d.m1, d.sz⟩⟩
theorem Nf.deal {st : Sto} {n m p : Addr} (h : Nf st p) (d : Deal st n m) : p ≠ n ∧ p ≠ m := by
  obtain ⟨c, x, d⟩ := d
  exact ⟨h.ne d.ln, h.ne d.lm⟩
theorem Deal.put {st : Sto} {n m p : Addr} {o : Ob} (h : Deal st n m) (g : p ≠ n) (g' : p ≠ m) : Deal (DL.put st p o) n m := by
  obtain ⟨c, x, d⟩ := h
  exact ⟨c, x, by rw [put_ne g.symm]; exact d.ln, by rw [put_ne g'.symm]; exact d.lm, d.nn, d.m0, d.m1, d.sz⟩
end L2.DL

namespace L2.DL
open PySem PySem.Spec PyProof.Rows

/-! ### list comprehensions by what each item gives -/
inductive Fm (F : D → Option D → Prop) : List D → List D → Prop
  | nil : Fm F [] []
  | yes {x y : D} {xs ys : List D} : F x (some y) → Fm F xs ys → Fm F (x :: xs) (y :: ys)
  | no {x : D} {xs ys : List D} : F x none → Fm F xs ys → Fm F (x :: xs) ys
theorem Fm.snoc {F : D → Option D → Prop} {xs ys : List D} (h : Fm F xs ys) {x y : D} (k : F x (some y)) : Fm F (xs ++ [x]) (ys ++ [y]) := by
  induction h with
  | nil => exact .yes k .nil
  | yes a _ ih => exact .yes a ih
  | no a _ ih => exact .no a ih
theorem Fm.skip {F : D → Option D → Prop} {xs ys : List D} (h : Fm F xs ys) {x : D} (k : F x none) : Fm F (xs ++ [x]) ys := by
  induction h with
  | nil => exact .no k .nil
  | yes a _ ih => exact .yes a ih
  | no a _ ih => exact .no a ih
theorem Fm.len {F : D → Option D → Prop} {xs ys : List D} (h : Fm F xs ys) : ys.length ≤ xs.length := by
  induction h with
  | nil => exact Nat.le_refl _
  | yes _ _ ih => simpa using ih
  | no _ _ ih => simp; omega
theorem Fm.fun {f : D → Option D} {xs ys : List D} (h : Fm (fun x o => o = f x) xs ys) : ys = xs.filterMap f := by
  induction h with
  | nil => rfl
  | yes a _ ih => rw [List.filterMap_cons_some a.symm, ih]
  | no a _ ih => rw [List.filterMap_cons_none a.symm, ih]
theorem Fm.strs {P : Str → Prop} {xs ys : List D} (h : Fm (fun _ o => ∃ s, o = some (.str s) ∧ P s) xs ys) : ∃ cs : List Str, ys = cs.map D.str ∧ cs.length = xs.length ∧ ∀ s ∈ cs, P s := by
  induction h with
  | nil => exact ⟨[], rfl, rfl, fun _ h => by cases h⟩
  | yes a _ ih =>
    obtain ⟨cs, rfl, h1, h2⟩ := ih
    obtain ⟨s, e, p⟩ := a
    cases e
    refine ⟨s :: cs, rfl, by simp [h1], fun t ht => ?_⟩
    rcases List.mem_cons.mp ht with rfl | ht
    · exact p
    · exact h2 t ht
  | no a _ _ =>
    obtain ⟨s, e, _⟩ := a
    cases e
theorem take_snoc {α : Type} {xs : List α} {i : Nat} {x : α} (h : xs[i]? = some x) : xs.take (i + 1) = xs.take i ++ [x] := by
  rw [List.take_add_one, h]
  rfl
section
variable {env : Env} {g : MG} {mt : MT} {me : ME} {ws : List Nat} {xs : List D} {ok : Sto → Prop} {st1 : Sto} {Q : DK}
/-- behind draws -/
theorem lc_up {n m : Addr} (F : D → Option D → Prop) (hd : Deal st1 n m) (hok : ∀ st', Up n m st1 st' → ok st') (hl : xs.length ≤ sizeLine)
    (turn : ∀ x ∈ xs, ∀ st2, Up n m st1 st2 → ∀ (P : DK) (N : Sto → Prop), (∀ y st3, F x (some y) → Up n m st2 st3 → P y st3) → (∀ st3, F x none → Up n m st2 st3 → N st3) → g x (wipeE env ws) st2 fun env2 st3 => mt env2 st3 fun b st4 => if b = true then me env2 st4 P else N st4)
    (fin : ∀ p ys st', Nf st1 p → Fm F xs ys → Up n m st1 st' → st' p = some (.lst ys) → Q (.ref p) st') :
    lcO xs ok g mt me ws env st1 Q := by
  intro p hp
  obtain ⟨pn, pm⟩ := hp.deal hd
  refine ⟨fun i acc st => Fm F (xs.take i) acc ∧ Up n m st1 st ∧ st p = some (.lst acc), ⟨by simpa using Fm.nil, (Up.refl hd).put hp pn pm, put_same⟩, fun i acc st _ ⟨_, u, e⟩ => ⟨hok st u, e⟩, fun i acc x st hx ⟨hf, u, e⟩ => ?_, fun acc st ⟨hf, u, e⟩ => fin p acc st hp (by simpa using hf) u e⟩
  have hlen : acc.length < sizeLine := by
    have h1 := hf.len
    have h2 : i < xs.length := by
      have := List.getElem?_eq_some_iff.mp hx
      exact this.1
    rw [List.length_take] at h1
    omega
  refine turn x (List.mem_of_getElem? hx) st u _ _ (fun y st5 h1 h2 => ?_) (fun st5 h1 h2 => ?_)
  · refine ⟨h2.keep _ _ pn pm trivial e, hlen, ?_, (u.trans h2).put hp pn pm, put_same⟩
    rw [take_snoc hx]
    exact hf.snoc h1
  · refine ⟨?_, u.trans h2, h2.keep _ _ pn pm trivial e⟩
    rw [take_snoc hx]
    exact hf.skip h1
/-- no draws -/
theorem lc_keep (f : D → Option D) (hok : ∀ st', Keep st1 st' → ok st') (hl : xs.length ≤ sizeLine)
    (turn : ∀ x ∈ xs, ∀ st2, Keep st1 st2 → ∀ (P : DK) (N : Sto → Prop), (∀ y st3, f x = some y → Keep st2 st3 → P y st3) → (∀ st3, f x = none → Keep st2 st3 → N st3) → g x (wipeE env ws) st2 fun env2 st3 => mt env2 st3 fun b st4 => if b = true then me env2 st4 P else N st4)
    (fin : ∀ p st', Nf st1 p → Keep st1 st' → st' p = some (.lst (xs.filterMap f)) → Q (.ref p) st') :
    lcO xs ok g mt me ws env st1 Q := by
  intro p hp
  refine ⟨fun i acc st => acc = (xs.take i).filterMap f ∧ Keep st1 st ∧ st p = some (.lst acc), ⟨by simp, Keep.put hp, put_same⟩, fun i acc st _ ⟨_, u, e⟩ => ⟨hok st u, e⟩, fun i acc x st hx ⟨hf, u, e⟩ => ?_, fun acc st ⟨hf, u, e⟩ => fin p st hp u (by rw [e, hf, List.take_length])⟩
  have hlen : acc.length < sizeLine := by
    have h1 : acc.length ≤ (xs.take i).length := by rw [hf]; exact List.length_filterMap_le ..
    have h2 : i < xs.length := by
      have := List.getElem?_eq_some_iff.mp hx
      exact this.1
    rw [List.length_take] at h1
    omega
  refine turn x (List.mem_of_getElem? hx) st u _ _ (fun y st5 h1 h2 => ?_) (fun st5 h1 h2 => ?_)
  · refine ⟨h2 _ _ trivial e, hlen, ?_, (u.trans h2).mut hp, put_same⟩
    rw [take_snoc hx, List.filterMap_append, hf]
    simp [h1]
  · refine ⟨?_, u.trans h2, h2 _ _ trivial e⟩
    rw [take_snoc hx, List.filterMap_append, hf]
    simp [h1]
/-- dict comprehensions without draws -/
theorem dc_keep {mk mv : ME} (f : D → Option (Key × D)) (hok : ∀ st', Keep st1 st' → ok st') (hl : xs.length ≤ sizeLine)
    (turn : ∀ x ∈ xs, ∀ st2, Keep st1 st2 → ∀ (P : D → D → Sto → Prop) (N : Sto → Prop), (∀ k y z st3, f x = some (k, z) → keyD y = some k → Keep st2 st3 → P y z st3) → (∀ st3, f x = none → Keep st2 st3 → N st3) → g x (wipeE env ws) st2 fun env2 st3 => mt env2 st3 fun b st4 => if b = true then mk env2 st4 fun y st5 => mv env2 st5 fun z st6 => P y z st6 else N st4)
    (fin : ∀ p st', Nf st1 p → Keep st1 st' → st' p = some (.dic ((xs.filterMap f).foldl (fun acc kv => putD acc kv.1 kv.2) [])) → Q (.ref p) st') :
    dcO xs ok g mt mk mv ws env st1 Q := by
  intro p hp
  have len : ∀ l : List (Key × D), ∀ acc : List (Key × D), (l.foldl (fun acc kv => putD acc kv.1 kv.2) acc).length ≤ acc.length + l.length := by
    intro l
    induction l with
    | nil => exact fun acc => Nat.le_refl _
    | cons kv l ih =>
      intro acc
      have h1 := ih (putD acc kv.1 kv.2)
      have h2 : (putD acc kv.1 kv.2).length ≤ acc.length + 1 := by
        unfold putD
        split <;> simp
      simp only [List.foldl_cons, List.length_cons]
      omega
  refine ⟨fun i acc st => acc = ((xs.take i).filterMap f).foldl (fun acc kv => putD acc kv.1 kv.2) [] ∧ Keep st1 st ∧ st p = some (.dic acc), ⟨by simp, Keep.put hp, put_same⟩, fun i acc st _ ⟨_, u, e⟩ => ⟨hok st u, e⟩, fun i acc x st hx ⟨hf, u, e⟩ => ?_, fun acc st ⟨hf, u, e⟩ => fin p st hp u (by rw [e, hf, List.take_length])⟩
  have hlen : acc.length < sizeLine := by
    have h1 : acc.length ≤ (xs.take i).length := by
      rw [hf]
      have a := len ((xs.take i).filterMap f) []
      have b : ((xs.take i).filterMap f).length ≤ (xs.take i).length := List.length_filterMap_le ..
      simp only [List.length_nil] at a
      omega
    have h2 : i < xs.length := by
      have := List.getElem?_eq_some_iff.mp hx
      exact this.1
    rw [List.length_take] at h1
    omega
  refine turn x (List.mem_of_getElem? hx) st u _ _ (fun k y z st5 h1 h0 h2 => ?_) (fun st5 h1 h2 => ?_)
  · refine ⟨k, h0, h2 _ _ trivial e, hlen, ?_, (u.trans h2).mut hp, put_same⟩
    rw [take_snoc hx, List.filterMap_append, List.foldl_append, hf]
    simp [h1]
  · refine ⟨?_, u.trans h2, h2 _ _ trivial e⟩
    rw [take_snoc hx, List.filterMap_append, List.foldl_append, hf]
    simp [h1]
end
/-- by the texts, by the ints -/
def onS (g : Str → Option D) : D → Option D
  | .str b => g b
  | _ => none
theorem onS_map (g : Str → Option D) (l : List Str) : (l.map D.str).filterMap (onS g) = l.filterMap g := by
  rw [List.filterMap_map]; rfl
theorem onS_str (g : Str → Option D) (b : Str) : onS g (.str b) = g b := rfl
def onI (g : Int → Option D) : D → Option D
  | .int b => g b
  | _ => none
theorem onI_map (g : Int → Option D) (l : List Int) : (l.map D.int).filterMap (onI g) = l.filterMap g := by
  rw [List.filterMap_map]; rfl
theorem fm_some {α β : Type} (g : α → β) (l : List α) : l.filterMap (fun x => some (g x)) = l.map g := by
  induction l with
  | nil => rfl
  | cons x l ih => simp [ih]
/-- keys unlike: the pairs as they come -/
theorem foldl_putD {κ : Type} [DecidableEq κ] : ∀ (l acc : List (κ × D)), ((acc ++ l).map (·.1)).Nodup → l.foldl (fun acc kv => putD acc kv.1 kv.2) acc = acc ++ l
  | [], acc, _ => by simp
  | kv :: l, acc, h => by
    have e : putD acc kv.1 kv.2 = acc ++ [kv] := by
      unfold putD
      rw [if_neg]
      intro c
      obtain ⟨x, hx, hk⟩ := List.any_eq_true.mp c
      rw [List.map_append, List.nodup_append] at h
      exact h.2.2 x.1 (List.mem_map.mpr ⟨x, hx, rfl⟩) kv.1 (by simp) (of_decide_eq_true hk)
    rw [List.foldl_cons, e, foldl_putD l (acc ++ [kv]) (by simpa using h)]
    simp
end L2.DL

namespace L2.DL
open PySem PySem.Spec PyProof.Rows

/-! ### sum, ord -/
section
variable {X : Cx}
def oSum : MC
  | [.ref a], st, Q => ∃ ns : List Int, rdL (st a) = some (ns.map D.int) ∧ Q (.int ns.sum) st
  | _, _, _ => False
theorem dc_sum (hc : X.calm = true) : DC X (.builtin "sum") oSum :=
  ⟨callr_mono (cr_sum hc) fun xs H Q ⟨ds, st, Q0, rx, rs, h, k⟩ => by
    unfold oSum at h
    split at h
    · cases rx with
      | cons r t =>
        cases t; cases r
        obtain ⟨ns, e, h⟩ := h
        obtain ⟨vs, g, r⟩ := rs.rdL e
        rw [r.ints] at g
        exact ⟨_, ns, rfl, g, k _ st _ H h .refl (.int _) rs⟩
    · exact h.elim⟩
def oOrd : MC
  | [.str z], st, Q => z.length = 1 ∧ Q (.int (z.cps.getD 0 0 : Nat)) st
  | _, _, _ => False
theorem dc_ord : DC X (.builtin "ord") oOrd :=
  ⟨callr_mono call_ord fun xs H Q ⟨ds, st, Q0, rx, rs, h, k⟩ => by
    unfold oOrd at h
    split at h
    · cases rx with
      | cons r t =>
        cases t; cases r
        exact ⟨_, rfl, h.1, k _ st _ H h.2 .refl (.int _) rs⟩
    · exact h.elim⟩
/-! ### enumerate of a list -/
def enumD (xs : List D) : List D := xs.zipIdx.map fun p => D.tup [.int (p.2 : Nat), p.1]
theorem enumD_len (xs : List D) : (enumD xs).length = xs.length := by simp [enumD]
theorem enumD_get {xs : List D} {i : Nat} {d : D} (h : xs[i]? = some d) : (enumD xs)[i]? = some (.tup [.int (i : Nat), d]) := by
  unfold enumD
  rw [List.getElem?_map, List.getElem?_zipIdx, h]
  simp
theorem src_enum {K : PySem.W.Frag} {H0 : Hp} {a : Addr} {ds : List D} : SrcJ K H0 (enumD ds) (fun st => rdL (st a) = some ds) (Ite K a) where
  stop := fun i H st h e rs o => by
    obtain ⟨vs, g, r⟩ := rs.rdL o
    rw [enumD_len] at h
    exact ⟨vs, g, by rw [← r.length]; exact h⟩
  go := fun i H st h e rs o => by
    obtain ⟨vs, g, r⟩ := rs.rdL o
    rw [enumD_len] at h
    obtain ⟨v, hv, _⟩ := r.get (List.getElem?_eq_getElem h)
    exact ⟨vs, v, g, hv⟩
  yld := fun i H st x H' h e rs o y => by
    obtain ⟨vs, g, r⟩ := rs.rdL o
    rw [enumD_len] at h
    obtain ⟨T, u, rfl, hT, rfl, hx⟩ := y
    obtain ⟨v, hv, rv⟩ := r.get (List.getElem?_eq_getElem h)
    have e1 : v = u := Option.some.inj (hv.symm.trans (hx vs g))
    subst e1
    have ex : Ext H (upd H T (.tup [.int (i : Nat), v])) := .upd_new hT
    refine ⟨_, enumD_get (List.getElem?_eq_getElem h), .tup (.of upd_same) (.cons (.int _) (.cons (rv.mono ex) .nil)), fun b u hb => ?_⟩
    rw [upd_ne (ne_of_none hb hT)]
    exact hb
/-! ### zip of two lists, of two tuples -/
def zipD (xs ys : List D) : List D := (xs.zip ys).map fun p => D.tup [p.1, p.2]
theorem zipD_len (xs ys : List D) : (zipD xs ys).length = min xs.length ys.length := by simp [zipD]
theorem zipD_get {xs ys : List D} {i : Nat} {d e : D} (h : xs[i]? = some d) (k : ys[i]? = some e) : (zipD xs ys)[i]? = some (.tup [d, e]) := by
  unfold zipD
  rw [List.getElem?_map, (List.getElem?_zip_eq_some (z := (d, e))).mpr ⟨h, k⟩]
  rfl
theorem src_zip {K : PySem.W.Frag} {H0 : Hp} {a b : Addr} {ds es : List D} : SrcJ K H0 (zipD ds es) (fun st => rdL (st a) = some ds ∧ rdL (st b) = some es) (Itz K a b) where
  stop := fun i H st h e rs o => by
    obtain ⟨vs, g, r⟩ := rs.rdL o.1
    obtain ⟨ws, g2, r2⟩ := rs.rdL o.2
    rw [zipD_len] at h
    refine ⟨vs, ws, g, g2, ?_⟩
    rw [← r.length, ← r2.length]
    omega
  go := fun i H st h e rs o => by
    obtain ⟨vs, g, r⟩ := rs.rdL o.1
    obtain ⟨ws, g2, r2⟩ := rs.rdL o.2
    rw [zipD_len] at h
    obtain ⟨v, hv, _⟩ := r.get (List.getElem?_eq_getElem (show i < ds.length by omega))
    obtain ⟨w, hw, _⟩ := r2.get (List.getElem?_eq_getElem (show i < es.length by omega))
    exact ⟨vs, ws, v, w, g, g2, hv, hw⟩
  yld := fun i H st x H' h e rs o y => by
    obtain ⟨vs, g, r⟩ := rs.rdL o.1
    obtain ⟨ws, g2, r2⟩ := rs.rdL o.2
    rw [zipD_len] at h
    obtain ⟨T, u, u2, rfl, hT, rfl, hx, hy⟩ := y
    have l1 := List.getElem?_eq_getElem (show i < ds.length by omega)
    have l2 := List.getElem?_eq_getElem (show i < es.length by omega)
    obtain ⟨v, hv, rv⟩ := r.get l1
    obtain ⟨w, hw, rw'⟩ := r2.get l2
    have e1 : v = u := Option.some.inj (hv.symm.trans (hx vs g))
    have e2 : w = u2 := Option.some.inj (hw.symm.trans (hy ws g2))
    subst e1 e2
    have ex : Ext H (upd H T (.tup [v, w])) := .upd_new hT
    refine ⟨_, zipD_get l1 l2, .tup (.of upd_same) (.cons (rv.mono ex) (.cons (rw'.mono ex) .nil)), fun b u hb => ?_⟩
    rw [upd_ne (ne_of_none hb hT)]
    exact hb
theorem src_zipT {K : PySem.W.Frag} {H0 : Hp} {a b : Addr} {ds es : List D} {vs ws : List V} {ok : Sto → Prop} (g0 : SqT K H0 a vs) (r0 : RelDs K H0 ds vs) (g1 : SqT K H0 b ws) (r1 : RelDs K H0 es ws) : SrcJ K H0 (zipD ds es) ok (RZ.ItzT K a b) where
  stop := fun i H st h e rs o => by
    rw [zipD_len] at h
    refine ⟨vs, ws, e.sqT g0, e.sqT g1, ?_⟩
    rw [← r0.length, ← r1.length]
    omega
  go := fun i H st h e rs o => by
    rw [zipD_len] at h
    obtain ⟨v, hv, _⟩ := r0.get (List.getElem?_eq_getElem (show i < ds.length by omega))
    obtain ⟨w, hw, _⟩ := r1.get (List.getElem?_eq_getElem (show i < es.length by omega))
    exact ⟨vs, ws, v, w, e.sqT g0, e.sqT g1, hv, hw⟩
  yld := fun i H st x H' h e rs o y => by
    rw [zipD_len] at h
    obtain ⟨T, u, u2, rfl, hT, rfl, hx, hy⟩ := y
    have l1 := List.getElem?_eq_getElem (show i < ds.length by omega)
    have l2 := List.getElem?_eq_getElem (show i < es.length by omega)
    obtain ⟨v, hv, rv⟩ := (r0.mono e).get l1
    obtain ⟨w, hw, rw'⟩ := (r1.mono e).get l2
    have e1 : v = u := Option.some.inj (hv.symm.trans (hx vs (e.sqT g0)))
    have e2 : w = u2 := Option.some.inj (hw.symm.trans (hy ws (e.sqT g1)))
    subst e1 e2
    have ex : Ext H (upd H T (.tup [v, w])) := .upd_new hT
    refine ⟨_, zipD_get l1 l2, .tup (.of upd_same) (.cons (rv.mono ex) (.cons (rw'.mono ex) .nil)), fun b u hb => ?_⟩
    rw [upd_ne (ne_of_none hb hT)]
    exact hb
def zpO : D → D → Sto → (List D → (Sto → Prop) → Sto → Prop) → Prop
  | .ref a, .ref b, st, Q => ∃ xs ys, rdL (st a) = some xs ∧ rdL (st b) = some ys ∧ Q (zipD xs ys) (fun st => rdL (st a) = some xs ∧ rdL (st b) = some ys) st
  | .tup xs, .tup ys, st, Q => Q (zipD xs ys) (fun _ => True) st
  | _, _, _, _ => False
def wZip (ma mb : ME) : MI := fun env st Q => ma env st fun x st1 => mb env st1 fun y st2 => zpO x y st2 Q
theorem di_zip {e e2 : Expr} {m m2 : ME} {p pos tpos : Pos} {elts : List Expr} {kk : Nat} (hg : Gl X "zip") (hm : X.mg "zip" = none) (he : DE X e m) (he2 : DE X e2 m2)
    (hs : starEach [e, e2] X.env = (false, eval e X.env) :: starEach [e2] X.env := by rfl) (hs2 : starEach [e2] X.env = (false, eval e2 X.env) :: starEach [] X.env := by rfl) (hpl : (backTo pos (starEach [e2] X.env)).any (·.1) = false := by rfl) :
    DI X (.Tuple elts kk tpos) (.Call (.Name "zip" p) [e, e2] [] pos) (wZip m m2) :=
  ⟨pi_mono (RZ.pi_zipA hg hm (pa_cons he.pe (pa_cons he2.pe pa_nil hs2) hs) hs hpl) fun σ H R ⟨env, st, Q0, re, rs, h, k⟩ =>
    lift_args2 (P := fun x y st => zpO x y st Q0) re rs h fun x y st1 x' y' H1 q ex rx ry rs1 => by
      cases x <;> cases y <;> try exact q.elim
      · cases rx; cases ry
        obtain ⟨xs, ys, h1, h2, q⟩ := q
        obtain ⟨vs, g, _⟩ := rs1.rdL h1
        obtain ⟨ws, g2, _⟩ := rs1.rdL h2
        exact ⟨_, _, vs, ws, rfl, .inl ⟨g, g2, k _ _ st1 _ H1 q ex rs1 src_zip⟩⟩
      · obtain ⟨a, vs, rfl, g, r⟩ := rx.tup_of
        obtain ⟨b, ws, rfl, g2, r2⟩ := ry.tup_of
        exact ⟨a, b, vs, ws, rfl, .inr ⟨g, g2, k _ _ st1 _ H1 q ex rs1 (src_zipT g r g2 r2)⟩⟩⟩
/-! ### dicts: {}, get, setdefault -/
def mDict0 : ME := fun _ st Q => ∀ p, Nf st p → Q (.ref p) (put st p (.dic []))
theorem de_dict0 {pos : Pos} : DE X (.Dict [] [] pos) mDict0 :=
  ⟨pe_mono pe_dnewK fun σ H Q ⟨env, st, Q0, re, rs, h, k⟩ => fun p hp => by
    have ex : Ext H (upd H p (.dK [])) := .upd_new hp
    exact k _ _ _ _ (h p (rs.fresh hp)) ex (.ref p) (rs.put (o := .dic []) ex ⟨[], upd_same, .nil⟩)⟩
def mGet1 (mo mi : ME) : ME := fun env st Q => mo env st fun x st1 => ∃ a kvs, x = .ref a ∧ rdD (st1 a) = some kvs ∧ mi env st1 fun y st2 => ∃ kvs2 k, rdD (st2 a) = some kvs2 ∧ keyD y = some k ∧ Q ((valD kvs2 k).getD .non) st2
def mGet2 (mo mi md : ME) : ME := fun env st Q => mo env st fun x st1 => ∃ a kvs, x = .ref a ∧ rdD (st1 a) = some kvs ∧ mi env st1 fun y st2 => md env st2 fun z st3 => ∃ kvs2 k, rdD (st3 a) = some kvs2 ∧ keyD y = some k ∧ Q ((valD kvs2 k).getD z) st3
def mSetd (mo mi md : ME) : ME := fun env st Q => mo env st fun x st1 => ∃ a kvs, x = .ref a ∧ rdD (st1 a) = some kvs ∧ mi env st1 fun y st2 => md env st2 fun z st3 => ∃ kvs2 k, st3 a = some (.dic kvs2) ∧ keyD y = some k ∧ kvs2.length < sizeLine ∧
  (∀ v, valD kvs2 k = some v → Q v st3) ∧ (valD kvs2 k = none → Q z (put st3 a (.dic (putD kvs2 k z))))
theorem RelX.getD {K : PySem.W.Frag} {H : Hp} {o : Option D} {o' : Option V} {d : D} {v : V} (r : RelX K H o o') (s : o.isSome = o'.isSome) (rd : RelD K H d v) : RelD K H (o.getD d) (o'.getD v) := by
  cases o with
  | none =>
    cases o' with
    | none => exact rd
    | some w => cases s
  | some e =>
    cases o' with
    | none => cases s
    | some w => exact r
theorem de_get1 (hu : X.A.units + 1 < cLine) {o e : Expr} {mo mi : ME} {apos cpos : Pos} (ho : DE X o mo) (he : DE X e mi) (m : L2.M1 X o "get" apos e cpos) : DE X (.Call (.Attribute o "get" apos) [e] [] cpos) (mGet1 mo mi) :=
  ⟨pe_mono (pe_dget1 hu ho.pe he.pe m) fun σ H Q ⟨env, st, Q0, re, rs, h, k⟩ => by
    refine lift_in re rs h fun x st1 x' H1 ⟨a, kvs, e1, e2, q1⟩ ex rx re1 rs1 => ?_
    subst e1
    cases rx
    obtain ⟨vs, g, r⟩ := rs1.rdD e2
    refine ⟨a, rfl, .inl ⟨vs, g⟩, ?_⟩
    refine lift_in re1 rs1 q1 fun y st2 y' H2 ⟨kvs2, kk, e3, ek, q2⟩ ex2 ry re2 rs2 => ?_
    obtain ⟨ws, g2, r2⟩ := rs2.rdD e3
    rw [key_rel ry ek]
    obtain ⟨rx, rs'⟩ := r2.valD kk
    exact ⟨_, .inl ⟨ws, kk, g2, rfl, rfl⟩, k _ st2 _ H2 q2 (ex.trans ex2) (rx.getD rs' .non) rs2⟩⟩
theorem de_get2 (hu : X.A.units + 1 < cLine) {o e f : Expr} {mo mi md : ME} {apos cpos : Pos} (ho : DE X o mo) (he : DE X e mi) (hf : DE X f md) (m : L2.M2 X o "get" apos e f cpos) : DE X (.Call (.Attribute o "get" apos) [e, f] [] cpos) (mGet2 mo mi md) :=
  ⟨pe_mono (pe_dget2 hu ho.pe he.pe hf.pe m) fun σ H Q ⟨env, st, Q0, re, rs, h, k⟩ => by
    refine lift_in re rs h fun x st1 x' H1 ⟨a, kvs, e1, e2, q1⟩ ex rx re1 rs1 => ?_
    subst e1
    cases rx
    obtain ⟨vs, g, r⟩ := rs1.rdD e2
    refine ⟨a, rfl, .inl ⟨vs, g⟩, ?_⟩
    refine lift_in re1 rs1 q1 fun y st2 y' H2 q2 ex2 ry re2 rs2 => ?_
    refine lift_in re2 rs2 q2 fun z st3 z' H3 ⟨kvs2, kk, e3, ek, q3⟩ ex3 rz re3 rs3 => ?_
    obtain ⟨ws, g2, r2⟩ := rs3.rdD e3
    rw [key_rel (ry.mono ex3) ek]
    obtain ⟨rx, rs'⟩ := r2.valD kk
    exact ⟨_, .inl ⟨ws, kk, g2, rfl, rfl⟩, k _ st3 _ H3 q3 (ex.trans (ex2.trans ex3)) (rx.getD rs' rz) rs3⟩⟩
theorem de_setd {o e f : Expr} {mo mi md : ME} {apos cpos : Pos} (ho : DE X o mo) (he : DE X e mi) (hf : DE X f md) (m : L2.M2 X o "setdefault" apos e f cpos) : DE X (.Call (.Attribute o "setdefault" apos) [e, f] [] cpos) (mSetd mo mi md) :=
  ⟨pe_mono (pe_dsetd ho.pe he.pe hf.pe m) fun σ H Q ⟨env, st, Q0, re, rs, h, k⟩ => by
    refine lift_in re rs h fun x st1 x' H1 ⟨a, kvs, e1, e2, q1⟩ ex rx re1 rs1 => ?_
    subst e1
    cases rx
    obtain ⟨vs, g, r⟩ := rs1.rdD e2
    refine ⟨a, rfl, .inl ⟨vs, g⟩, ?_⟩
    refine lift_in re1 rs1 q1 fun y st2 y' H2 q2 ex2 ry re2 rs2 => ?_
    refine lift_in re2 rs2 q2 fun z st3 z' H3 ⟨kvs2, kk, e3, ek, hl, q3, q4⟩ ex3 rz re3 rs3 => ?_
    obtain ⟨ws, g2, r2⟩ := rs3 _ _ e3
    have ey := key_rel (ry.mono ex3) ek
    obtain ⟨rx, rs'⟩ := r2.valD kk
    have exu : ∀ u, Ext H3 (upd H3 a u) := fun u => .upd_mut (by rw [g2]; trivial)
    refine ⟨ws, kk, g2, ey, by rw [r2.length]; exact hl, fun v hv => ?_, fun hv => ?_⟩
    · rw [hv] at rx rs'
      cases hd : valD kvs2 kk with
      | none => rw [hd] at rs'; cases rs'
      | some d =>
        rw [hd] at rx
        exact k _ st3 _ H3 (q3 d hd) (ex.trans (ex2.trans ex3)) rx rs3
    · rw [hv] at rs'
      have hd : valD kvs2 kk = none := by
        cases hd : valD kvs2 kk with
        | none => rfl
        | some d => rw [hd] at rs'; cases rs'
      exact k _ _ _ _ (q4 hd) ((ex.trans (ex2.trans ex3)).trans (exu _)) (rz.mono (exu _)) (rs3.put (o := .dic (putD kvs2 kk z)) (exu _) ⟨_, upd_same, (r2.put kk rz).mono (exu _)⟩)⟩
/-- xs.index(y), y there -/
def oIndex : MM
  | .ref a, [y], st, Q => ∃ xs j z, rdL (st a) = some xs ∧ flatD y = true ∧ xs.all flatD = true ∧ xs[j]? = some z ∧ eqF z y = true ∧ (∀ (m : Nat) (z' : D), m < j → xs[m]? = some z' → eqF z' y = false) ∧ Q (.int (j : Nat)) st
  | _, _, _, _ => False
theorem dm_index : DM X "list.index" oIndex :=
  ⟨mtr_mono mt_index fun x xs H Q ⟨dx, ds, st, Q0, rx, rxs, rs, h, k⟩ => by
    unfold oIndex at h
    split at h
    · cases rx
      cases rxs with
      | cons ry t =>
        cases t
        obtain ⟨ys, j, z, e, f1, f2, hj, e1, e2, q⟩ := h
        obtain ⟨vs, g, r⟩ := rs.rdL e
        obtain ⟨v, hv, rv⟩ := r.get hj
        have fz : ∀ m d, ys[m]? = some d → flatD d = true := fun m d hd => List.all_eq_true.mp f2 d (List.mem_of_getElem? hd)
        refine ⟨_, vs, _, j, v, rfl, rfl, g, flat_rel ry f1, flats_rel r f2, hv, by rw [eqF_rel rv ry (fz _ _ hj) f1]; exact e1, fun m w hm hw => ?_, k _ st _ H q .refl (.int _) rs⟩
        obtain ⟨d, hd, rd⟩ := r.getV hw
        rw [eqF_rel rd ry (fz _ _ hd) f1]
        exact e2 m d hm hd
    · exact h.elim⟩
end
end L2.DL

/-! enumerate of a tuple -/
namespace EnT
open PySem PySem.Spec PyProof.Rows L2
open Sem (wp)
open AutoSeq1 (wpAny_loadPart')
theorem new1 {v : Value} {o : Obj} {H : Heap → Prop} (B : Begins v o H) :
    Meets (Builtin.«enumerate.__new__» ⟨[.type "enumerate", v], []⟩) (fun _ R s => H s.heap ∧
      R (.ok (.ret (.ref (s.heap.push o).objs.size))) { s with heap := (s.heap.push o).push { cls := .type "enumerate", data := .fields #[.none, .bool false, .ref s.heap.objs.size, rawInt 0, .none, .none] } }) :=
  .of_wp fun prog w A R s h => by
    obtain ⟨hp, g, d, tk, os⟩ := s
    obtain ⟨h1, h⟩ := h
    have hsub := sub_enumerate
    have q1 : ∀ {A' : Around} {E : Value → Shared → Prop} {Q : Value → Shared → Prop}, Q (.ref hp.objs.size) ⟨hp.push o, g, d, tk, os⟩ → wpAny (model prog w) A' (pyIter v) Q E ⟨hp, g, d, tk, os⟩ :=
      fun q => B.iter prog w _ _ ⟨hp, g, d, tk, os⟩ _ h1 q
    wp_walk using q1
    refine wpAny_stack_any fun st => wpAny_pure ?_
    split
    · rename_i c _ _ _ _ _
      cases (c == Value.type "enumerate") <;> (wp_walk using q1; exact ⟨_, rfl, h⟩)
    · wp_walk using q1
      exact ⟨_, rfl, h⟩
section
variable {prog : Program} {w : World} {A : Around} {E : Value → Shared → Prop} {s : Shared}
theorem begins1 {v : Value} {o : Obj} {H : Heap → Prop} {Q : Value → Shared → Prop} (B : Begins v o H) (h1 : H s.heap)
    (h : ∀ h', IsEnum h' (s.heap.objs.size + 1) s.heap.objs.size 0 .none → h'.get? s.heap.objs.size = some o → h'.objs.size = s.heap.objs.size + 2 →
      (∀ b ob, s.heap.get? b = some ob → h'.get? b = some ob) → Q (.ref (s.heap.objs.size + 1)) { s with heap := h' }) :
    wpAny (model prog w) A (call (.type "enumerate") [v]) Q E s := by
  refine callType_new F.called_enumerate (by decide) (F.typeCall_enumerate_1 _) (F.newCall_enumerate_1 _) (fun obj => F.args_object_init_2 obj _) F.entry_enumerate_new (new1 B) ⟨h1, ?_⟩
  have hz : (s.heap.push o).objs.size = s.heap.objs.size + 1 := Heap.size_push ..
  have he := Heap.get?_push_size (s.heap.push o) (o := { cls := .type "enumerate", data := .fields #[.none, .bool false, .ref s.heap.objs.size, rawInt 0, .none, .none] }) rfl
  show _ ∧ _
  rw [hz] at he ⊢
  exact ⟨⟨_, he, rfl⟩, h _ he (Heap.get?_push_of_some _ (Heap.get?_push_size _ B.free)) (by rw [Heap.size_push, hz]) fun b ob x => Heap.get?_push_of_some _ (Heap.get?_push_of_some _ x)⟩
end
section
variable {prog : Program} {w : World} {A : Around} {E : Value → Shared → Prop} {s : Shared}
theorem end1 {e it t : Addr} {items : Array Value} {i : Nat} {k : Int} {old : Value} {Q : Option Value → Shared → Prop} (hh : A.handled = none) (he : IsEnum s.heap e it k old) (hit : s.heap.IsTupleIter it t i) (ht : s.heap.IsTuple t items) (hx : items[i]? = none)
    (hQ : ∀ h', Heap.ExtBut it s.heap h' → Q none { s with heap := h' }) : wpAny (model prog w) A (pyNext (.ref e)) Q E s := by
  have hT : s.TypeIs (.ref e) "enumerate" := ⟨_, he, rfl⟩
  unfold pyNext
  refine wpAny_bind (wpAny_attempt (wpAny_callSpecial?_slot (name := Str.ofString "__next__") hT F.slot_enumerate_next
    (wpAny_call_entry F.slot_enumerate_next hT F.entry_enumerate_next ?_ (F.args_enumerate_next_1 _))))
  show wpAny _ _ (field (.ref e) 2 >>= _) _ _ _
  refine wpAny_bind (wpAny_field he rfl (x := .ref it) rfl ?_)
  refine wpAny_bind (wpAny_nextOf_tuple_end hh hit ht hx fun h' x q hc => ?_)
  obtain ⟨o, ho, hc⟩ := hc
  refine wpAny_bind (wpAny_isInstance (T := "StopIteration") (b := true) ⟨o, ho, hc⟩ isSubtype_stop ?_)
  exact wpAny_pure (hQ _ q)
end
/-- the tuple at a, each item in a new pair -/
def Ie (K : PySem.W.Frag) (a : Addr) : It :=
  ⟨fun i H => ∃ (xs : List V) (x : V), SqT K H a xs ∧ xs[i]? = some x, fun i H v H' => ∃ T x, v = .ref T ∧ H T = none ∧ H' = upd H T (.tup [.int (i : Nat), x]) ∧ ∀ xs, SqT K H a xs → xs[i]? = some x, fun i H => ∃ xs : List V, SqT K H a xs ∧ xs.length ≤ i⟩
theorem turn {P : Program} {w : World} {K : PySem.W.Frag} {elts : List Expr} {kk : Nat} {tpos : Pos} (a e it : Addr) :
    Turn P w K (.Tuple elts kk tpos) (Ie K a) [e, it] e (fun i h => (∃ old, IsEnum h e it ((i : Nat) : Int) old) ∧ h.IsTupleIter it a i ∧ e ≠ it) where
  mem := by simp
  obj := fun i h st b hb => by
    obtain ⟨⟨old, he⟩, ⟨o, ho, hc, hd⟩, _⟩ := st
    have e' : b = e ∨ b = it := by simpa using hb
    rcases e' with z | z
    · subst z; exact ⟨_, he, fun v q => nomatch q⟩
    · subst z; exact ⟨o, ho, fun v q => by rw [hd] at q; cases q⟩
  keep := fun i h h' st k => let ⟨⟨old, he⟩, hi, hne⟩ := st; ⟨⟨old, k e (by simp) _ he⟩, hi.at fun o q => k it (by simp) o q, hne⟩
  item := by
    intro X hP hw hK hc i pins s σ H E I hf st hg
    subst hP hw hK
    obtain ⟨⟨old, he⟩, hit, hne⟩ := st
    obtain ⟨xs, x, hq, hx⟩ := hg
    obtain ⟨its, rv, p, hz⟩ := I.tuple hq
    obtain ⟨u, hu, ru⟩ := rv.get hx
    have hel : e < s.heap.objs.size := Heap.lt_size he
    have hil : it < s.heap.objs.size := by obtain ⟨_, q, _⟩ := hit; exact Heap.lt_size q
    have hp : s.heap.IsTuple a its.toArray := p
    have ai : a ≠ it := by
      rintro rfl
      obtain ⟨o1, q1, c1, _⟩ := hit
      obtain ⟨o2, q2, c2, _⟩ := hp
      rw [q1] at q2
      cases q2
      rw [c1] at c2
      exact absurd (Value.type.inj c2) (by decide)
    have ae : e ≠ a := by
      rintro rfl
      obtain ⟨o2, q2, c2, _⟩ := hp
      have q1 : s.heap.get? e = _ := he
      rw [q1] at q2
      cases q2
      exact absurd (Value.type.inj c2) (by decide)
    have hlt : i < its.toArray.size := by
      have := (List.getElem?_eq_some_iff.mp hu).1
      simpa using this
    refine wpAny_pyNext_enum_itemD (Draws.tuple (A := X.A.in1) (I.ok.hd hc) it a ai its.toArray) he ⟨hit, hp⟩ hlt hne (by simp [hne, ae]) fun u' h' tk hu' ho st' hT hsz hk => ?_
    obtain ⟨hit', _⟩ := st'
    have eu : u' = u := by
      have h1 : its.toArray[i]? = some u := by simpa using hu
      exact Option.some.inj (hu'.symm.trans h1)
    subst eu
    refine ⟨_, rfl, wpAny_letOwnedTupleGo_enum (s := { s with heap := h', toks := tk + 1 }) ho fun h'' he' sb => ?_⟩
    have hT2 := (sb.2 _ (Nat.ne_of_gt hel)).trans hT
    have new : ObjOk X.prog X.w (upd H s.heap.objs.size (.tup [.int (i : Nat), x])) h'' s.heap.objs.size (.tup [.int (i : Nat), x]) :=
      ⟨by show 2 ≤ sizeLine; decide, [.int i tk, u'], .cons ⟨_, rfl⟩ (.cons ru .nil), ⟨_, hT2, rfl, _, rfl⟩⟩
    have I1 : Inv X pins σ (upd H s.heap.objs.size (.tup [.int (i : Nat), x])) { s with heap := h'', toks := tk + 1 } :=
      I.turnedNew (ch := [e, it]) (fun b ob hb q => (sb.2 b (fun z => hb (by simp [z]))).trans (hk b ob (fun z => hb (by simp [z])) (fun z => hb (by simp [z])) q)) hf (Nat.le_refl _) new
    refine ⟨.ref s.heap.objs.size, _, I1, rfl, ⟨_, x, rfl, I.hok.fresh (Nat.le_refl _), rfl, fun ys hy => by rw [I.tuple_inj hy hq]; exact hx⟩, ⟨⟨u', ?_⟩, hit'.at fun o q => (sb.2 it (Ne.symm hne)).trans q, hne⟩, fun b hb => ?_⟩
    · have e1 : ((i + 1 : Nat) : Int) = (i : Int) + 1 := by omega
      rw [e1]
      exact he'
    · have hb' : b < s.heap.objs.size := by
        have e' : b = e ∨ b = it := by simpa using hb
        rcases e' with z | z
        · subst z; exact hel
        · subst z; exact hil
      rw [upd_ne (Nat.ne_of_lt hb')]
      exact (hf b hb).1
  done := by
    intro X hP hw hK hc i pins s σ H E I hf st hg
    subst hP hw hK
    obtain ⟨⟨old, he⟩, hit, hne⟩ := st
    obtain ⟨xs, hq, hx⟩ := hg
    obtain ⟨its, rv, p, hz⟩ := I.tuple hq
    have hp : s.heap.IsTuple a its.toArray := p
    obtain ⟨f0, f1, f2, f3, f4, f5⟩ := hf it (by simp)
    have hl := rv.length
    exact end1 (I.ok.hd hc) he hit hp (by simp; omega) fun h' eb => ⟨rfl, I.turned (t' := s.toks) (fun b o hb q => eb b o hb q) f0 f1 f3 f4 f5⟩
  self := fun A i s Q E st h => let ⟨⟨_, he⟩, _⟩ := st; wpAny_pyIter_enum he h
theorem pi_tup {X : Cx} {e : Expr} {te : TE} {p pos tpos : Pos} {elts : List Expr} {kk : Nat} (hg : Gl X "enumerate") (hm : X.mg "enumerate" = none) (he : PE X e te) (hs : starEach [e] X.env = [(false, eval e X.env)] := by rfl) :
    PI X (.Tuple elts kk tpos) (.Call (.Name "enumerate" p) [e] [] pos) (fun σ H R => te σ H fun x H1 => (∃ a xs, x = .ref a ∧ SqL X.K H1 a xs ∧ R (Ite X.K a) H1) ∨ (∃ a xs, x = .ref a ∧ SqT X.K H1 a xs ∧ R (Ie X.K a) H1)) := by
  refine ⟨fun pins s σ H R I h => ?_⟩
  refine Call_ (ld_blt I hg hm boot_enumerate (PyProof.Rows.callWith_type1 (thn ((pa_cons he pa_nil hs).run pos pins s σ H (fun vs H1 => match vs with
    | [x] => (∃ a xs, x = .ref a ∧ SqL X.K H1 a xs ∧ R (Ite X.K a) H1) ∨ (∃ a xs, x = .ref a ∧ SqT X.K H1 a xs ∧ R (Ie X.K a) H1)
    | _ => False) I h) fun us s1 ⟨vs, H1, I1, r1, q1⟩ => ?_) hs rfl))
  · cases r1 with
    | nil => exact q1.elim
    | cons r rr =>
      cases rr with
      | cons _ _ => exact q1.elim
      | nil =>
      rcases q1 with ⟨a, xs, rfl, hq, q⟩ | ⟨a, xs, rfl, hq, q⟩
      · cases r
        obtain ⟨its, rv, p', hz⟩ := I1.list hq
        refine begins1 (begins_list a its.toArray) p'.isList fun h' he hit hsz hk => wpAny_pyIter_enum he ?_
        have I2 : Inv X pins σ H1 { s1 with heap := h' } := I1.kept (t' := s1.toks) hk
        refine ⟨s1.heap.objs.size + 1, [s1.heap.objs.size + 1, s1.heap.objs.size], _, _, H1, rfl, I2, turn_enum a (s1.heap.objs.size + 1) s1.heap.objs.size, ⟨⟨.none, he⟩, ⟨_, hit, rfl, rfl⟩, Nat.succ_ne_self _⟩, fun b hb => ?_, q⟩
        have e' : b = s1.heap.objs.size + 1 ∨ b = s1.heap.objs.size := by simpa using hb
        have hle : s1.heap.objs.size ≤ b := by rcases e' with z | z <;> rw [z] <;> omega
        exact I1.fpOk hle (I1.hok.fresh hle)
      · cases r
        obtain ⟨its, rv, p', hz⟩ := I1.tuple hq
        have hp : s1.heap.IsTuple a its.toArray := p'
        refine begins1 (begins_tuple a its.toArray) hp fun h' he hit hsz hk => wpAny_pyIter_enum he ?_
        have I2 : Inv X pins σ H1 { s1 with heap := h' } := I1.kept (t' := s1.toks) hk
        refine ⟨s1.heap.objs.size + 1, [s1.heap.objs.size + 1, s1.heap.objs.size], _, _, H1, rfl, I2, turn a (s1.heap.objs.size + 1) s1.heap.objs.size, ⟨⟨.none, he⟩, ⟨_, hit, rfl, rfl⟩, Nat.succ_ne_self _⟩, fun b hb => ?_, q⟩
        have e' : b = s1.heap.objs.size + 1 ∨ b = s1.heap.objs.size := by simpa using hb
        have hle : s1.heap.objs.size ≤ b := by rcases e' with z | z <;> rw [z] <;> omega
        exact I1.fpOk hle (I1.hok.fresh hle)
end EnT
namespace L2.DL
open PySem PySem.Spec PyProof.Rows
theorem src_enumT {K : PySem.W.Frag} {H0 : Hp} {a : Addr} {ds : List D} {vs : List V} {ok : Sto → Prop} (g0 : SqT K H0 a vs) (r0 : RelDs K H0 ds vs) : SrcJ K H0 (enumD ds) ok (EnT.Ie K a) where
  stop := fun i H st h e rs o => by
    rw [enumD_len] at h
    exact ⟨vs, e.sqT g0, by rw [← r0.length]; exact h⟩
  go := fun i H st h e rs o => by
    rw [enumD_len] at h
    obtain ⟨v, hv, _⟩ := r0.get (List.getElem?_eq_getElem h)
    exact ⟨vs, v, e.sqT g0, hv⟩
  yld := fun i H st x H' h e rs o y => by
    rw [enumD_len] at h
    obtain ⟨T, u, rfl, hT, rfl, hx⟩ := y
    obtain ⟨v, hv, rv⟩ := (r0.mono e).get (List.getElem?_eq_getElem h)
    have e1 : v = u := Option.some.inj (hv.symm.trans (hx vs (e.sqT g0)))
    subst e1
    have ex : Ext H (upd H T (.tup [.int (i : Nat), v])) := .upd_new hT
    refine ⟨_, enumD_get (List.getElem?_eq_getElem h), .tup (.of upd_same) (.cons (.int _) (.cons (rv.mono ex) .nil)), fun b u hb => ?_⟩
    rw [upd_ne (ne_of_none hb hT)]
    exact hb
def enO : D → Sto → (List D → (Sto → Prop) → Sto → Prop) → Prop
  | .ref a, st, Q => ∃ xs, rdL (st a) = some xs ∧ Q (enumD xs) (fun st => rdL (st a) = some xs) st
  | .tup xs, st, Q => Q (enumD xs) (fun _ => True) st
  | _, _, _ => False
def wEnum (m : ME) : MI := fun env st Q => m env st fun x st1 => enO x st1 Q
theorem di_enum {X : Cx} {e : Expr} {m : ME} {p pos tpos : Pos} {elts : List Expr} {kk : Nat} (hg : Gl X "enumerate") (hm : X.mg "enumerate" = none) (he : DE X e m) (hs : starEach [e] X.env = [(false, eval e X.env)] := by rfl) :
    DI X (.Tuple elts kk tpos) (.Call (.Name "enumerate" p) [e] [] pos) (wEnum m) :=
  ⟨pi_mono (EnT.pi_tup hg hm he.pe hs) fun σ H R ⟨env, st, Q0, re, rs, h, k⟩ =>
    lift_in re rs h fun x st1 x' H1 q ex rx re1 rs1 => by
      cases x <;> try exact q.elim
      · cases rx
        obtain ⟨xs, e2, q⟩ := q
        obtain ⟨vs, g, r⟩ := rs1.rdL e2
        exact .inl ⟨_, vs, rfl, g, k _ _ st1 _ H1 q ex rs1 src_enum⟩
      · obtain ⟨a, vs, rfl, g, r⟩ := rx.tup_of
        exact .inr ⟨a, vs, rfl, g, k _ _ st1 _ H1 q ex rs1 (src_enumT g r)⟩⟩
theorem wEnum_a {m : ME} {env : Env} {st : Sto} {Q : List D → (Sto → Prop) → Sto → Prop} : wEnum m env st Q = m env st fun x st1 => enO x st1 Q := rfl
theorem enO_tup {xs : List D} {st : Sto} {Q : List D → (Sto → Prop) → Sto → Prop} : enO (.tup xs) st Q = Q (enumD xs) (fun _ => True) st := rfl
theorem enO_ref {a : Addr} {st : Sto} {Q : List D → (Sto → Prop) → Sto → Prop} : enO (.ref a) st Q = rdO (st a) fun xs => Q (enumD xs) (fun st => rdL (st a) = some xs) st := rdO_eq
/-- ranges, by their bounds -/
theorem wRng2_b {ma mb : ME} {env : Env} {st : Sto} {Q : List D → (Sto → Prop) → Sto → Prop} : wRng2 ma mb env st Q = ma env st fun x st1 => mb env st1 fun y st2 => iAt x st2 fun i st3 => iAt y st3 fun j st4 => (-(2 ^ 62) ≤ i ∧ i < 2 ^ 62 ∧ -(2 ^ 62) ≤ j ∧ j < 2 ^ 62) ∧ Q (rangeD i (j - i).toNat) (fun _ => True) st4 := by
  have e : (fun x st1 => mb env st1 fun y st2 => ∃ i j, x = D.int i ∧ y = D.int j ∧ (-(2 ^ 62) ≤ i ∧ i < 2 ^ 62 ∧ -(2 ^ 62) ≤ j ∧ j < 2 ^ 62) ∧ Q (rangeD i (j - i).toNat) (fun _ => True) st2) = fun x st1 => mb env st1 fun y st2 => iAt x st2 fun i st3 => iAt y st3 fun j st4 => (-(2 ^ 62) ≤ i ∧ i < 2 ^ 62 ∧ -(2 ^ 62) ≤ j ∧ j < 2 ^ 62) ∧ Q (rangeD i (j - i).toNat) (fun _ => True) st4 := by
    funext x st1
    congr 1
    funext y st2
    cases x <;> cases y <;> simp [iAt]
  unfold wRng2
  rw [e]
theorem wRng3_b {ma mb mc : ME} {env : Env} {st : Sto} {Q : List D → (Sto → Prop) → Sto → Prop} : wRng3 ma mb mc env st Q = ma env st fun x st1 => mb env st1 fun y st2 => mc env st2 fun z st3 => iAt x st3 fun i st4 => iAt y st4 fun j st5 => iAt z st5 fun c st6 => ∃ n, RgC i j c n ∧ Q (stepD i c n) (fun _ => True) st6 := by
  have e : (fun x st1 => mb env st1 fun y st2 => mc env st2 fun z st3 => ∃ i j c n, x = D.int i ∧ y = D.int j ∧ z = D.int c ∧ RgC i j c n ∧ Q (stepD i c n) (fun _ => True) st3) = fun x st1 => mb env st1 fun y st2 => mc env st2 fun z st3 => iAt x st3 fun i st4 => iAt y st4 fun j st5 => iAt z st5 fun c st6 => ∃ n, RgC i j c n ∧ Q (stepD i c n) (fun _ => True) st6 := by
    funext x st1
    congr 1
    funext y st2
    congr 1
    funext z st3
    cases x <;> cases y <;> cases z <;> simp [iAt]
  unfold wRng3
  rw [e]
end L2.DL

/-! sets of texts: made of a list, sorted -/
namespace TxS
open PySem PySem.Spec PyProof.Rows L2
def kOf (e : Int × Value) : Str := match e.2 with
  | .str k _ => k
  | _ => ⟨#[]⟩
def Gd (w : World) (e : Int × Value) : Prop := ∃ k u, e = (hashStr w k, Value.str k u)
/-- the set of texts at a: its members, in some order -/
structure Is (w : World) (h : Heap) (a : Addr) (L : List Str) (o : Obj) (es : Array (Int × Value)) (ep : Nat) (t : SetTable) : Prop where
  ob : h.get? a = some o
  ex : o.ExactSet
  dat : o.data = .set es ep t
  good : ∀ e ∈ es.toList, Gd w e
  keys : (es.toList.map kOf).Perm L
  nd : L.Nodup
  few : es.size < scanBound
  fit : t.fits es.size = true
  ris : Ris t.place.toList
  led : w.params.followText "set-order" = true ∨ t.led = true
def At (w : World) (h : Heap) (a : Addr) (L : List Str) : Prop := ∃ o es ep t, Is w h a L o es ep t
theorem Is.size {w : World} {h : Heap} {a : Addr} {L : List Str} {o : Obj} {es : Array (Int × Value)} {ep : Nat} {t : SetTable} (R : Is w h a L o es ep t) : es.size = L.length := by
  rw [← R.keys.length_eq, List.length_map, Array.length_toList]
theorem At.keep {w : World} {h h' : Heap} {a : Addr} {L : List Str} (R : At w h a L) (k : ∀ o, h.get? a = some o → h'.get? a = some o) : At w h' a L := by
  obtain ⟨o, es, ep, t, r⟩ := R
  exact ⟨o, es, ep, t, { r with ob := k o r.ob }⟩
section
variable {P : Program} {w : World}
theorem isK (k : Str) (u : Tok) : (strKind P w).is k (.str k u) = true := by
  show Value.isStrOf k (.str k u) = true
  simp [Value.isStrOf]
theorem is_iff {e : Int × Value} (g : Gd w e) (k : Str) : (strKind P w).is k e.2 = true ↔ kOf e = k := by
  obtain ⟨k0, u, rfl⟩ := g
  constructor
  · intro h
    exact (strKind P w).inj _ _ _ (isK (P := P) (w := w) k0 u) h
  · intro h
    have h' : k0 = k := h
    rw [← h']
    exact isK _ _
theorem elems {l : List (Int × Value)} (g : ∀ e ∈ l, Gd w e) : ElemsOf (strKind P w) l := fun e he => by
  obtain ⟨k, u, rfl⟩ := g e he
  exact ⟨⟨k, isK k u, rfl⟩, rfl⟩
end
section
variable {P : Program} {w : World} {A : Around} {E : Value → Shared → Prop} {s : Shared} {a : Addr} {L : List Str}
/-- behind the entry: the table may grow -/
theorem tail {f : Bool → Sem Unit} (hf : ∀ (b : Bool) (s₁ : Shared) (Q' : Unit → Shared → Prop), Q' () s₁ → wpAny (model P w) A (f b) Q' E s₁) {o : Obj} {es : Array (Int × Value)} {ep : Nat} {t : SetTable}
    (ho : s.heap.get? a = some o) (hx : o.ExactSet) (hd : o.data = .set es ep t) {fs : Array (Int × Value)} {u : SetTable} (gd : ∀ e ∈ fs.toList, Gd w e) (ks : (fs.toList.map kOf).Perm L) (nd : L.Nodup)
    (few : fs.size < scanBound) (fit : u.fits fs.size = true) (ri : Ris u.place.toList) (ld : w.params.followText "set-order" = true ∨ u.led = true) {dm : Bool} {R : Option Bool → Shared → Prop}
    (fin : ∀ h', Heap.SameBut a s.heap h' → At w h' a L → R (some true) { s with heap := h' }) :
    wpAny (model P w) A (do
        storeSet a fs u
        if (!dm && u.tooFull) = true then do
            f (relayAll u fs (SetTable.grown fs.size)).2.2
            storeSet a (relayAll u fs (SetTable.grown fs.size)).1 (relayAll u fs (SetTable.grown fs.size)).2.1
            pure (some true)
          else pure (some true)) R E s := by
  refine wpAny_bind (wpAny_storeSet_of ho hd ?_ (fits_of_scanBound few))
  have at1 := PpSet.storeB_at (es' := fs) (t' := u) ho hd
  have same := Heap.SameBut.update s.heap a (Obj.putSet fs u)
  split
  · have p := relayAll_perm u fs (SetTable.grown fs.size)
    have p1 := relayAll_fits u fs (SetTable.grown fs.size)
    have p2 := relayAll_ris u fs (SetTable.grown fs.size)
    have p3 := relayAll_led u fs (SetTable.grown fs.size)
    generalize relayAll u fs (SetTable.grown fs.size) = Z at p p1 p2 p3 ⊢
    obtain ⟨gs, v, gave⟩ := Z
    dsimp only at p p1 p2 p3 ⊢
    have sz : gs.size = fs.size := by rw [← Array.length_toList, p.length_eq, Array.length_toList]
    have few2 : gs.size < scanBound := by rw [sz]; exact few
    refine wpAny_bind (hf _ _ _ (wpAny_bind (wpAny_storeSet_of at1 rfl ?_ (fits_of_scanBound few2))))
    have at2 := PpSet.storeB_at (es' := gs) (t' := v) at1 rfl
    exact wpAny_pure (fin _ (same.trans (Heap.SameBut.update _ a _)) ⟨_, gs, _, v, at2, hx, rfl, fun e he => gd e (p.mem_iff.mp he), (p.map kOf).trans ks, nd, few2, p1, p2, ld.imp id fun z => by rw [p3]; exact z⟩)
  · exact wpAny_pure (fin _ same ⟨_, fs, _, u, at1, hx, rfl, gd, ks, nd, few, fit, ri, ld⟩)
/-- one text is added -/
theorem add {k : Str} {u : Tok} {Q : Bool → Shared → Prop} (R : At w s.heap a L) (room : L.length + 1 < scanBound)
    (fin : ∀ h' b, Heap.SameBut a s.heap h' → At w h' a (if k ∈ L then L else k :: L) → Q b { s with heap := h' }) :
    wpAny (model P w) A (setAddHashed a (.str k u) ((strKind P w).hash k)) Q E s := by
  obtain ⟨o, es, ep, t, R⟩ := R
  have el : ElemsOf (strKind P w) es.toList := elems R.good
  have scn : (Value.str k u).scannable = true := rfl
  unfold setAddHashed setAddHashedIn
  refine wpAny_holding (wpAny_bind (wpAny_setState_of R.ob R.dat R.fit ?_))
  dsimp only
  rw [byScan_of scn R.few el]
  simp only [↓reduceIte]
  unfold setAddByScan
  refine wpAny_bind (wpAny_bind (wpAny_rule (wpAny_bind (wpAny_setScan_of (isK (P := P) (w := w) k u) R.ob R.dat R.fit el ?_))))
  cases fi : List.findIdx? (fun e => (strKind P w).is k e.2) es.toList with
  | some j =>
    dsimp only
    obtain ⟨hj, pj, _⟩ := List.findIdx?_eq_some_iff_getElem.mp fi
    have mem : k ∈ L := R.keys.mem_iff.mp (List.mem_map.mpr ⟨es.toList[j], List.getElem_mem hj, (is_iff (R.good _ (List.getElem_mem hj)) k).mp pj⟩)
    have q := fin s.heap false (Heap.SameBut.refl a s.heap) (by rw [if_pos mem]; exact ⟨o, es, ep, t, R⟩)
    exact wpAny_pure (wpAny_pure q)
  | none =>
    dsimp only
    have out : k ∉ es.toList.map kOf := fun z => by
      obtain ⟨e, he, q⟩ := List.mem_map.mp z
      have c := List.findIdx?_eq_none_iff.mp fi e he
      rw [(is_iff (P := P) (R.good e he) k).mpr q] at c
      cases c
    have outL : k ∉ L := fun z => out (R.keys.mem_iff.mpr z)
    have quiet : ∀ (b : Bool) {s₁ : Shared} {Q' : Unit → Shared → Prop}, Q' () s₁ → wpAny (model P w) A (match b with | true => rule "set.scan.the-table-gave-way" | false => pure ()) Q' E s₁ :=
      fun b s₁ Q' q => by
        cases b
        · exact wpAny_pure q
        · exact wpAny_rule q
    have p := layNew_perm t es ((strKind P w).hash k) (.str k u)
    have p1 := layNew_fits t es ((strKind P w).hash k) (.str k u)
    have p2 := layNew_ris t es ((strKind P w).hash k) (.str k u) R.ris
    have p3 := layNew_led t es ((strKind P w).hash k) (.str k u)
    generalize layNew t es ((strKind P w).hash k) (.str k u) = Z at p p1 p2 p3 ⊢
    obtain ⟨fs, t1, dm, gave⟩ := Z
    dsimp only at p p1 p2 p3 ⊢
    rw [Array.toList_push] at p
    have pc : fs.toList.Perm (((strKind P w).hash k, Value.str k u) :: es.toList) := p.trans (List.perm_append_singleton _ _)
    have pk : (fs.toList.map kOf).Perm (k :: L) := (pc.map kOf).trans (R.keys.cons k)
    have gd : ∀ e ∈ fs.toList, Gd w e := fun e he => by
      rcases List.mem_cons.mp (pc.mem_iff.mp he) with z | z
      · exact ⟨k, u, z⟩
      · exact R.good e z
    have nd : (k :: L).Nodup := List.nodup_cons.mpr ⟨outL, R.nd⟩
    have sz : fs.size = L.length + 1 := by rw [← Array.length_toList, pc.length_eq, List.length_cons, Array.length_toList, R.size]
    have few : fs.size < scanBound := by rw [sz]; exact room
    have ld : w.params.followText "set-order" = true ∨ t1.led = true := R.led.imp id fun z => by rw [p3]; exact z
    have done : ∀ h', Heap.SameBut a s.heap h' → At w h' a (k :: L) → Q true { s with heap := h' } := fun h' sb r => fin h' true sb (by rw [if_neg outL]; exact r)
    refine wpAny_bind (quiet _ ?_)
    split
    · refine wpAny_bind ?_
      rw [hashByValue_scannable 8 scn]
      refine wpAny_pure (tail ?_ R.ob R.ex R.dat gd pk nd few ?_ ?_ ?_ ?_)
      · exact fun b s₁ Q' q => quiet b q
      · first | (split <;> first | exact p1 | exact SetTable.fits_plain_off p1) | exact p1
      · first | (split <;> exact p2) | exact p2
      · first | (split <;> exact ld) | exact ld
      · exact fun h' sb r => wpAny_pure (done h' sb r)
    · refine wpAny_bind (wpAny_pure ?_)
      simp only [↓reduceIte]
      refine tail ?_ R.ob R.ex R.dat gd pk nd few p1 p2 ld ?_
      · exact fun b s₁ Q' q => quiet b q
      · exact fun h' sb r => wpAny_pure (done h' sb r)
end

/-! ### made of a list of texts -/
/-- the texts met so far, each once -/
def met : List Str → List Str → List Str
  | L, [] => L
  | L, k :: r => met (if k ∈ L then L else k :: L) r
theorem met_snoc : ∀ (r L : List Str) (k : Str), met L (r ++ [k]) = if k ∈ met L r then met L r else k :: met L r
  | [], _, _ => rfl
  | x :: r, L, k => met_snoc r _ k
theorem met_len : ∀ (r L : List Str), (met L r).length ≤ L.length + r.length
  | [], L => Nat.le_refl _
  | x :: r, L => by
    have := met_len r (if x ∈ L then L else x :: L)
    have h2 : (if x ∈ L then L else x :: L).length ≤ L.length + 1 := by split <;> simp
    rw [met, List.length_cons]
    omega
theorem met_mem : ∀ (r L : List Str) (k : Str), k ∈ met L r ↔ k ∈ L ∨ k ∈ r
  | [], L, k => by simp [met]
  | x :: r, L, k => by
    rw [met, met_mem r, List.mem_cons]
    by_cases h : x ∈ L
    · rw [if_pos h]
      constructor
      · rintro (a | a)
        · exact .inl a
        · exact .inr (.inr a)
      · rintro (a | rfl | a)
        · exact .inl a
        · exact .inl h
        · exact .inr a
    · rw [if_neg h, List.mem_cons]
      constructor
      · rintro ((rfl | a) | a)
        · exact .inr (.inl rfl)
        · exact .inl a
        · exact .inr (.inr a)
      · rintro (a | rfl | a)
        · exact .inl (.inr a)
        · exact .inl (.inl rfl)
        · exact .inr a
theorem met_nd : ∀ (r L : List Str), L.Nodup → (met L r).Nodup
  | [], _, h => h
  | x :: r, L, h => met_nd r _ (by
    by_cases c : x ∈ L
    · rw [if_pos c]; exact h
    · rw [if_neg c]; exact List.nodup_cons.mpr ⟨c, h⟩)
theorem take_snoc' {α : Type} {xs : List α} {i : Nat} {x : α} (h : xs[i]? = some x) : xs.take (i + 1) = xs.take i ++ [x] := by
  rw [List.take_add_one, h]
  rfl
theorem strs_get : ∀ {vs : List Value} {ks : List Str}, StrsAre vs ks → ∀ {i : Nat} {v : Value}, vs[i]? = some v → ∃ k u, ks[i]? = some k ∧ v = Value.str k u := by
  intro vs ks h
  induction h with
  | nil => intro i v e; simp at e
  | cons k u _ ih =>
    intro i v e
    cases i with
    | zero => simp at e; exact ⟨_, _, rfl, e.symm⟩
    | succ i => simpa using ih (by simpa using e)
section
variable {P : Program} {w : World} {A : Around} {E : Value → Shared → Prop} {s : Shared}
theorem fresh {h : Heap} {a : Addr} (ho : h.get? a = some { cls := .type "set", dict := none, data := .set #[] 0 (.fresh 0 0 (!w.params.followText "set-order")) }) : At w h a [] :=
  ⟨_, #[], 0, _, ho, ⟨rfl, rfl, rfl⟩, rfl, (fun e he => by simp at he), .nil, .nil, (by decide), rfl, List.Pairwise.nil, by
    show _ ∨ (!w.params.followText "set-order") = true
    cases w.params.followText "set-order" <;> simp⟩
theorem loop {I : Addr} {fp wr : List Addr} {G : Array GenState → Array GenState → Prop} {n : Nat} {Pv : Nat → Value → Prop} {St : Nat → Shared → Prop} {R : Result → Shared → Prop}
    (W : WalksS P w A.in1 I fp wr G n Pv St) (D : Addr) (nD : D ∉ fp) (ks : List Str) (hn : n = ks.length) (few : ks.length + 1 < scanBound) (val : ∀ i v, Pv i v → ∃ k u, ks[i]? = some k ∧ v = .str k u) :
    ∀ (m i : Nat) (s : Shared), n - i = m → i ≤ n → St i s → At w s.heap D (met [] (ks.take i)) →
      (∀ s', Moved (D :: wr) G s s' → At w s'.heap D (met [] ks) → R (.ok (.ret .none)) s') → codeAny (model P w) A (.builtin "set.update.loop" ⟨[.ref D, .ref I], []⟩) R s := by
  have nw : D ∉ wr := fun h => nD (W.sub _ h)
  have more : ∀ b ∈ wr, b ∈ D :: wr := fun b hb => List.mem_cons_of_mem _ hb
  intro m
  induction m with
  | zero =>
    intro i s e hi st hD fin
    obtain rfl : i = n := by omega
    refine codeAny_builtin F.entry_set_update_loop ?_
    rw [Around.under_plainId F.plain_set_update_loop _]
    show wpAny _ A.in1 (pyNext (.ref I) >>= _) _ _ s
    refine wpAny_bind (W.done s _ _ st fun s' mv => ?_)
    rw [List.take_of_length_le (by omega)] at hD
    exact wpAny_pure (fin s' (mv.mono more) (hD.keep fun o e => mv.heap D o nw e))
  | succ m ih =>
    intro i s e hi st hD fin
    have lt : i < n := by omega
    refine codeAny_builtin F.entry_set_update_loop ?_
    rw [Around.under_plainId F.plain_set_update_loop _]
    show wpAny _ A.in1 (pyNext (.ref I) >>= _) _ _ s
    refine wpAny_bind (W.item i s _ _ lt st fun v s1 pv st1 mv => ?_)
    obtain ⟨k, u, hk, rfl⟩ := val i v pv
    have D1 := hD.keep fun o e => mv.heap D o nw e
    have ln := met_len (ks.take i) []
    rw [List.length_take, List.length_nil] at ln
    show wpAny _ A.in1 (holding [Value.str k u] (setAdd D (.str k u)) >>= _) _ _ s1
    refine wpAny_bind (wpAny_holding ?_)
    unfold setAdd
    refine wpAny_holding (wpAny_bind ((strKind P w).pyHash (isK k u) ?_))
    refine add (s := { s1 with toks := s1.toks + 1 }) D1 (by omega) fun h' b sb D2 => ?_
    rw [← met_snoc, ← take_snoc' hk] at D2
    refine wpAny_pure ⟨plainId_quiet F.plain_set_update_loop _, ih (i + 1) _ (by omega) lt (W.frame _ s1 _ _ st1 (Nat.le_succ _) fun c hc o e => ?_) D2 fun s2 mv2 D3 => ?_⟩
    · rw [sb.2 c (by rintro rfl; exact nD hc)]; exact e
    · refine fin s2 (Moved.trans W.gtrans ((mv.mono more).then_heap (Nat.le_succ _) fun c o hc e => ?_) mv2) D3
      rw [sb.2 c (by rintro rfl; exact hc (List.mem_cons_self ..))]; exact e

/-- a new set's object -/
abbrev z0 (w : World) : Obj := { cls := .type "set", dict := none, data := .set #[] 0 (.fresh 0 0 (!w.params.followText "set-order")) }
theorem make {l : Addr} {vs : List Value} {ks : List Str} {Q : Value → Shared → Prop} (hh : A.handled = none) (hl : s.heap.IsList l vs.toArray) (hs : StrsAre vs ks) (few : ks.length + 1 < scanBound)
    (fin : ∀ (h' : Heap) (tk : Nat), At w h' s.heap.objs.size (met [] ks) → (∀ b o, s.heap.get? b = some o → h'.get? b = some o) → Q (.ref s.heap.objs.size) { s with heap := h', toks := tk }) :
    wpAny (model P w) A (call (.type "set") [.ref l]) Q E s := by
  have len : vs.toArray.size = ks.length := by rw [List.size_toArray]; exact hs.length
  obtain ⟨c, tl, hmro⟩ := F.called_set.mro
  have m1 := F.called_set.made
  have m2 := F.called_set.sub
  refine wpAny_call (codeAny_of_tree ?_)
  show wpAny _ _ (callAny (.type "set") _) _ _ _
  refine wpAny_pure ⟨Code.quiet_builtin _ (by decide +kernel), codeAny_builtin F.entry_type_call ?_⟩
  rw [Around.under_plain (weight_type_call_type "set" [.ref l] []) rfl]
  have m3 := F.called_set.notType
  have m4 := F.called_set.canCreate
  have m5 := F.typeCall_set_1 (.ref l)
  repeat (any_goals (first | assumption | wp_step))
  refine codeAny_mono (code_set_led1 (.ref l) (E := E) (Q₁ := fun u s₁ => u = .ref s.heap.objs.size ∧ s₁ = { s with heap := s.heap.push (z0 w) }) ⟨rfl, rfl⟩) fun r s₁ hr => ?_
  cases r with
  | error e => exact hr
  | ok fl =>
    cases fl with
    | ret u =>
      obtain ⟨rfl, rfl⟩ := hr
      have gS : (s.heap.push (z0 w)).get? s.heap.objs.size = some (z0 w) := Heap.get?_push_size _ rfl
      have tS : Shared.TypeIs { s with heap := s.heap.push (z0 w) } (.ref s.heap.objs.size) "set" := ⟨_, gS, rfl⟩
      have m6 := F.called_set.init.lookup
      have m7 := F.called_set.init.bind (.ref s.heap.objs.size)
      repeat (any_goals (first | assumption | wp_step))
      refine codeAny_mono (codeAny_call_builtin (R := wants (fun r s₂ => r = .none ∧ ∃ h' tk, s₂ = { s with heap := h', toks := tk } ∧ At w h' s.heap.objs.size (met [] ks) ∧ ∀ b o, s.heap.get? b = some o → h'.get? b = some o) E) F.called_set.init.plain F.entry_set_init (check_set_init_1 tS ?_)) fun r₂ s₂ hr₂ => ?_
      · obtain ⟨⟨lc, ld, lx, ls⟩, gl, hc, n, hd⟩ := hl
        simp only at hc hd
        subst hc hd
        have gl2 : (s.heap.push (z0 w)).get? l = some { cls := .type "list", dict := ld, data := .seq vs.toArray n, slots := ls } := Heap.get?_push_of_some _ gl
        have x1 := F.sub_list_set
        have x2 := F.sub_list_frozenset
        have x3 : (Value.type "list" == Value.type "dict") = false := by decide
        have il : (s.heap.push (z0 w)).IsList l vs.toArray := ⟨_, gl2, rfl, n, rfl⟩
        unfold Builtin.«set.__init__» noKeywords Builtin.Frozenset.updateFrom
        generalize e0 : pyIter = it0
        wp_walk
        subst e0
        refine wpAny_pyIter_list il (wpAny_bind (wpAny_runValue ?_))
        have lS : l < s.heap.objs.size := Heap.lt_size gl
        have hh3 : A.in1.in1.in1.handled = none := by simp [hh]
        have sz : (s.heap.push (z0 w)).objs.size = s.heap.objs.size + 1 := Heap.size_push ..
        have nI : l ≠ (s.heap.push (z0 w)).objs.size := by rw [sz]; exact Nat.ne_of_lt (Nat.lt_succ_of_lt lS)
        have nS : s.heap.objs.size ∉ [(s.heap.push (z0 w)).objs.size, l] := by
          rw [sz]
          intro z
          rcases List.mem_cons.mp z with z | z
          · exact absurd z (Nat.ne_of_lt (Nat.lt_succ_self _))
          · exact absurd (List.mem_singleton.mp z) (Nat.ne_of_gt lS)
        have val : ∀ (i : Nat) (v : Value), vs.toArray[i]? = some v → ∃ k u, ks[i]? = some k ∧ v = .str k u := fun i v hv => by
          rw [List.getElem?_toArray] at hv
          exact strs_get hs hv
        refine loop ((Walks.list hh3 _ l nI vs.toArray).toS) s.heap.objs.size nS ks len few val (vs.toArray.size - 0) 0 _ (by omega) (Nat.zero_le _) ⟨⟨_, Heap.get?_push_size _ rfl, rfl, rfl⟩, (il.push _)⟩ ?a0 ?a1
        case a0 => exact fresh (Heap.get?_push_of_some _ gS)
        case a1 =>
          intro s' mv D
          obtain ⟨h', g2, d', tk', os'⟩ := s'
          obtain rfl : g2 = s.gens := mv.gens
          obtain rfl : d' = s.drawn := mv.drawn
          obtain rfl : os' = s.os := mv.os
          refine wpAny_pure ?_
          show wpAny _ _ (ret Value.none) _ _ _
          refine wpAny_pure ⟨rfl, h', tk', rfl, D, fun b o e => ?_⟩
          have b0 := Heap.lt_size e
          refine mv.heap b o (fun z => ?_) (Heap.get?_push_of_some _ (Heap.get?_push_of_some _ e))
          rw [sz] at z
          rcases List.mem_cons.mp z with z | z
          · exact absurd z (Nat.ne_of_lt b0)
          · exact absurd (List.mem_singleton.mp z) (Nat.ne_of_lt (Nat.lt_succ_of_lt b0))
      · cases r₂ with
        | error e => exact hr₂
        | ok fl₂ =>
          cases fl₂ with
          | ret r =>
            obtain ⟨rfl, h', tk, rfl, D, kp⟩ := hr₂
            repeat (any_goals (first | assumption | wp_step))
            exact fin _ _ D kp
          | _ => exact hr₂.elim
    | _ => exact hr.elim
/-! ### sorted -/
theorem strs_of : ∀ {vs : List Value}, (∀ v ∈ vs, ∃ k u, v = Value.str k u) → StrsAre vs (vs.map fun v => kOf (0, v))
  | [], _ => .nil
  | v :: vs, h => by
    obtain ⟨k, u, rfl⟩ := h v (List.mem_cons_self ..)
    exact .cons k u (strs_of fun x hx => h x (List.mem_cons_of_mem _ hx))
theorem sort {a : Addr} {L : List Str} {Q : Value → Shared → Prop} (R : At w s.heap a L) (hh : A.handled = none) (few : L.length < 64)
    (fin : ∀ s' p (out : Array Value) (c : Nat) (ks : List Str), (∀ b o, s.heap.get? b = some o → s'.heap.get? b = some o) → s'.gens = s.gens → s'.os = s.os → s.heap.objs.size ≤ p →
      s'.heap.get? p = some (seqObj "list" out c) → StrsAre out.toList ks → ks.Perm L → sortedS ks = true → Q (.ref p) s') :
    wpAny (model P w) A (call (.builtin "sorted") [.ref a]) Q E s := by
  obtain ⟨o, es, ep, t, R⟩ := R
  refine Calls.call_function_entry kind_sorted plain_sorted entry_sorted (args_sorted1 _) ?_
  unfold Builtin.«sorted»
  refine wpAny_bind (m := checkCount "sorted" 1 1 _) (wpAny_pure ?_)
  refine wpAny_bind (collect_set (A := A.in1) hh ⟨o, R.ob, R.ex.1, R.dat⟩ R.fit R.few R.ris R.led fun s1 vs k1 z g1 o1 pm => ?_)
  have len : vs.length = L.length := by rw [pm.length_eq, List.length_map, Array.length_toList, R.size]
  have are : StrsAre vs (vs.map fun v => kOf (0, v)) := strs_of fun v hv => by
    obtain ⟨e, he, rfl⟩ := List.mem_map.mp (pm.mem_iff.mp hv)
    obtain ⟨k, u, rfl⟩ := R.good e he
    exact ⟨k, u, rfl⟩
  have pk : (vs.map fun v => kOf (0, v)).Perm L := by
    refine (pm.map fun v => kOf (0, v)).trans ?_
    rw [List.map_map]
    exact R.keys
  refine wpAny_bind (wpAny_newList ?_ (by rw [len, sizeLine_eq]; omega))
  have gL : (s1.heap.push (seqObj "list" vs.toArray 0)).get? s1.heap.objs.size = some (seqObj "list" vs.toArray 0) := Heap.get?_push_size _ rfl
  refine wpAny_bind (wpAny_holding (wpAny_call_entry slot_list_sort ⟨_, gL, rfl⟩ entry_list_sort (list_sort_treeK strKind_oneLt gL are.keysOf (fun v₁ v₂ rest e => keyKind_strs (by rw [← e]; exact are)) (by rw [len]; exact few) fun st' a1 a2 => ⟨_, rfl, ?_⟩) (args_list_sort _)))
  obtain ⟨ks, r1, r2, r3⟩ := sorted_out_str are a1 a2
  obtain ⟨c, gc⟩ := sortedHeap_at (vs := vs) (out := (arrOf st').map (·.2)) gL
  refine wpAny_pure ⟨_, rfl, fin _ s1.heap.objs.size _ c ks (fun b u e => ?_) g1 o1 z gc r1 (r2.trans pk) r3⟩
  have q := k1 b u e
  have lt := Heap.lt_size q
  show (sortedHeap (s1.heap.push (seqObj "list" vs.toArray 0)) s1.heap.objs.size vs _).get? b = some u
  rw [sortedHeap_old (Nat.ne_of_lt lt) (by rw [size_push']; exact Nat.lt_succ_of_lt lt)]
  exact Heap.get?_push_of_some _ q
end
/-! ### as a tracked thing -/
def SO (w : World) (a : Addr) (L : List Str) : HO := .ext fun h => At w h a L
theorem so_new {w : World} {P : Program} {H : Hp} {h : Heap} {a : Addr} {L : List Str} (R : At w h a L) : ObjOk P w H h a (SO w a L) := by
  have R' := R
  obtain ⟨o, es, ep, t, r⟩ := R'
  exact ⟨R, ⟨o, r.ob⟩, fun h1 h2 p k => At.keep p k⟩
section
variable {X : Cx}
def rSet (K : PySem.W.Frag) (w : World) : List V → Hp → VK → Prop := fun xs H Q => ∃ (l : Addr) (ks : List Str), xs = [V.ref l] ∧ SqL K H l (ks.map V.str) ∧ ks.length < 4000 ∧ ∀ a, H a = none → Q (.ref a) (upd H a (SO w a (met [] ks)))
theorem cr_set (hc : X.calm = true) : CallR X (.type "set") (rSet X.K X.w) := by
  intro pins s σ H xs us Q I r ⟨l, ks, e, hl, few, q⟩
  subst e
  rw [Vals.ref1 r]
  obtain ⟨its, rv, pl, hz⟩ := I.list hl
  have hn : H s.heap.objs.size = none := I.hok.fresh (Nat.le_refl _)
  refine make (P := X.prog) (w := X.w) (I.ok.hd hc) pl.isList rv.strs (by show _ < 4096; omega) fun h' tk D k => ?_
  exact ⟨.ref s.heap.objs.size, _, I.laid (t' := tk) k (Nat.le_refl _) (so_new D), rfl, q _ hn⟩
def rSrt (w : World) : List V → Hp → VK → Prop := fun xs H Q => ∃ (a : Addr) (L : List Str), xs = [V.ref a] ∧ H a = some (SO w a L) ∧ L.length < 64 ∧ ∀ ys p, ys.Perm L → sortedS ys = true → H p = none → Q (.ref p) (upd H p (.lst (ys.map V.str)))
theorem cr_srt (hc : X.calm = true) : CallR X (.builtin "sorted") (rSrt X.w) := by
  intro pins s σ H xs us Q I r ⟨a, L, e, ha, few, q⟩
  subst e
  have R : At X.w s.heap a L := (I.hok a _ ha).1
  rw [Vals.ref1 r]
  refine sort (P := X.prog) (w := X.w) R (I.ok.hd hc) few fun s' p out c ks k g o hp gp are pm so => ?_
  have few2 : (ks.map V.str).length ≤ sizeLine := by rw [List.length_map, pm.length_eq, sizeLine_eq]; omega
  have hn : H p = none := I.hok.fresh hp
  have J : Inv X pins σ (upd H p (.lst (ks.map V.str))) { s with heap := s'.heap, gens := s'.gens, drawn := s'.drawn, toks := s'.toks } :=
    I.call (ch := []) (Un.laid k hp hn) (I.hok.laid k hp ⟨few2, out.toList, c, vals_of_strs are, gp⟩) (by rw [g]; exact I.bare) (fun _ z => nomatch z)
  obtain ⟨h1, g1, d1, t1, o1⟩ := s'
  obtain ⟨h0, g0, d0, t0, o0⟩ := s
  obtain rfl : o1 = o0 := o
  exact ⟨.ref p, _, J, rfl, q ks p pm so hn⟩
end
end TxS
namespace L2.DL
open PySem PySem.Spec PyProof.Rows
def srO : Option Ob → Sto → DK → Prop
  | some (.lst xs), st, Q => ∃ ks : List Str, xs = ks.map D.str ∧ ks.length < 4000 ∧ (TxS.met [] ks).length < 64 ∧ ∀ p, Nf st p → Q (.ref p) (put st p (.lst ((sortBy id (TxS.met [] ks)).map D.str)))
  | _, _, _ => False
/-- sorted(set(xs)), a list of texts -/
def mSortSet (m : ME) : ME := fun env st Q => m env st fun x st1 => match x with
  | .ref a => srO (st1 a) st1 Q
  | _ => False
theorem de_sortSet {X : Cx} {e : Expr} {m : ME} {p p2 pos pos2 : Pos} (hc : X.calm = true) (hg : Gl X "sorted") (hm : X.mg "sorted" = none) (hg2 : Gl X "set") (hm2 : X.mg "set" = none) (he : DE X e m) (hs : starEach [e] X.env = (false, eval e X.env) :: starEach [] X.env := by rfl)
    (hs2 : starEach [Expr.Call (.Name "set" p2) [e] [] pos2] X.env = (false, eval (Expr.Call (.Name "set" p2) [e] [] pos2) X.env) :: starEach [] X.env := by rfl) :
    DE X (.Call (.Name "sorted" p) [.Call (.Name "set" p2) [e] [] pos2] [] pos) (mSortSet m) := by
  refine ⟨pe_mono (pe_callB (TxS.cr_srt hc) hg hm rfl (pa_cons (pe_callTy (TxS.cr_set hc) hg2 hm2 rfl (pa_cons he.pe pa_nil hs) (he := hs)) pa_nil hs2) (he := hs2)) fun σ H Q ⟨env, st, Q0, re, rs, h, k⟩ => ?_⟩
  refine lift_in re rs h fun x st1 x' H1 q1 e1 rx re1 rs1 => ?_
  cases x <;> try exact q1.elim
  rename_i a
  cases rx
  cases e2 : st1 a with
  | none => simp only [e2] at q1; exact q1.elim
  | some o =>
    simp only [e2] at q1
    cases o <;> try exact q1.elim
    obtain ⟨ks, rfl, few, few2, q1⟩ := q1
    obtain ⟨ws, g, r⟩ := rs1.rdL (by rw [e2]; rfl)
    have ew := r.strs
    subst ew
    refine ⟨a, ks, rfl, g, by omega, fun b hb => ?_⟩
    have e3 : Ext H1 (upd H1 b (TxS.SO X.w b (TxS.met [] ks))) := .upd_new hb
    refine ⟨b, _, rfl, upd_same, few2, fun ys d pm so hd => ?_⟩
    · have ey := sortedS_eq pm so
      subst ey
      have e4 : ∀ u, Ext (upd H1 b (TxS.SO X.w b (TxS.met [] ks))) (upd (upd H1 b (TxS.SO X.w b (TxS.met [] ks))) d u) := fun u => .upd_new hd
      have nd : Nf st1 d := rs1.fresh (by
        by_cases c : d = b
        · rw [c]; exact hb
        · rw [upd_ne c] at hd; exact hd)
      exact k _ _ _ _ (q1 d nd) (e1.trans (e3.trans (e4 _))) (.ref d) ((rs1.new hb).put (o := .lst ((sortBy id (TxS.met [] ks)).map D.str)) (e4 _) ⟨_, upd_same, .of_strs _⟩)
theorem mSortSet_a {m : ME} {env : Env} {st : Sto} {Q : DK} : mSortSet m env st Q = m env st fun x st1 => match x with
  | .ref a => srO (st1 a) st1 Q
  | _ => False := rfl
end L2.DL

/-! sets of texts by a comprehension -/
namespace TxS
open PySem PySem.Spec PyProof.Rows L2
/-- a text put to the others -/
def adds (k : Str) (L : List Str) : List Str := if k ∈ L then L else k :: L
section
variable {X : Cx}
theorem so_add {pins : List (Addr × Obj)} {s : Shared} {σ : L2.St} {H : Hp} {E : Value → Shared → Prop} {D : Addr} {L : List Str} {k : Str} {u : Tok} {Q : Value → Shared → Prop} (I : Inv X pins σ H s) (hD : H D = some (SO X.w D L)) (few : L.length + 1 < scanBound)
    (fin : ∀ s', Inv X pins σ (upd H D (SO X.w D (adds k L))) s' → Q .none s') : wpAny (model X.prog X.w) X.A (call (.builtin "set.add") [.ref D, .str k u]) Q E s := by
  have R : At X.w s.heap D L := (I.hok D _ hD).1
  obtain ⟨o, es, ep, t, R0⟩ := id R
  have T : s.TypeIs (.ref D) "set" := ⟨o, R0.ob, R0.ex.1⟩
  refine wpAny_call_entry F.slot_set_add T F.entry_set_add ?_ (F.args_set_add_2 _ _)
  unfold Builtin.«set.add» Builtin.Frozenset.oneOther
  simp only [List.isEmpty_nil, bind_assoc]
  unfold Builtin.Frozenset.addrOf setAdd
  refine wpAny_bind (wpAny_pure ?_)
  try dsimp only
  refine wpAny_bind (wpAny_pure ?_)
  try dsimp only
  refine wpAny_bind (wpAny_holding (wpAny_bind ((strKind X.prog X.w).pyHash (isK k u) ?_)))
  refine add (s := { s with toks := s.toks + 1 }) R few fun h' b sb R1 => ?_
  obtain ⟨o1, es1, ep1, t1, R2⟩ := id R1
  show wpAny _ _ (ret Value.none) _ _ _
  exact wpAny_pure ⟨_, rfl, fin _ (I.write (e := D) (t' := s.toks + 1) (by rw [hD]; trivial) (.inl rfl) (fun c v hc hv => (sb.2 c hc).trans hv) ⟨o1, R2.ob⟩ (so_new R1))⟩
/-- {e for g in xs if t}, texts, D the new set -/
def tS (w : World) (wi : TI) (g : TG) (tt : TT) (te : TE) (vs : List Nat) : TE := fun σ H Q => wi σ H fun J H1 => ∀ D, H1 D = none → ∃ W : Nat → Nat → Hp → Prop, (∃ m, W 0 m (upd H1 D (SO w D []))) ∧ ∀ i m H, W i m H →
  (J.stop i H ∧ Q (.ref D) H) ∨ (J.go i H ∧ ∃ N : Hp → Prop, (∀ H', N H' → ∃ m', m' < m ∧ W (i + 1) m' H') ∧ ∀ x H', J.yld i H x H' → g x (wipe σ vs) H' fun σ2 H2 => wipe σ2 vs = wipe σ vs ∧ tt σ2 H2 fun b H3 =>
    if b = true then te σ2 H3 fun y H4 => ∃ (k : Str) (L : List Str), y = .str k ∧ H4 D = some (SO w D L) ∧ L.length + 1 < scanBound ∧ N (upd H4 D (SO w D (adds k L))) else N H3)
theorem core {pins : List (Addr × Obj)} {s : Shared} {σ : L2.St} {H : Hp} {Q : VK} {elt tg iter : Expr} {ifs : List Expr} {scope : Scope} {own : List (PySem.Str × Nat)} {pos pos' : Pos} {wi : TI} {g : TG} {tt : TT} {te : TE} {use : Option (Value → Sem Unit)} {Qf : Value → Shared → Prop}
    (calm : X.calm = true) (nd : X.N.Nodup) (I : Inv X pins σ H s) (hi : PI X tg iter wi) (ok : BlkOk X.N X.env.scope scope own)
    (hg : ∀ (s : Shared) (H : Hp) (C : Addr) (cl : List (PySem.Str × Addr)) (fp : List Addr), PG (X.blk s H scope (compEnvC scope cl C X.env) fp) tg g)
    (ht : ∀ (s : Shared) (H : Hp) (C : Addr) (cl : List (PySem.Str × Addr)) (fp : List Addr), PTs (X.blk s H scope (compEnvC scope cl C X.env) fp) ifs tt)
    (he : ∀ (s : Shared) (H : Hp) (C : Addr) (cl : List (PySem.Str × Addr)) (fp : List Addr), PE (X.blk s H scope (compEnvC scope cl C X.env) fp) elt te) (hs : ∀ x, foldedSetIterable iter X.env x = pure x)
    (h : tS X.w wi g tt te (own.map (·.2)) σ H Q)
    (fin : ∀ D C s' m H', Inv X pins σ H' s' → Q (.ref D) H' → s'.heap.Ns C m → FpOk X pins H' C → compPost (model X.prog X.w) X.A X.xe use Qf (.ref D) C (.ok .next) s') :
    wpAny (model X.prog X.w) X.A (comprehension (.SetComp elt [⟨tg, iter, ifs, 0⟩] scope pos) scope X.env pos' (newSet (.type "set")) false (eval iter X.env) use) Qf X.xe s := by
  have frees : ∀ y ∈ scope.names, y.2 = .free → ∃ c, X.env.cells.lookup y.1 = some c := fun y hy e => I.ok.has _ (ok.free y hy e)
  refine wpAny_comprehension_free (use := use) rfl hs (closure_ok frees) ok.kind (fun y hy e => by rw [ok.uniq y hy, e])
    (thn (hi.run pins s σ H _ I h) fun _ sa ha => thn ha fun _ sb hb => ?_)
  obtain ⟨it, fp, tn, J, Hb, e, Ib, T, tb, kb, q⟩ := hb
  subst e
  refine PpSet.newSet_ok (newEnv_comp ?_)
  generalize eD : sb.heap.objs.size = D
  obtain ⟨W, ⟨m0, w0⟩, turn⟩ := q D (Ib.hok.fresh (Nat.le_of_eq eD))
  have gD : (sb.heap.push (z0 X.w)).get? D = some (z0 X.w) := by rw [← eD]; exact Heap.get?_push_size _ rfl
  generalize es : ({ sb with heap := sb.heap.push (z0 X.w) } : Shared) = sc
  have Ic : Inv X pins σ (upd Hb D (SO X.w D [])) sc := by
    rw [← es]
    exact Ib.laid (t' := sb.toks) (fun b o z => Heap.get?_push_of_some _ z) (Nat.le_of_eq eD) (so_new (fresh gD))
  have hc3 : sc.heap = sb.heap.push (z0 X.w) := by rw [← es]
  have low : ∀ b ∈ fp, b < sb.heap.objs.size := fun b z => by
    obtain ⟨o, z, _⟩ := T.obj _ _ tb b z
    exact Heap.lt_size z
  have kc : ∀ b ∈ fp, FpOk X pins (upd Hb D (SO X.w D [])) b ∧ b < sc.heap.objs.size := fun b z => by
    have lt := low b z
    refine ⟨⟨?_, (kb b z).2⟩, by rw [hc3, Heap.size_push]; exact Nat.lt_succ_of_lt lt⟩
    rw [upd_ne (by rw [← eD]; exact Nat.ne_of_lt lt)]
    exact (kb b z).1
  have tc : tn 0 sc.heap := T.keep _ _ _ tb fun b _ o z => by rw [hc3]; exact Heap.get?_push_of_some _ z
  have Id := block_start Ic ok nd kc
  have rg := hg sc (upd Hb D (SO X.w D [])) sc.heap.objs.size (cellsFrom (sc.heap.objs.size + 1) scope.names (cloFrom X.env.cells scope.names [])) fp
  have rt := ht sc (upd Hb D (SO X.w D [])) sc.heap.objs.size (cellsFrom (sc.heap.objs.size + 1) scope.names (cloFrom X.env.cells scope.names [])) fp
  have re := he sc (upd Hb D (SO X.w D [])) sc.heap.objs.size (cellsFrom (sc.heap.objs.size + 1) scope.names (cloFrom X.env.cells scope.names [])) fp
  show codeAny _ _ (.compStart (.SetComp elt [⟨tg, iter, ifs, 0⟩] scope pos) 0 (.ref it) (.ref D) (compEnvC scope (cellsFrom (sc.heap.objs.size + 1) scope.names (cloFrom X.env.cells scope.names [])) sc.heap.objs.size X.env)) (compPost (model X.prog X.w) X.A X.xe use Qf (.ref D) sc.heap.objs.size) { sc with heap := pushCells (sc.heap.push { cls := .type "dict", data := .dict #[] }) scope.names }
  have nop : ∀ b ∈ fp, (upd Hb D (SO X.w D [])) b = none := fun b z => (kc b z).1.1
  generalize en : compEnvC scope (cellsFrom (sc.heap.objs.size + 1) scope.names (cloFrom X.env.cells scope.names [])) sc.heap.objs.size X.env = ce at Id rg rt re ⊢
  have cL : ce.locals = sc.heap.objs.size := by rw [← en]; rfl
  generalize eH : upd Hb D (SO X.w D []) = Hc at Ic Id rg rt re w0 nop kc
  generalize ed : ({ sc with heap := pushCells (sc.heap.push { cls := .type "dict", data := .dict #[] }) scope.names } : Shared) = sd at Id ⊢
  have td : tn 0 sd.heap := T.keep _ _ _ tc fun b _ o z => by rw [← ed]; exact pushCells_keeps _ _ _ _ (Heap.get?_push_of_some _ z)
  have still : ∀ {σ' : L2.St} {H' : Hp} {s' : Shared}, Inv (X.blk sc Hc scope ce fp) [] σ' H' s' → (∀ b ∈ fp, H' b = none) → ∀ b ∈ fp, FpOk (X.blk sc Hc scope ce fp) [] H' b := fun {σ' H' s'} K no b z =>
    ⟨no b z, (K.ok.exf b z).1, K.ok.exfs b z, .inl z, fun x c w => (K.ok.exf b z).2 x c w, fun p w => absurd (show p ∈ ([] : List (Addr × Obj)) ++ [] from w) (by simp)⟩
  have run : codeAny (model X.prog X.w) X.A (.compLoop (.SetComp elt [⟨tg, iter, ifs, 0⟩] scope pos) 0 (.ref it) (.ref D) ce) (compPost (model X.prog X.w) X.A X.xe use Qf (.ref D) sc.heap.objs.size) sd := by
    refine PpSet.compLoopS_any (fun n s' => ∃ i H', Inv (X.blk sc Hc scope ce fp) [] (wipe σ (own.map (·.2))) H' s' ∧ tn i s'.heap ∧ (∀ b ∈ fp, H' b = none) ∧ W i n H') ?_ m0 ⟨0, Hc, Id, td, nop, w0⟩
    rintro n s5 ⟨i, H5, K5, t5, n5, w5⟩
    rcases turn i n H5 w5 with ⟨stp, qq⟩ | ⟨go, N, hN, step⟩
    · refine thnF (T.done (X.blk sc Hc scope ce fp) rfl rfl rfl calm i [] s5 _ H5 (fun _ _ => False) K5 (still K5 n5) t5 stp) fun r s6 ⟨hr, K6⟩ => ?_
      subst hr
      have K7 : Inv X pins σ H5 s6 := Ic.call' (ch := fp) K6.os K6.base K6.hok K6.bare fun b z => ⟨(kc b z).1.2.2.2.1, (kc b z).1.2.1, (kc b z).1.2.2.2.2.1, (kc b z).1.2.2.2.2.2⟩
      have nC : H5 ce.locals = none := K6.free
      obtain ⟨m, hn, _⟩ := K6.loc
      have hn : s6.heap.Ns ce.locals m := hn
      rw [cL] at hn nC
      exact fin D sc.heap.objs.size s6 m H5 K7 qq hn (Ic.fpOk (Nat.le_refl _) nC)
    · refine thnF (T.item (X.blk sc Hc scope ce fp) rfl rfl rfl calm i [] s5 _ H5 (fun _ _ => False) K5 (still K5 n5) t5 go) fun r s6 ⟨u, hr, h6⟩ => ?_
      subst hr
      refine thnF h6 fun _ s7 ⟨x, H7, K7, r7, y7, t7, n7⟩ => ?_
      refine thnF (rg.run _ s7 _ H7 x u _ (K7.pinned (still K7 n7) (T.obj _ _ t7)) r7 (step x H7 y7)) fun _ s8 ⟨σ8, H8, K8, w8, q8⟩ => ?_
      refine thnF (rt.run _ s8 σ8 H8 _ K8 q8) fun b s9 ⟨H9, K9, q9⟩ => ?_
      have done : ∀ {s' : Shared} {H' : Hp}, Inv (X.blk sc Hc scope ce fp) ([] ++ pinsAt fp s7.heap) σ8 H' s' → N H' → ∃ m, m < n ∧ ∃ i H', Inv (X.blk sc Hc scope ce fp) [] (wipe σ (own.map (·.2))) H' s' ∧ tn i s'.heap ∧ (∀ b ∈ fp, H' b = none) ∧ W i m H' := fun {s' H'} K nx => by
        obtain ⟨m', lt, w'⟩ := hN H' nx
        have pin : ∀ b ∈ fp, ∀ o, s7.heap.get? b = some o → s'.heap.get? b = some o ∧ H' b = none := fun b z o e =>
          ⟨(K.pin (b, o) (List.mem_append_right _ (List.mem_append_right _ (mem_pinsAt z e)))).1, (K.pin (b, o) (List.mem_append_right _ (List.mem_append_right _ (mem_pinsAt z e)))).2.1⟩
        have len : (wipe σ (own.map (·.2))).length = σ8.length := by rw [← w8, wipe_length]
        refine ⟨m', lt, i + 1, H', (K.unpinned (pins := [])).weak len (fun j v e => ?_), T.keep _ _ _ t7 fun b z o e => (pin b z o e).1, fun b z => ?_, w'⟩
        · rw [← w8] at e
          exact (wipe_some e).1
        · obtain ⟨o, e, _⟩ := T.obj _ _ t7 b z
          exact (pin b z o e).2
      cases b with
      | false =>
        simp only [Bool.false_eq_true, if_false] at q9 ⊢
        exact done K9 q9
      | true =>
        simp only [if_true] at q9 ⊢
        refine thnF (re.run _ s9 σ8 H9 _ K9 q9) fun v s10 ⟨y, H10, K10, r10, k, L, ey, hD, few, nx⟩ => ?_
        subst ey
        obtain ⟨tok, ev⟩ : ∃ tok, v = Value.str k tok := r10
        subst ev
        exact so_add (X := X.blk sc Hc scope ce fp) K10 hD few fun s11 K11 => done K11 nx
  exact PpSet.codeAny_compStart_set run (T.self X.A 0 _ _ _ td run)
theorem pe_comp {elt tg iter : Expr} {ifs : List Expr} {scope : Scope} {own : List (PySem.Str × Nat)} {pos : Pos} {wi : TI} {g : TG} {tt : TT} {te : TE} (calm : X.calm = true) (nd : X.N.Nodup) (hi : PI X tg iter wi) (ok : BlkOk X.N X.env.scope scope own)
    (hg : ∀ (s : Shared) (H : Hp) (C : Addr) (cl : List (PySem.Str × Addr)) (fp : List Addr), PG (X.blk s H scope (compEnvC scope cl C X.env) fp) tg g)
    (ht : ∀ (s : Shared) (H : Hp) (C : Addr) (cl : List (PySem.Str × Addr)) (fp : List Addr), PTs (X.blk s H scope (compEnvC scope cl C X.env) fp) ifs tt)
    (he : ∀ (s : Shared) (H : Hp) (C : Addr) (cl : List (PySem.Str × Addr)) (fp : List Addr), PE (X.blk s H scope (compEnvC scope cl C X.env) fp) elt te) (hs : ∀ x, foldedSetIterable iter X.env x = pure x := by intro _; rfl) :
    PE X (.SetComp elt [⟨tg, iter, ifs, 0⟩] scope pos) (tS X.w wi g tt te (own.map (·.2))) :=
  ⟨fun pins s σ H Q I h => by
    rw [PpSet.eval_SetComp]
    exact core calm nd I hi ok hg ht he hs h fun D C s' m H' K q hn f => ⟨m, hn, fun h'' sb => ⟨.ref D, H', K.turned (t' := s'.toks) (fun b o z e => (sb.2 b z).trans e) f.1 f.2.1 f.2.2.2.1 f.2.2.2.2.1 f.2.2.2.2.2, rfl, q⟩⟩⟩
end
end TxS
namespace L2.DL
open PySem PySem.Spec PyProof.Rows
/-- sorted({e for g in xs if t}), texts: the set is at p, o what stands there -/
def mSortSc (mi : MI) (g : MG) (mt : MT) (me : ME) (ws : List Nat) : ME := fun env st Q => mi env st fun xs ok st1 => ∀ (p : Addr) (o : List Str → HO), Nf st1 p → ∃ W : Nat → List Str → Sto → Prop, W 0 [] (put st1 p (.raw (o []))) ∧
  (∀ i acc st, i ≤ xs.length → W i acc st → ok st) ∧
  (∀ i acc x st, xs[i]? = some x → W i acc st → g x (wipeE env ws) st fun env2 st2 => mt env2 st2 fun b st3 =>
    if b = true then me env2 st3 fun y st4 => ∃ k, y = .str k ∧ st4 p = some (.raw (o acc)) ∧ acc.length < 4000 ∧ W (i + 1) (TxS.adds k acc) (put st4 p (.raw (o (TxS.adds k acc)))) else W (i + 1) acc st3) ∧
  (∀ acc st, W xs.length acc st → st p = some (.raw (o acc)) ∧ acc.length < 64 ∧ ∀ p2, Nf st p2 → Q (.ref p2) (put st p2 (.lst ((sortBy id acc).map D.str))))
theorem lift_sc {w : World} {K : PySem.W.Frag} {mi : MI} {g : MG} {mt : MT} {me : ME} {ws : List Nat} {σ : L2.St} {H : Hp} {Q : VK} (h : lift K (mSortSc mi g mt me ws) σ H Q) :
    TxS.tS w (liftI K mi) (liftGc K g ws) (liftT K mt) (lift K me) ws σ H fun x H1 => TxS.rSrt w [x] H1 Q := by
  obtain ⟨env, st, Q0, re, rs, h, k⟩ := h
  refine ⟨env, st, _, re, rs, h, fun xs ok st1 J H1 q e1 rs1 S p hp => ?_⟩
  obtain ⟨W, w0, hok, turn, fin⟩ := q p (TxS.SO w p) (rs1.fresh hp)
  have exp : Ext H1 (upd H1 p (TxS.SO w p [])) := .upd_new hp
  refine ⟨fun i m H' => m = xs.length - i ∧ i ≤ xs.length ∧ ∃ acc st', Ext H1 H' ∧ RelSto K H' st' ∧ W i acc st', ⟨xs.length, by simp, Nat.zero_le _, [], _, exp, rs1.put (o := .raw (TxS.SO w p [])) exp upd_same, w0⟩, ?_⟩
  rintro i m H' ⟨rfl, hi, acc, st', e2, rs2, w⟩
  have okk := hok i acc st' hi w
  by_cases hlt : i < xs.length
  · refine .inr ⟨S.go i H' st' hlt e2 rs2 okk, fun H2 => ∃ acc2 st2, Ext H1 H2 ∧ RelSto K H2 st2 ∧ W (i + 1) acc2 st2, fun H2 z => ⟨xs.length - (i + 1), by omega, rfl, hlt, z⟩, fun x H3 y => ?_⟩
    obtain ⟨d, hd, rd, kp⟩ := S.yld i H' st' x H3 hlt e2 rs2 okk y
    have e3 : Ext H' H3 := .of_keep kp
    refine ⟨d, wipeE env ws, st', _, rd, ((re.mono (e1.trans (e2.trans e3))).wipe ws), rs2.of_keep kp, turn i acc d st' hd w, fun env4 st4 σ4 H4 q4 e4 re4 rs4 ew => ⟨by rw [ew, wipe_wipe], ?_⟩⟩
    refine liftT_in re4 rs4 q4 fun b st5 H5 q5 e5 re5 rs5 => ?_
    have E5 : Ext H1 H5 := e2.trans (e3.trans (e4.trans e5))
    cases b with
    | false => exact ⟨acc, st5, E5, rs5, q5⟩
    | true =>
      refine lift_in re5 rs5 q5 fun y st6 y' H6 ⟨kk, ey, hD, hz, w6⟩ e6 ry re6 rs6 => ?_
      subst ey
      have gD : H6 p = some (TxS.SO _ p acc) := rs6 _ _ hD
      have ex : ∀ u, Ext H6 (upd H6 p u) := fun u => .upd_mut (by rw [gD]; trivial)
      exact ⟨kk, acc, ry.str_of, gD, by show acc.length + 1 < 4096; omega, _, _, E5.trans (e6.trans (ex _)), rs6.put (o := .raw (TxS.SO _ p (TxS.adds kk acc))) (ex _) upd_same, w6⟩
  · have hn : i = xs.length := by omega
    subst hn
    obtain ⟨f1, f2, f3⟩ := fin acc st' w
    refine .inl ⟨S.stop _ H' st' (Nat.le_refl _) e2 rs2 okk, p, acc, rfl, rs2 _ _ f1, f2, fun ys c pm so hc => ?_⟩
    have ey := sortedS_eq pm so
    subst ey
    have ex : Ext H' (upd H' c (.lst ((sortBy id acc).map V.str))) := .upd_new hc
    exact k _ _ _ _ (f3 c (rs2.fresh hc)) (e1.trans (e2.trans ex)) (.ref c) (rs2.put (o := .lst ((sortBy id acc).map D.str)) ex ⟨_, upd_same, .of_strs _⟩)
section
variable {X : Cx}
theorem de_sortSc {elt tg iter : Expr} {ifs : List Expr} {scope : Scope} {own : List (Str × Nat)} {ws : List Nat} {p pos pos2 : Pos} {mi : MI} {g : MG} {mt : MT} {me : ME} (hc : X.calm = true) (hgl : Gl X "sorted") (hm : X.mg "sorted" = none) (hN : X.N.Nodup) (hi : DI X tg iter mi) (ok : BlkOk X.N X.env.scope scope own)
    (hg : ∀ (s : Shared) (H : Hp) (C : Addr) (cl : List (Str × Addr)) (fp : List Addr), DGc (X.blk s H scope (compEnvC scope cl C X.env) fp) tg g ws) (ht : ∀ (s : Shared) (H : Hp) (C : Addr) (cl : List (Str × Addr)) (fp : List Addr), DTs (X.blk s H scope (compEnvC scope cl C X.env) fp) ifs mt)
    (he : ∀ (s : Shared) (H : Hp) (C : Addr) (cl : List (Str × Addr)) (fp : List Addr), DE (X.blk s H scope (compEnvC scope cl C X.env) fp) elt me) (hws : own.map (·.2) = ws := by rfl) (hs : ∀ x, foldedSetIterable iter X.env x = pure x := by intro _; rfl)
    (hs2 : starEach [Expr.SetComp elt [⟨tg, iter, ifs, 0⟩] scope pos2] X.env = (false, eval (Expr.SetComp elt [⟨tg, iter, ifs, 0⟩] scope pos2) X.env) :: starEach [] X.env := by rfl) :
    DE X (.Call (.Name "sorted" p) [.SetComp elt [⟨tg, iter, ifs, 0⟩] scope pos2] [] pos) (mSortSc mi g mt me ws) := by
  subst hws
  exact ⟨pe_mono (pe_callB (TxS.cr_srt hc) hgl hm rfl (pa_cons (TxS.pe_comp hc hN hi.pi ok (fun s H C cl fp => (hg s H C cl fp).pg) (fun s H C cl fp => (ht s H C cl fp).pts) (fun s H C cl fp => (he s H C cl fp).pe) hs) pa_nil hs2) (he := hs2)) fun σ H Q => lift_sc⟩
end
def scO (xs : List D) (ok : Sto → Prop) (g : MG) (mt : MT) (me : ME) (ws : List Nat) (env : Env) (st1 : Sto) (Q : DK) : Prop := ∀ (p : Addr) (o : List Str → HO), Nf st1 p → ∃ W : Nat → List Str → Sto → Prop, W 0 [] (put st1 p (.raw (o []))) ∧
  (∀ i acc st, i ≤ xs.length → W i acc st → ok st) ∧
  (∀ i acc x st, xs[i]? = some x → W i acc st → g x (wipeE env ws) st fun env2 st2 => mt env2 st2 fun b st3 =>
    if b = true then me env2 st3 fun y st4 => ∃ k, y = .str k ∧ st4 p = some (.raw (o acc)) ∧ acc.length < 4000 ∧ W (i + 1) (TxS.adds k acc) (put st4 p (.raw (o (TxS.adds k acc)))) else W (i + 1) acc st3) ∧
  (∀ acc st, W xs.length acc st → st p = some (.raw (o acc)) ∧ acc.length < 64 ∧ ∀ p2, Nf st p2 → Q (.ref p2) (put st p2 (.lst ((sortBy id acc).map D.str))))
theorem mSortSc_a {mi : MI} {g : MG} {mt : MT} {me : ME} {ws : List Nat} {env : Env} {st : Sto} {Q : DK} : mSortSc mi g mt me ws env st Q = mi env st fun xs ok st1 => scO xs ok g mt me ws env st1 Q := rfl
theorem _root_.TxS.met_more : ∀ (a b L : List Str), TxS.met L (a ++ b) = TxS.met (TxS.met L a) b
  | [], _, _ => rfl
  | x :: a, b, L => by
    show TxS.met _ (a ++ b) = _
    rw [TxS.met_more a b]
    rfl
theorem _root_.TxS.met_ge : ∀ (a L : List Str), L.length ≤ (TxS.met L a).length
  | [], L => Nat.le_refl _
  | x :: a, L => by
    have h := TxS.met_ge a (TxS.adds x L)
    have h2 : L.length ≤ (TxS.adds x L).length := by
      unfold TxS.adds
      split
      · exact Nat.le_refl _
      · exact Nat.le_succ _
    show _ ≤ (TxS.met (TxS.adds x L) a).length
    omega
theorem met_app (L : List Str) (k : Str) : ∀ (r : List Str), TxS.met L (r ++ [k]) = TxS.adds k (TxS.met L r) := fun r => TxS.met_snoc r L k
theorem Nf.backK' {st st' : Sto} {p : Addr} (h : Nf st' p) (u : Keep st st') : Nf st p := by
  cases e : st p with
  | none => exact .inl e
  | some o =>
    cases o with
    | rol xs => exact .inr ⟨xs, e⟩
    | _ => exact absurd rfl (h.not (u _ _ (by trivial) e) (by trivial))
/-- no draws: the texts by what each item gives -/
theorem sc_keep {xs : List D} {ok : Sto → Prop} {g : MG} {mt : MT} {me : ME} {ws : List Nat} {env : Env} {st1 : Sto} {Q : DK} (f : D → Option Str) (hok : ∀ st', Keep st1 st' → ok st') (hl : (TxS.met [] (xs.filterMap f)).length < 64)
    (turn : ∀ x ∈ xs, ∀ st2, Keep st1 st2 → ∀ (P : DK) (N : Sto → Prop), (∀ y st3, f x = some y → Keep st2 st3 → P (.str y) st3) → (∀ st3, f x = none → Keep st2 st3 → N st3) → g x (wipeE env ws) st2 fun env2 st3 => mt env2 st3 fun b st4 => if b = true then me env2 st4 P else N st4)
    (fin : ∀ p st', Nf st1 p → Keep st1 st' → st' p = some (.lst ((sortBy id (TxS.met [] (xs.filterMap f))).map D.str)) → Q (.ref p) st') :
    scO xs ok g mt me ws env st1 Q := by
  intro p o hp
  have bd : ∀ i, (TxS.met [] ((xs.take i).filterMap f)).length < 64 := fun i => by
    have h2 : TxS.met [] (xs.filterMap f) = TxS.met (TxS.met [] ((xs.take i).filterMap f)) ((xs.drop i).filterMap f) := by
      conv => lhs; rw [← List.take_append_drop i xs, List.filterMap_append]
      exact TxS.met_more _ _ _
    have h3 := TxS.met_ge ((xs.drop i).filterMap f) (TxS.met [] ((xs.take i).filterMap f))
    rw [← h2] at h3
    omega
  refine ⟨fun i acc st => acc = TxS.met [] ((xs.take i).filterMap f) ∧ Keep st1 st ∧ st p = some (.raw (o acc)), ⟨rfl, Keep.put hp, put_same⟩, fun i acc st _ ⟨_, u, _⟩ => hok st u, fun i acc x st hx ⟨hf, u, e⟩ => ?_, fun acc st ⟨hf, u, e⟩ => ?_⟩
  · have hb := bd i
    rw [← hf] at hb
    refine turn x (List.mem_of_getElem? hx) st u _ _ (fun y st5 h1 h2 => ?_) (fun st5 h1 h2 => ?_)
    · refine ⟨y, rfl, h2 _ _ trivial e, by omega, ?_, (u.trans h2).mut hp, put_same⟩
      rw [take_snoc hx, List.filterMap_append, hf]
      have : [x].filterMap f = [y] := by simp [h1]
      rw [this, met_app]
    · refine ⟨?_, u.trans h2, h2 _ _ trivial e⟩
      rw [take_snoc hx, List.filterMap_append, hf]
      have : [x].filterMap f = [] := by simp [h1]
      rw [this, List.append_nil]
  · have hb := bd xs.length
    rw [← hf] at hb
    refine ⟨e, hb, fun p2 hp2 => ?_⟩
    rw [List.take_length] at hf
    exact fin p2 _ (hp2.backK' u) (u.new hp2) (by rw [put_same, hf])
end L2.DL

namespace L2.DL
open PySem PySem.Spec PyProof.Rows
local macro_rules | `(tactic| walk_at "s") => `(tactic| try simp only [sqAsg_a, sqDrop_a, sqPar_a, sqPar3_a, sqRet_a, sqNext_a, sqSeq_a, sNext_a, sBreak_a, sCont_a, sDrop_a, sRet_a, sRetN_a, sIf_a, sAsg_a, sPar_a, sPar3_a, mVar_a, vAt_a, mC_a, mBin_a, mTest_a, bAt_a, mAnd_a, mOr_a, mNot_a, mYes_a, mAndV_a, mOrV_a, mNotV_a, mIf_a, mNil_a, mCons_a, mTup_a, mLst_a, mCall_a, mCallK_a, mMeth_a, mSl_a, mNoPart_a, iAt_a, mPart_a, mIsi_b, tysO_some, List.any_cons, List.any_nil, Bool.or_false, Bool.false_or, Bool.or_true, Bool.true_or, Int.natCast_pos, gN_a, gTup_a, gCons_a, gNil_a, gSub_a, sFor_a, mLc_a, mDc_a, wSeq_a, sqO_tup, sqO_str, sqO_ref, wRng1_a, mRev_a, revO_ref, List.getD_cons_zero, List.getD_cons_succ, ite_self, List.set_cons_zero, List.set_cons_succ, List.getElem?_cons_zero, List.getElem?_cons_succ, oAdd_int, oAdd_str, oAdd_tup, oAdd_ref, oSub_int, oMul_int, oDiv_int, oMod_int, oPow_int, oLt_int, oLe_int, oGt_int, oGe_int, oIs_nn, oIs_bn, oIs_in, oIs_sn, oIs_tn, oIs_rn, oIs_bb, oIs_nb, oIs_ib, oIs_sb, oIs_tb, oIs_rb, oIsi_int, oIsi_str, oIsi_bool, oIsi_tuple, oIsi_list, oIsi_dict, tyO_some, tyD_non, tyD_bl, tyD_int, tyD_str, tyD_tup, isi_facts, oEq_int, oNe_int, oEq_str, oNe_str, oSl_tup, oSl_str, oSl_ref, oLen_tup, oLen_str, oLen_ref, oAbs_int, oInt_int, oInt_bl, oMax_int, oMin_int, oTuple_tup, oTuple_ref, oList_tup, oList_str, oList_ref, oIx_tupE, oIx_ref, oAppend_ref, oPop_ref, oExtend_tupE, oSet_ref, isL_ref, isS_str, vO_some, ixO_lst, ixO_dicI, ixO_dicS, ixO_rodI, ixO_rodS, lsO_lst, rdO_lst, rdO_rol, lenO_lst, lenO_dic, lenO_rol, addO_lst, setO_lst, setO_dicI, setO_dicS, atI_zero, atI_one, atI_two, atI_end, startE, wipeE, List.map_cons, List.map_nil, List.length_cons, List.length_nil, List.replicate, List.cons_append, List.nil_append, Nat.reduceAdd, Nat.reduceSub, List.replicate_succ, List.replicate_zero, put_same, Nat.zero_le, Int.reduceLT, Int.reduceLE, Nat.reduceLT, Nat.reduceLeDiff, and_true, true_and, Bool.false_eq_true, ↓reduceIte, Bool.not_true, Bool.not_false, decide_true, decide_false, *])
local macro_rules | `(tactic| walk_at "i") => `(tactic| try simp only [sqIf_a, sqAsg_a, sqDrop_a, sqPar_a, sqPar3_a, sqRet_a, sqNext_a, sqSeq_a, sNext_a, sBreak_a, sCont_a, sDrop_a, sRet_a, sRetN_a, sIf_a, sAsg_a, sPar_a, sPar3_a, mVar_a, vAt_a, mC_a, mBin_a, mTest_a, bAt_a, mAnd_a, mOr_a, mNot_a, mYes_a, mAndV_a, mOrV_a, mNotV_a, mIf_a, mNil_a, mCons_a, mTup_a, mLst_a, mCall_a, mCallK_a, mMeth_a, mSl_a, mNoPart_a, iAt_a, mPart_a, mIsi_b, tysO_some, List.any_cons, List.any_nil, Bool.or_false, Bool.false_or, Bool.or_true, Bool.true_or, Int.natCast_pos, gN_a, gTup_a, gCons_a, gNil_a, gSub_a, sFor_a, mLc_a, mDc_a, wSeq_a, sqO_tup, sqO_str, sqO_ref, wRng1_a, mRev_a, revO_ref, List.getD_cons_zero, List.getD_cons_succ, ite_self, List.set_cons_zero, List.set_cons_succ, List.getElem?_cons_zero, List.getElem?_cons_succ, oAdd_int, oAdd_str, oAdd_tup, oAdd_ref, oSub_int, oMul_int, oDiv_int, oMod_int, oPow_int, oLt_int, oLe_int, oGt_int, oGe_int, oIs_nn, oIs_bn, oIs_in, oIs_sn, oIs_tn, oIs_rn, oIs_bb, oIs_nb, oIs_ib, oIs_sb, oIs_tb, oIs_rb, oIsi_int, oIsi_str, oIsi_bool, oIsi_tuple, oIsi_list, oIsi_dict, tyO_some, tyD_non, tyD_bl, tyD_int, tyD_str, tyD_tup, isi_facts, oEq_int, oNe_int, oEq_str, oNe_str, oSl_tup, oSl_str, oSl_ref, oLen_tup, oLen_str, oLen_ref, oAbs_int, oInt_int, oInt_bl, oMax_int, oMin_int, oTuple_tup, oTuple_ref, oList_tup, oList_str, oList_ref, oIx_tupE, oIx_ref, oAppend_ref, oPop_ref, oExtend_tupE, oSet_ref, isL_ref, isS_str, vO_some, ixO_lst, ixO_dicI, ixO_dicS, ixO_rodI, ixO_rodS, lsO_lst, rdO_lst, rdO_rol, lenO_lst, lenO_dic, lenO_rol, addO_lst, setO_lst, setO_dicI, setO_dicS, atI_zero, atI_one, atI_two, atI_end, startE, wipeE, List.map_cons, List.map_nil, List.length_cons, List.length_nil, List.replicate, List.cons_append, List.nil_append, Nat.reduceAdd, Nat.reduceSub, List.replicate_succ, List.replicate_zero, put_same, Nat.zero_le, Int.reduceLT, Int.reduceLE, Nat.reduceLT, Nat.reduceLeDiff, and_true, true_and, Bool.false_eq_true, ↓reduceIte, Bool.not_true, Bool.not_false, decide_true, decide_false, *])

/-! ### what the defs at the head of the text promise -/
def S_law_deal : DSp := fun vs st Q => ∃ (a : Addr) (ns : List Int) (s : Int), vs = [.ref a, .int s] ∧ st a = some (.rol (ns.map D.int)) ∧ 0 ≤ s ∧ s ≤ 1000 ∧ ∀ n m st', Deal st' n m → Q (.ref n) st'
def S_law_any : DSp := fun vs st Q => ∃ (n m : Addr) (b : Int), vs = [.ref n, .int b] ∧ Deal st n m ∧ 0 < b ∧ b < 1000000000 ∧ ∀ k st', 0 ≤ k → k < b → Up n m st st' → Q (.int k) st'
/-- _law_deal(script, salt): 0 script 1 salt 2 most 3 cells 4 mix 5 cell -/
def t_law_deal : MS := sSeq (sAsg (mBin oMul (mBin oMul (mBin oMul (mBin oMul (mBin oMul (mBin oPow (mC (.int 10)) (mC (.int 64))) (mBin oPow (mC (.int 10)) (mC (.int 64)))) (mBin oPow (mC (.int 10)) (mC (.int 64)))) (mBin oPow (mC (.int 10)) (mC (.int 64)))) (mBin oPow (mC (.int 10)) (mC (.int 64)))) (mBin oPow (mC (.int 10)) (mC (.int 64)))) (gN 2))
    (sSeq (sAsg (mLc (wSeq (mSl (mVar 0) (mNoPart) (mPart (mC (.int 63))))) (gN 5) (mYes) (mBin oMod (mCall oInt (mCons (mCall oAbs (mCons (mCall oInt (mCons (mVar 5) (mNil))) (mNil))) (mNil))) (mVar 2)) [5]) (gN 3))
    (sSeq (sAsg (mBin oAdd (mC (.int 70001)) (mBin oMul (mC (.int 7919)) (mVar 1))) (gN 4))
    (sSeq (sFor (wSeq (mVar 3)) (gN 5) (sAsg (mBin oMod (mCall oInt (mCons (mBin oAdd (mBin oAdd (mBin oMul (mVar 4) (mC (.int 69621))) (mBin oMod (mCall oInt (mCons (mVar 5) (mNil))) (mC (.int 2147483563)))) (mC (.int 23))) (mNil))) (mC (.int 2147483647))) (gN 4)))
    (sRet (mLst (mCons (mRev (mLc (wSeq (mVar 3)) (gN 5) (mTest (mBin oGe (mVar 5) (mBin oPow (mC (.int 10)) (mC (.int 18))))) (mVar 5) [5])) (mCons (mVar 4) (mNil))))))))
/-- _law_any(deal, bound): 0 deal 1 bound 2 rest -/
def t_law_any : MS := sSeq (sWhile (mAnd (mTest (mBin oGt (mCall oLen (mCons (mBin oIx (mVar 0) (mC (.int 0))) (mNil))) (mC (.int 0)))) (mTest (mBin oEq (mBin oIx (mBin oIx (mVar 0) (mC (.int 0))) (mC (.int (-1)))) (mC (.int 0))))) (sDrop (mMeth isL oPop (mBin oIx (mVar 0) (mC (.int 0))) mNil)))
    (sSeq (sIf (mTest (mBin oGt (mCall oLen (mCons (mBin oIx (mVar 0) (mC (.int 0))) (mNil))) (mC (.int 0)))) (sSeq (sAsg (mCall oInt (mCons (mMeth isL oPop (mBin oIx (mVar 0) (mC (.int 0))) mNil) (mNil))) (gN 2))
    (sSeq (sDrop (mMeth isL oAppend (mBin oIx (mVar 0) (mC (.int 0))) (mCons (mBin oDiv (mVar 2) (mVar 1)) (mNil))))
    (sRet (mBin oMod (mVar 2) (mVar 1))))) (sNext))
    (sSeq (sAsg (mBin oMod (mCall oInt (mCons (mBin oAdd (mBin oMul (mBin oIx (mVar 0) (mC (.int 1))) (mC (.int 48271))) (mC (.int 31))) (mNil))) (mC (.int 2147483647))) (gSub (mVar 0) (mC (.int 1)) oSet))
    (sRet (mBin oMod (mCall oInt (mCons (mBin oDiv (mBin oIx (mVar 0) (mC (.int 1))) (mC (.int 64))) (mNil))) (mVar 1)))))
/-- what a draw leaves -/
theorem DealAt.draw {st : Sto} {n m : Addr} {cells cells' : List Int} {mix : Int} (h : DealAt st n m cells mix) (nn : ∀ c ∈ cells', 0 ≤ c) (sz : cells'.length ≤ 63) : DealAt (put st m (.lst (cells'.map D.int))) n m cells' mix :=
  ⟨by rw [put_ne h.ne]; exact h.ln, put_same, nn, h.m0, h.m1, sz⟩
theorem DealAt.remix {st : Sto} {n m : Addr} {cells : List Int} {mix mix' : Int} (h : DealAt st n m cells mix) (h0 : 0 ≤ mix') (h1 : mix' < 2147483647) : DealAt (put st n (.lst [.ref m, .int mix'])) n m cells mix' :=
  ⟨put_same, by rw [put_ne h.ne.symm]; exact h.lm, h.nn, h0, h1, h.sz⟩
theorem Up.draw {st st' : Sto} {n m a : Addr} {o : Ob} (u : Up n m st st') (ha : a = n ∨ a = m) (d : Deal (DL.put st' a o) n m) : Up n m st (DL.put st' a o) :=
  ⟨fun x v h1 h2 hn e => by
    rw [put_ne (by rcases ha with rfl | rfl <;> assumption)]
    exact u.keep x v h1 h2 hn e, d⟩
theorem kp_law_any : Keeps 2 3 S_law_any t_law_any := by
  refine ⟨fun ds st Q ⟨n, m, b, e, _⟩ => by rw [e]; rfl, fun ds st Q ⟨n, m, b, e, hd, b0, b1, k⟩ => ?_⟩
  subst e
  unfold t_law_any
  obtain ⟨cells0, mix0, hd0⟩ := hd
  refine sSeq_i (fun env st' => env = [some (D.ref n), some (D.int b), none] ∧ Up n m st st') (fun nx hx => ?_) fun env st1 ⟨e, hu⟩ => ?_
  · refine ⟨fun j env st' => env = [some (D.ref n), some (D.int b), none] ∧ ∃ cells mix, DealAt st' n m cells mix ∧ cells.length = j ∧ Up n m st st', ⟨_, rfl, _, _, hd0, rfl, Up.refl ⟨_, _, hd0⟩⟩, ?_⟩
    clear hd0 cells0 mix0 k
    rintro j env st1 ⟨rfl, cells, mix, hd1, hj, hu⟩
    have ln := hd1.ln
    have lm := hd1.lm
    have hx1 := hx _ _ ⟨rfl, hu⟩
    rcases List.eq_nil_or_concat cells with rfl | ⟨l, c, rfl⟩
    · walk_at "s"
    · rw [List.concat_eq_append] at *
      have e1 : (List.map D.int (l ++ [c])).getLast? = some (.int c) := by simp
      have e2 : (List.map D.int (l ++ [c])).dropLast = l.map D.int := by simp
      have e3 : 0 < (List.map D.int (l ++ [c])).length := by simp
      have hd2 : DealAt (put st1 m (.lst (l.map D.int))) n m l mix := hd1.draw (fun c' hc => hd1.nn c' (List.mem_append_left _ hc)) (by have := hd1.sz; rw [List.length_append] at this; omega)
      have hn : Up n m st (put st1 m (.lst (l.map D.int))) := hu.draw (.inr rfl) ⟨l, mix, hd2⟩
      have hq : ∃ m', m' < j ∧ ∃ cells mix, DealAt (put st1 m (.lst (l.map D.int))) n m cells mix ∧ cells.length = m' ∧ Up n m st (put st1 m (.lst (l.map D.int))) :=
        ⟨l.length, by rw [← hj]; simp, l, mix, hd2, rfl, hn⟩
      clear hx
      walk_at "s"
      by_cases hc : c = 0
      · subst hc
        simp only [decide_true, if_true]
        obtain ⟨m', h1, cl, mx, h2, h3, h4⟩ := hq
        exact ⟨m', h1, cl, mx, h2, h3⟩
      · simp [hc]
  · subst e
    obtain ⟨cells, mix, hd1⟩ := hu.deal
    have ln := hd1.ln
    have lm := hd1.lm
    rw [sqIf_a]
    have q1 := hd1.m0
    have q2 := hd1.m1
    rcases List.eq_nil_or_concat cells with rfl | ⟨l, c, rfl⟩
    · have w1 : CMulW mix 48271 := wide_mul (a := 31) (b := 16) (by omega) (by omega) (by omega) (by omega) (by omega)
      have w2 : CDivW ((mix * 48271 + 31) % 2147483647) 64 := wide_div (b := 7) (by omega) (by omega) (by omega) (by omega)
      have e5 : ixN 2 1 = some 1 := by decide
      walk_at "s"
      refine ⟨_, rfl, ?_⟩
      walk_at "s"
      refine endsOf_i (k _ _ (Int.emod_nonneg _ (by omega)) (Int.emod_lt_of_pos _ b0) (hu.draw (.inl rfl) ⟨[], _, hd1.remix (by omega) (by omega)⟩))
    · rw [List.concat_eq_append] at *
      have e1 : (List.map D.int (l ++ [c])).getLast? = some (.int c) := by simp
      have e2 : (List.map D.int (l ++ [c])).dropLast = l.map D.int := by simp
      have e3 : 0 < (List.map D.int (l ++ [c])).length := by simp
      have c0 := hd1.nn c (by simp)
      have sz := hd1.sz
      have e4 : put st1 m (.lst (l.map D.int)) n = some (.lst [.ref m, .int mix]) := by rw [put_ne hd1.ne]; exact hd1.ln
      have w1 : CDivW c b := wide_div (b := 30) b0 (by omega) (by omega) (by omega)
      have w3 : (l.map D.int).length < sizeLine := by
        rw [List.length_append] at sz
        rw [List.length_map]
        have : sizeLine = 16777216 := rfl
        omega
      walk_at "s"
      have e6 : l.map D.int ++ [D.int (c / b)] = (l ++ [c / b]).map D.int := by simp
      rw [put_put, e6]
      refine endsOf_i (k _ _ (Int.emod_nonneg _ (by omega)) (Int.emod_lt_of_pos _ b0) (hu.draw (.inr rfl) ⟨_, _, hd1.draw (cells' := l ++ [c / b]) (fun c' hc => ?_) (by simpa using sz)⟩))
      rcases List.mem_append.mp hc with hc | hc
      · exact hd1.nn c' (List.mem_append_left _ hc)
      · rw [List.mem_singleton.mp hc]
        exact Int.ediv_nonneg c0 (by omega)
/-- a list or tuple apart from the deal -/
def sq (st : Sto) (n m : Addr) : D → List D → Prop
  | .tup ys, xs => ys = xs
  | .ref a, xs => a ≠ n ∧ a ≠ m ∧ st a = some (.lst xs)
  | .str z, xs => z.length ≤ sizeLine ∧ signsD z = xs
  | _, _ => False
theorem signsD_len (z : Str) : (signsD z).length = z.length := by
  unfold signsD
  rw [List.length_map, Array.length_toList]
  rfl
theorem atI_signs (z : Str) (i : Int) : atI (signsD z) i = (atI z.cps.toList i).map fun c => D.str ⟨#[c]⟩ := by
  unfold signsD atI
  rw [List.length_map]
  cases ixN z.cps.toList.length i with
  | none => rfl
  | some j => rw [Option.bind_some, Option.bind_some, List.getElem?_map]
theorem oIx_strO {z : Str} {i : Int} {st : Sto} {Q : DK} (hz : z.length ≤ sizeLine) : oIx (.str z) (.int i) st Q = vO (atI (signsD z) i) st Q := by
  rw [atI_signs]
  show (z.length ≤ sizeLine ∧ ∃ c, atI z.cps.toList i = some c ∧ Q (.str ⟨#[c]⟩) st) = _
  cases e : atI z.cps.toList i with
  | none => simp [vO]
  | some c => simp [vO, hz]
theorem sq.up {st st' : Sto} {n m : Addr} {x : D} {xs : List D} (h : sq st n m x xs) (u : Up n m st st') : sq st' n m x xs := by
  cases x <;> try exact h
  exact ⟨h.1, h.2.1, u.keep _ _ h.1 h.2.1 trivial h.2.2⟩
theorem sq.len {st : Sto} {n m : Addr} {x : D} {xs : List D} {Q : DK} (h : sq st n m x xs) : oLen [x] st Q = Q (.int xs.length) st := by
  cases x <;> try exact h.elim
  · obtain ⟨h1, rfl⟩ := h
    rw [oLen_str, signsD_len]
    simp [h1]
  · rw [oLen_ref, h.2.2]; rfl
  · have e : _ = xs := h
    rw [oLen_tup, e]
theorem sq.ix {st : Sto} {n m : Addr} {x : D} {xs : List D} {i : Int} {Q : DK} (h : sq st n m x xs) : oIx x (.int i) st Q = vO (atI xs i) st Q := by
  cases x <;> try exact h.elim
  · obtain ⟨h1, rfl⟩ := h
    exact oIx_strO h1
  · rw [oIx_ref, h.2.2]; rfl
  · have e : _ = xs := h
    rw [oIx_tupE, e]
def S_law_of : DSp := fun vs st Q => ∃ (n m : Addr) (x : D) (xs : List D), vs = [.ref n, x] ∧ Deal st n m ∧ sq st n m x xs ∧ 0 < xs.length ∧ xs.length < 1000000 ∧ ∀ d st', d ∈ xs → Up n m st st' → Q d st'
def S_law_is_kind : DSp := fun vs st Q => ∃ d, vs = [d, d] ∧ flatD d = true ∧ Q (.bl true) st
/-- _law_of(deal, some): 0 deal 1 some -/
def t_law_of : MS := sRet (mBin oIx (mVar 1) (mCall S_law_any (mCons (mVar 0) (mCons (mCall oLen (mCons (mVar 1) (mNil))) (mNil)))))
theorem kp_law_of : Keeps 2 2 S_law_of t_law_of := by
  refine ⟨fun ds st Q ⟨n, m, x, xs, e, _⟩ => by rw [e]; rfl, fun ds st Q ⟨n, m, x, xs, e, hd, hs, l0, l1, k⟩ => ?_⟩
  subst e
  unfold t_law_of
  have e1 := fun Q => hs.len (Q := Q)
  walk_at "s"
  refine ⟨n, m, _, rfl, hd, by omega, by omega, fun i st' h0 h1 u => ?_⟩
  show oIx x (.int i) st' _
  rw [(hs.up u).ix]
  obtain ⟨j, rfl⟩ : ∃ j : Nat, i = j := ⟨i.toNat, by omega⟩
  have hj : j < xs.length := by omega
  rw [atI_ofNat, List.getElem?_eq_getElem hj]
  exact endsOf_i (k _ _ (List.getElem_mem hj) u)
/-- _law_is_kind(told, due): 0 told 1 due -/
def t_law_is_kind : MS := sSeq (sIf (mTest (mBin oIs (mVar 1) (mC .non))) (sRet (mBin oIs (mVar 0) (mC .non))) (sNext))
    (sSeq (sIf (mOr (mTest (mBin oIs (mVar 1) (mC (.bl true)))) (mTest (mBin oIs (mVar 1) (mC (.bl false))))) (sRet (mIf (mTest (mVar 1)) (mBin oIs (mVar 0) (mC (.bl true))) (mBin oIs (mVar 0) (mC (.bl false))))) (sNext))
    (sSeq (sIf (mTest (mCall oIsi (mCons (mVar 1) (mCons (mC (.ty "str")) (mNil))))) (sRet (mAndV (mCall oIsi (mCons (mVar 0) (mCons (mC (.ty "str")) (mNil)))) (mBin oEq (mVar 0) (mVar 1)))) (sNext))
    (sRet (mAndV (mCall oIsi (mCons (mVar 0) (mCons (mC (.ty "int")) (mNil)))) (mAndV (mNotV (mCall oIsi (mCons (mVar 0) (mCons (mC (.ty "bool")) (mNil))))) (mBin oEq (mVar 0) (mVar 1)))))))
theorem kp_law_is_kind : Keeps 2 2 S_law_is_kind t_law_is_kind := by
  refine ⟨fun ds st Q ⟨d, e, _⟩ => by rw [e]; rfl, fun ds st Q ⟨d, e, hf, k⟩ => ?_⟩
  subst e
  have q : (endsOf Q).rt (.bl true) st := endsOf_i k
  unfold t_law_is_kind
  cases d with
  | non => walk_at "i"
  | bl b => cases b <;> walk_at "i"
  | int b => walk_at "i"
  | str b => walk_at "i"
  | _ => cases hf
/-- plain data: no lists, no dicts -/
def datD : D → Bool
  | .non => true
  | .bl _ => true
  | .int _ => true
  | .str _ => true
  | .tup xs => datDs xs
  | _ => false
where datDs : List D → Bool
  | [] => true
  | x :: xs => datD x && datDs xs
def wD : D → Nat
  | .tup xs => 1 + wDs xs
  | _ => 1
where wDs : List D → Nat
  | [] => 0
  | x :: xs => wD x + wDs xs
theorem wD_pos (d : D) : 0 < wD d := by cases d <;> simp [wD] <;> omega
theorem datDs_all : ∀ {xs : List D}, datD.datDs xs = true → ∀ d ∈ xs, datD d = true
  | [], _, _, h => by cases h
  | x :: xs, e, d, h => by
    rw [datD.datDs, Bool.and_eq_true] at e
    rcases List.mem_cons.mp h with rfl | h
    · exact e.1
    · exact datDs_all e.2 d h
theorem datDs_of : ∀ {xs : List D}, (∀ d ∈ xs, datD d = true) → datD.datDs xs = true
  | [], _ => rfl
  | x :: xs, h => by
    rw [datD.datDs, Bool.and_eq_true]
    exact ⟨h x (List.mem_cons_self ..), datDs_of fun d hd => h d (List.mem_cons_of_mem _ hd)⟩
theorem wDs_append : ∀ (xs ys : List D), wD.wDs (xs ++ ys) = wD.wDs xs + wD.wDs ys
  | [], _ => by simp [wD.wDs]
  | x :: xs, ys => by rw [List.cons_append, wD.wDs, wD.wDs, wDs_append xs ys]; omega
theorem wDs_len : ∀ (xs : List D), xs.length ≤ wD.wDs xs
  | [] => Nat.le_refl _
  | x :: xs => by
    have := wDs_len xs
    have := wD_pos x
    rw [List.length_cons, wD.wDs]
    omega
def S_law_same : DSp := fun vs st Q => ∃ d, vs = [d, d] ∧ datD d = true ∧ wD d ≤ 10000000 ∧ ∀ st', Keep st st' → Q (.bl true) st'
/-- a thing twice -/
def twice (d : D) : D := .tup [d, d]
/-- _law_same(told, due): 0 told 1 due 2 todo 3 one 4 other 5 at -/
def t_law_same : MS := sSeq (sAsg (mLst (mCons (mTup (mCons (mVar 0) (mCons (mVar 1) (mNil)))) (mNil))) (gN 2))
    (sSeq (sWhile (mTest (mBin oGt (mCall oLen (mCons (mVar 2) (mNil))) (mC (.int 0)))) (sSeq (sAsg (mMeth isL oPop (mVar 2) mNil) (gTup 2 (gCons (gN 3) (gCons (gN 4) (gNil)))))
    (sIf (mTest (mCall oIsi (mCons (mVar 4) (mCons (mC (.ty "tuple")) (mNil))))) (sSeq (sIf (mOr (mNot (mTest (mCall oIsi (mCons (mVar 3) (mCons (mC (.ty "tuple")) (mNil)))))) (mTest (mBin oNe (mCall oLen (mCons (mVar 3) (mNil))) (mCall oLen (mCons (mVar 4) (mNil)))))) (sRet (mC (.bl false))) (sNext))
    (sFor (wRng1 (mCall oLen (mCons (mVar 4) (mNil)))) (gN 5) (sDrop (mMeth isL oAppend (mVar 2) (mCons (mTup (mCons (mBin oIx (mVar 3) (mVar 5)) (mCons (mBin oIx (mVar 4) (mVar 5)) (mNil)))) (mNil)))))) (sIf (mOr (mTest (mIsi ["tuple", "list", "dict"] (mVar 3))) (mNot (mTest (mCall S_law_is_kind (mCons (mVar 3) (mCons (mVar 4) (mNil))))))) (sRet (mC (.bl false))) (sNext)))))
    (sRet (mC (.bl true))))
theorem kp_law_same : Keeps 2 6 S_law_same t_law_same := by
  refine ⟨fun ds st Q ⟨d, e, _⟩ => by rw [e]; rfl, fun ds st Q ⟨d, e, hf, hw, k⟩ => ?_⟩
  subst e
  have sz2 : 2 ≤ sizeLine := by decide
  have sz1 : 1 ≤ sizeLine := by decide
  unfold t_law_same
  walk_at "s"
  intro p hp
  refine sSeq_i (fun env st' => Keep st st') (fun nx hx => ?_) fun env st1 hk => ?_
  · refine ⟨fun j env st' => ∃ x y z, env = [some d, some d, some (.ref p), x, y, z] ∧ ∃ ds : List D, st' p = some (.lst (ds.map twice)) ∧ (∀ d ∈ ds, datD d = true) ∧ wD.wDs ds = j ∧ j ≤ 10000000 ∧ Keep st st', ⟨wD d, none, none, none, rfl, [d], put_same, fun d' h => by rw [List.mem_singleton.mp h]; exact hf, rfl, hw, Keep.put hp⟩, ?_⟩
    rintro j env st1 ⟨x, y, z, rfl, ds, lp, hds, hj, hj2, hk⟩
    have hx1 := fun env => hx env _ hk
    rcases List.eq_nil_or_concat ds with rfl | ⟨l, c, rfl⟩
    · walk_at "i"
    · rw [List.concat_eq_append] at *
      have e1 : ((l ++ [c]).map twice).getLast? = some (.tup [c, c]) := by simp [twice]
      have e2 : ((l ++ [c]).map twice).dropLast = l.map twice := by simp
      have e3 : 0 < ((l ++ [c]).map twice).length := by simp
      have hc := hds c (by simp)
      have hj' : wD.wDs l + wD c = j := by rw [← hj, wDs_append]; simp [wD.wDs]
      have hl := wDs_len l
      have hcp := wD_pos c
      have hds' : ∀ d ∈ l, datD d = true := fun d hd => hds d (List.mem_append_left _ hd)
      have kp : Keep st (put st1 p (.lst (l.map twice))) := hk.mut hp
      have lp2 : put st1 p (.lst (l.map twice)) p = some (.lst (l.map twice)) := put_same
      clear hx hk hds
      walk_at "i"
      clear e1 e2 e3 lp hx1
      generalize put st1 p (.lst (l.map twice)) = st2 at *
      cases c with
      | tup xs =>
        have h1 : wD (.tup xs) = 1 + wD.wDs xs := rfl
        have hl2 := wDs_len xs
        have hcs := datDs_all (xs := xs) hc
        walk_at "i"
        refine ⟨by omega, fun i env st' => ∃ z, env = [some d, some d, some (.ref p), some (.tup xs), some (.tup xs), z] ∧ st' p = some (.lst ((l ++ xs.take i).map twice)) ∧ Keep st st', ⟨z, rfl, by simpa using lp2, kp⟩, fun _ _ _ _ _ => trivial, ?_, ?_⟩
        · rintro i w env st' hw ⟨z, rfl, lp3, kp3⟩
          have hi : i < xs.length := by
            have := List.getElem?_eq_some_iff.mp hw
            obtain ⟨h, _⟩ := this
            simpa [rangeD] using h
          have ew : w = .int ((i : Nat) : Int) := by
            simp [rangeD, hi] at hw
            exact hw.symm
          subst ew
          have e5 : atI xs ((i : Nat) : Int) = some xs[i] := by rw [atI_ofNat, List.getElem?_eq_getElem hi]
          have e6 : ((l ++ xs.take i).map twice).length < sizeLine := by
            rw [List.length_map, List.length_append, List.length_take, szL]
            omega
          walk_at "i"
          refine ⟨_, rfl, ?_, kp3.mut hp⟩
          congr 2
          rw [take_snoc (List.getElem?_eq_getElem hi), ← List.append_assoc]
          exact (List.map_append (f := twice) (l₁ := l ++ xs.take i) (l₂ := [xs[i]])).symm
        · rintro env st' ⟨z, rfl, lp3, kp3⟩
          rw [show (rangeD 0 (xs.length : Int).toNat).length = xs.length by simp [rangeD], List.take_length] at lp3
          refine ⟨_, by omega, _, _, _, rfl, l ++ xs, lp3, fun d' hd => ?_, wDs_append .., by omega, kp3⟩
          rcases List.mem_append.mp hd with hd | hd
          · exact hds' d' hd
          · exact hcs d' hd
      | non =>
        walk_at "i"
        exact ⟨_, rfl, rfl, _, by omega, _, _, _, rfl, l, lp2, hds', rfl, by omega, kp⟩
      | bl v =>
        walk_at "i"
        exact ⟨_, rfl, rfl, _, by omega, _, _, _, rfl, l, lp2, hds', rfl, by omega, kp⟩
      | int v =>
        walk_at "i"
        exact ⟨_, rfl, rfl, _, by omega, _, _, _, rfl, l, lp2, hds', rfl, by omega, kp⟩
      | str v =>
        walk_at "i"
        exact ⟨_, rfl, rfl, _, by omega, _, _, _, rfl, l, lp2, hds', rfl, by omega, kp⟩
      | ty n => cases hc
      | ref a => cases hc
  · walk_at "i"
    exact endsOf_i (k _ hk)
def S_law_all : DSp := fun vs st Q => ∃ (a : Addr) (ds : List D), vs = [.ref a] ∧ st a = some (.lst (ds.map twice)) ∧ ds.length ≤ 1000000 ∧ (∀ d ∈ ds, datD d = true ∧ wD d ≤ 10000000) ∧ ∀ st', Keep st st' → Q (.bl true) st'
/-- _law_all(pairs): 0 pairs 1 told 2 due -/
def t_law_all : MS := sRet (mBin oEq (mCall oLen (mCons (mLc (wSeq (mVar 0)) (gTup 2 (gCons (gN 1) (gCons (gN 2) (gNil)))) (mNot (mTest (mCall S_law_same (mCons (mVar 1) (mCons (mVar 2) (mNil)))))) (mVar 1) [1, 2]) (mNil))) (mC (.int 0)))
theorem kp_law_all : Keeps 1 3 S_law_all t_law_all := by
  refine ⟨fun ds st Q ⟨a, xs, e, _⟩ => by rw [e]; rfl, fun ds st Q ⟨a, xs, e, la, hl, hd, k⟩ => ?_⟩
  subst e
  unfold t_law_all
  walk_at "s"
  refine lc_keep (fun _ => none) (fun st' u => ?_) (by rw [List.length_map, szL]; omega) (fun x hx st2 u P N hy hn => ?_) fun p st' hp u lp => ?_
  · rw [u.l la]; rfl
  · obtain ⟨d, hdx, rfl⟩ := List.mem_map.mp hx
    obtain ⟨h1, h2⟩ := hd d hdx
    unfold twice
    walk_at "s"
    refine ⟨d, rfl, h1, h2, fun st3 u3 => ?_⟩
    have hn' := hn st3 rfl u3
    clear hn hy
    walk_at "s"
  · have e : (xs.map twice).filterMap (fun _ => (none : Option D)) = [] := by simp
    rw [e] at lp
    clear la
    walk_at "s"
    exact endsOf_i (k _ u)
def words22 : List Str := ["same", "use", "by", "at", "left", "right", "grow", "cases", "smaller", "claim", "together", "done", "sort", "open", "make", "do", "rule", "word", "alike", "unlike", "all", "broken"]
def S_law_words : DSp := fun vs st Q => vs = [] ∧ ∀ p st', Nf st p → Keep st st' → st' p = some (.lst (words22.map D.str)) → Q (.ref p) st'
/-- _law_words(): 0 some -/
def t_law_words : MS := sSeq (sAsg (mLst (mCons (mC (.str "same")) (mCons (mC (.str "use")) (mCons (mC (.str "by")) (mCons (mC (.str "at")) (mCons (mC (.str "left")) (mCons (mC (.str "right")) (mCons (mC (.str "grow")) (mCons (mC (.str "cases")) (mCons (mC (.str "smaller")) (mCons (mC (.str "claim")) (mCons (mC (.str "together")) (mCons (mC (.str "done")) (mNil)))))))))))))) (gN 0))
    (sRet (mBin oAdd (mVar 0) (mLst (mCons (mC (.str "sort")) (mCons (mC (.str "open")) (mCons (mC (.str "make")) (mCons (mC (.str "do")) (mCons (mC (.str "rule")) (mCons (mC (.str "word")) (mCons (mC (.str "alike")) (mCons (mC (.str "unlike")) (mCons (mC (.str "all")) (mCons (mC (.str "broken")) (mNil))))))))))))))
theorem kp_law_words : Keeps 0 1 S_law_words t_law_words := by
  refine ⟨fun ds st Q ⟨e, _⟩ => by rw [e]; rfl, fun ds st Q ⟨e, k⟩ => ?_⟩
  subst e
  have s1 : 12 ≤ sizeLine := by decide
  have s2 : 10 ≤ sizeLine := by decide
  have s3 : 12 + 10 ≤ sizeLine := by decide
  unfold t_law_words
  walk_at "s"
  intro p hp q hq
  have n1 := hq.ne put_same
  rw [put_ne n1.symm]
  walk_at "s"
  intro r hr
  have n2 : r ≠ p := hr.ne (by rw [put_ne n1.symm]; exact put_same)
  have n3 : r ≠ q := hr.ne put_same
  refine endsOf_i (k _ _ ?_ (((Keep.put hp).new hq).new hr) put_same)
  rcases hr with h | ⟨xs, h⟩
  · rw [put_ne n3, put_ne n2] at h; exact .inl h
  · rw [put_ne n3, put_ne n2] at h; exact .inr ⟨xs, h⟩
end L2.DL

namespace L2.DL
open PySem PySem.Spec PyProof.Rows
local macro_rules | `(tactic| walk_at "s") => `(tactic| try simp only [sqAsg_a, sqDrop_a, sqPar_a, sqPar3_a, sqRet_a, sqNext_a, sqSeq_a, sNext_a, sBreak_a, sCont_a, sDrop_a, sRet_a, sRetN_a, sIf_a, sAsg_a, sPar_a, sPar3_a, mVar_a, vAt_a, mC_a, mBin_a, mTest_a, bAt_a, mAnd_a, mOr_a, mNot_a, mYes_a, mAndV_a, mOrV_a, mNotV_a, mIf_a, mNil_a, mCons_a, mTup_a, mLst_a, mCall_a, mCallK_a, mMeth_a, mSl_a, mNoPart_a, iAt_a, mPart_a, mIsi_b, tysO_some, List.any_cons, List.any_nil, Bool.or_false, Bool.false_or, Bool.or_true, Bool.true_or, Int.natCast_pos, gN_a, gTup_a, gCons_a, gNil_a, gSub_a, sFor_a, mLc_a, mDc_a, wSeq_a, sqO_tup, sqO_str, sqO_ref, wRng1_a, mRev_a, revO_ref, List.getD_cons_zero, List.getD_cons_succ, ite_self, List.set_cons_zero, List.set_cons_succ, List.getElem?_cons_zero, List.getElem?_cons_succ, oAdd_int, oAdd_str, oAdd_tup, oAdd_ref, oSub_int, oMul_int, oDiv_int, oMod_int, oPow_int, oLt_int, oLe_int, oGt_int, oGe_int, oIs_nn, oIs_bn, oIs_in, oIs_sn, oIs_tn, oIs_rn, oIs_bb, oIs_nb, oIs_ib, oIs_sb, oIs_tb, oIs_rb, oIsi_int, oIsi_str, oIsi_bool, oIsi_tuple, oIsi_list, oIsi_dict, tyO_some, tyD_non, tyD_bl, tyD_int, tyD_str, tyD_tup, isi_facts, oEq_int, oNe_int, oEq_str, oNe_str, oSl_tup, oSl_str, oSl_ref, oLen_tup, oLen_str, oLen_ref, oAbs_int, oInt_int, oInt_bl, oMax_int, oMin_int, oTuple_tup, oTuple_ref, oList_tup, oList_str, oList_ref, oIx_tupE, oIx_ref, oAppend_ref, oPop_ref, oExtend_tupE, oSet_ref, isL_ref, isS_str, vO_some, ixO_lst, ixO_dicI, ixO_dicS, ixO_rodI, ixO_rodS, lsO_lst, rdO_lst, rdO_rol, lenO_lst, lenO_dic, lenO_rol, addO_lst, setO_lst, setO_dicI, setO_dicS, atI_zero, atI_one, atI_two, atI_end, startE, wipeE, List.map_cons, List.map_nil, List.length_cons, List.length_nil, List.replicate, List.cons_append, List.nil_append, Nat.reduceAdd, Nat.reduceSub, List.replicate_succ, List.replicate_zero, put_same, Nat.zero_le, Int.reduceLT, Int.reduceLE, Nat.reduceLT, Nat.reduceLeDiff, and_true, true_and, Bool.false_eq_true, ↓reduceIte, Bool.not_true, Bool.not_false, decide_true, decide_false, *])
local macro_rules | `(tactic| walk_at "i") => `(tactic| try simp only [sqIf_a, sqAsg_a, sqDrop_a, sqPar_a, sqPar3_a, sqRet_a, sqNext_a, sqSeq_a, sNext_a, sBreak_a, sCont_a, sDrop_a, sRet_a, sRetN_a, sIf_a, sAsg_a, sPar_a, sPar3_a, mVar_a, vAt_a, mC_a, mBin_a, mTest_a, bAt_a, mAnd_a, mOr_a, mNot_a, mYes_a, mAndV_a, mOrV_a, mNotV_a, mIf_a, mNil_a, mCons_a, mTup_a, mLst_a, mCall_a, mCallK_a, mMeth_a, mSl_a, mNoPart_a, iAt_a, mPart_a, mIsi_b, tysO_some, List.any_cons, List.any_nil, Bool.or_false, Bool.false_or, Bool.or_true, Bool.true_or, Int.natCast_pos, gN_a, gTup_a, gCons_a, gNil_a, gSub_a, sFor_a, mLc_a, mDc_a, wSeq_a, sqO_tup, sqO_str, sqO_ref, wRng1_a, mRev_a, revO_ref, List.getD_cons_zero, List.getD_cons_succ, ite_self, List.set_cons_zero, List.set_cons_succ, List.getElem?_cons_zero, List.getElem?_cons_succ, oAdd_int, oAdd_str, oAdd_tup, oAdd_ref, oSub_int, oMul_int, oDiv_int, oMod_int, oPow_int, oLt_int, oLe_int, oGt_int, oGe_int, oIs_nn, oIs_bn, oIs_in, oIs_sn, oIs_tn, oIs_rn, oIs_bb, oIs_nb, oIs_ib, oIs_sb, oIs_tb, oIs_rb, oIsi_int, oIsi_str, oIsi_bool, oIsi_tuple, oIsi_list, oIsi_dict, tyO_some, tyD_non, tyD_bl, tyD_int, tyD_str, tyD_tup, isi_facts, oEq_int, oNe_int, oEq_str, oNe_str, oSl_tup, oSl_str, oSl_ref, oLen_tup, oLen_str, oLen_ref, oAbs_int, oInt_int, oInt_bl, oMax_int, oMin_int, oTuple_tup, oTuple_ref, oList_tup, oList_str, oList_ref, oIx_tupE, oIx_ref, oAppend_ref, oPop_ref, oExtend_tupE, oSet_ref, isL_ref, isS_str, vO_some, ixO_lst, ixO_dicI, ixO_dicS, ixO_rodI, ixO_rodS, lsO_lst, rdO_lst, rdO_rol, lenO_lst, lenO_dic, lenO_rol, addO_lst, setO_lst, setO_dicI, setO_dicS, atI_zero, atI_one, atI_two, atI_end, startE, wipeE, List.map_cons, List.map_nil, List.length_cons, List.length_nil, List.replicate, List.cons_append, List.nil_append, Nat.reduceAdd, Nat.reduceSub, List.replicate_succ, List.replicate_zero, put_same, Nat.zero_le, Int.reduceLT, Int.reduceLE, Nat.reduceLT, Nat.reduceLeDiff, and_true, true_and, Bool.false_eq_true, ↓reduceIte, Bool.not_true, Bool.not_false, decide_true, decide_false, *])
/-! ### names -/
def al8 : List Str := ("abcdefgh" : Str).cps.toList.map fun c => (⟨#[c]⟩ : Str)
theorem signs_al8 : signsD ("abcdefgh" : Str) = al8.map D.str := by
  unfold signsD al8
  rw [List.map_map]
  rfl
def lateOf (a : Str) : List Str := al8.map fun b => a ++ b
def marks72 : List Str := al8 ++ al8.flatMap lateOf
def az18 : Str := "ijklmnopqrstuvwxyz"
/-- letters up to h -/
def filt (x : Str) : List Nat := x.cps.toList.filter fun c => decide (c ≤ 104)
def azOk (x : Str) : Bool := x.cps.toList.all fun c => decide (97 ≤ c ∧ c ≤ 122)
def nmOk (x : Str) : Prop := azOk x = true ∧ x.length ≤ 20
def NameAt (start step word : Int) (t : Nat) (x : Str) : Prop := nmOk x ∧ (words22[((word + t) % 22).toNat]? = some x ∨ (x ∉ words22 ∧ ∃ mk, marks72[((start + t * step) % 72).toNat]? = some mk ∧ filt x = mk.cps.toList))
theorem marks72_len : marks72.length = 72 := by decide +kernel
theorem al8_one : ∀ x ∈ al8, x.length = 1 := by decide +kernel
theorem words22_len : words22.length = 22 := rfl
theorem marks72_nodup : marks72.Nodup := by decide +kernel
theorem words22_nodup : words22.Nodup := by decide +kernel
theorem words22_ok : ∀ x ∈ words22, azOk x = true ∧ x.length ≤ 20 := by decide +kernel
theorem marks72_ok : ∀ x ∈ marks72, azOk x = true ∧ x.length ≤ 2 ∧ 1 ≤ x.length ∧ x ∉ words22 ∧ filt x = x.cps.toList := by decide +kernel
theorem az18_ok : az18.length = 18 ∧ ∀ c ∈ az18.cps.toList, 105 ≤ c ∧ c ≤ 122 := by decide +kernel
theorem get_inj {α : Type} {l : List α} (h : l.Nodup) {i j : Nat} {x : α} (h1 : l[i]? = some x) (h2 : l[j]? = some x) : i = j := by
  obtain ⟨a, h1⟩ := List.getElem?_eq_some_iff.mp h1
  obtain ⟨b, h2⟩ := List.getElem?_eq_some_iff.mp h2
  exact (List.getElem_inj h).mp (h1.trans h2.symm)
theorem NameAt.inj {start step word : Int} {t u : Nat} {x : Str} (hs : step ∈ [1, 5, 7, 11, 25, 35]) (ht : t < 22) (hu : u < 22) (h : NameAt start step word t x) (k : NameAt start step word u x) : t = u := by
  rcases h.2 with h1 | ⟨h1, a, h2, h3⟩
  · rcases k.2 with k1 | ⟨k1, _⟩
    · have := get_inj words22_nodup h1 k1
      omega
    · exact absurd (List.mem_of_getElem? h1) k1
  · rcases k.2 with k1 | ⟨k1, b, k2, k3⟩
    · exact absurd (List.mem_of_getElem? k1) h1
    · have e : a = b := str_ext (h3.symm.trans k3)
      subst e
      have := get_inj marks72_nodup h2 k2
      simp only [List.mem_cons, List.not_mem_nil, or_false] at hs
      rcases hs with rfl | rfl | rfl | rfl | rfl | rfl <;> omega
theorem cps_app (a b : Str) : (a ++ b).cps.toList = a.cps.toList ++ b.cps.toList := by
  show (a.cps ++ b.cps).toList = _
  simp
theorem len_app (a b : Str) : (a ++ b).length = a.length + b.length := by
  show (a.cps ++ b.cps).size = _
  simp [Str.length]
theorem len_cps (a : Str) : a.length = a.cps.toList.length := by simp [Str.length]
theorem cut_mem {z : Str} {lo hi : Option Int} {c : Nat} (h : c ∈ (cutS z lo hi).cps.toList) : c ∈ z.cps.toList := by
  unfold cutS at h
  simp only [List.toList_toArray] at h
  exact List.mem_of_mem_drop (List.mem_of_mem_take h)
theorem cut_len (z : Str) (lo hi : Option Int) : (cutS z lo hi).length ≤ z.length := by
  rw [len_cps, len_cps]
  unfold cutS
  simp only [List.toList_toArray, List.length_take, List.length_drop]
  omega
theorem name_ok {L mk : Str} (hL : ∀ c ∈ L.cps.toList, 105 ≤ c ∧ c ≤ 122) (hl : L.length ≤ 8) (hm : mk ∈ marks72) (a b c d : Option Int) :
    nmOk (cutS L a b ++ mk ++ cutS L c d) ∧ filt (cutS L a b ++ mk ++ cutS L c d) = mk.cps.toList := by
  obtain ⟨m1, m2, m3, m4, m5⟩ := marks72_ok mk hm
  have h1 := cut_len L a b
  have h2 := cut_len L c d
  have no : ∀ lo hi, (cutS L lo hi).cps.toList.filter (fun c => decide (c ≤ 104)) = [] := fun lo hi => by
    rw [List.filter_eq_nil_iff]
    intro x hx
    have := hL x (cut_mem hx)
    simp
    omega
  have ok : ∀ lo hi, (cutS L lo hi).cps.toList.all (fun c => decide (97 ≤ c ∧ c ≤ 122)) = true := fun lo hi => by
    rw [List.all_eq_true]
    intro x hx
    have := hL x (cut_mem hx)
    simp
    omega
  refine ⟨⟨?_, ?_⟩, ?_⟩
  · unfold azOk at m1 ⊢
    rw [cps_app, cps_app, List.all_append, List.all_append, ok, ok, m1]
    rfl
  · rw [len_app, len_app]
    omega
  · unfold filt at m5 ⊢
    rw [cps_app, cps_app, List.filter_append, List.filter_append, no, no, m5]
    simp
theorem joinL_mem {c : Nat} : ∀ {l : List (List Nat)}, c ∈ TL.joinL [] l → ∃ p ∈ l, c ∈ p
  | [], h => by cases h
  | [p], h => ⟨p, List.mem_cons_self .., h⟩
  | p :: q :: r, h => by
    have h' : c ∈ p ++ ([] ++ TL.joinL [] (q :: r)) := h
    rw [List.nil_append, List.mem_append] at h'
    rcases h' with h' | h'
    · exact ⟨p, List.mem_cons_self .., h'⟩
    · obtain ⟨z, hz, hc⟩ := joinL_mem h'
      exact ⟨z, List.mem_cons_of_mem _ hz, hc⟩
theorem join_mem {ys : List Str} {c : Nat} (h : c ∈ (Txt.join "" ys).cps.toList) : ∃ y ∈ ys, c ∈ y.cps.toList := by
  rw [TL.join_eq] at h
  have e := TL.tl_join "" ys
  have h' : c ∈ TL.tl (Str.join "" ys) := h
  rw [e] at h'
  obtain ⟨p, hp, hc⟩ := joinL_mem (show c ∈ TL.joinL [] (ys.map TL.tl) from h')
  obtain ⟨y, hy, rfl⟩ := List.mem_map.mp hp
  exact ⟨y, hy, hc⟩
theorem inF_strs (x : Str) (l : List Str) : inF (.str x) (l.map D.str) = decide (x ∈ l) := by
  unfold inF
  rw [List.any_map]
  induction l with
  | nil => simp
  | cons y l ih =>
    rw [List.any_cons, ih]
    by_cases h : x = y
    · subst h; simp [eqF]
    · have : (y == x) = false := by simpa using fun e => h e.symm
      simp [eqF, this, h]
theorem flat_strs (l : List Str) : (l.map D.str).all flatD = true := by
  rw [List.all_map, List.all_eq_true]
  intro x _
  rfl
theorem Nf.back {st st' : Sto} {n m p : Addr} (h : Nf st' p) (u : Up n m st st') (pn : p ≠ n) (pm : p ≠ m) : Nf st p := by
  cases e : st p with
  | none => exact .inl e
  | some o =>
    cases o with
    | rol xs => exact .inr ⟨xs, e⟩
    | _ => exact absurd rfl (h.not (u.keep _ _ pn pm (by trivial) e) (by trivial))
theorem Nf.backK {st st' : Sto} {p : Addr} (h : Nf st' p) (u : Keep st st') : Nf st p := by
  cases e : st p with
  | none => exact .inl e
  | some o =>
    cases o with
    | rol xs => exact .inr ⟨xs, e⟩
    | _ => exact absurd rfl (h.not (u _ _ (by trivial) e) (by trivial))
def S_law_names : DSp := fun vs st Q => ∃ (n m : Addr) (k : Nat), vs = [.ref n, .int k] ∧ Deal st n m ∧ k ≤ 22 ∧
  ∀ (names : List Str) a st', names.length = k → names.Nodup → (∀ x ∈ names, nmOk x) → a ≠ n → a ≠ m → Up n m st st' → st' a = some (.lst (names.map D.str)) → Nf st a → Q (.ref a) st'
/-- _law_names(deal, many): 0 deal 1 many 2 marks 3 words 4 lead 5 start 6 step 7 found 8 word 9 turn 10 mark 11 letters 12 place 13 name 14 late 15 spot -/
def t_law_names : MS := sSeq (sPar 2 3 (mCons (mCall oList (mCons (mC (.str "abcdefgh")) (mNil))) (mCons (mCall S_law_words mNil) (mNil))))
    (sSeq (sFor (wSeq (mC (.str "abcdefgh"))) (gN 4) (sAsg (mBin oAdd (mVar 2) (mLc (wSeq (mC (.str "abcdefgh"))) (gN 14) (mYes) (mBin oAdd (mVar 4) (mVar 14)) [14])) (gN 2)))
    (sSeq (sAsg (mTup (mCons (mCall S_law_any (mCons (mVar 0) (mCons (mC (.int 72)) (mNil)))) (mCons (mCall S_law_of (mCons (mVar 0) (mCons (mLst (mCons (mC (.int 1)) (mCons (mC (.int 5)) (mCons (mC (.int 7)) (mCons (mC (.int 11)) (mCons (mC (.int 25)) (mCons (mC (.int 35)) (mNil)))))))) (mNil)))) (mCons (mLst (mNil)) (mCons (mCall S_law_any (mCons (mVar 0) (mCons (mC (.int 22)) (mNil)))) (mNil)))))) (gTup 4 (gCons (gN 5) (gCons (gN 6) (gCons (gN 7) (gCons (gN 8) (gNil)))))))
    (sSeq (sFor (wRng1 (mVar 1)) (gN 9) (sSeq (sAsg (mBin oIx (mVar 2) (mBin oMod (mCall oInt (mCons (mBin oAdd (mVar 5) (mBin oMul (mVar 9) (mVar 6))) (mNil))) (mC (.int 72)))) (gN 10))
    (sSeq (sAsg (mMeth isS oJoin (mC (.str "")) (mCons (mLc (wRng1 (mCall S_law_any (mCons (mVar 0) (mCons (mBin oSub (mC (.int 9)) (mCall oLen (mCons (mVar 10) (mNil)))) (mNil))))) (gN 15) (mYes) (mBin oIx (mC (.str "ijklmnopqrstuvwxyz")) (mCall S_law_any (mCons (mVar 0) (mCons (mC (.int 18)) (mNil))))) [15]) (mNil))) (gN 11))
    (sSeq (sAsg (mCall S_law_any (mCons (mVar 0) (mCons (mBin oAdd (mCall oLen (mCons (mVar 11) (mNil))) (mC (.int 1))) (mNil)))) (gN 12))
    (sSeq (sAsg (mBin oAdd (mBin oAdd (mSl (mVar 11) (mNoPart) (mPart (mVar 12))) (mVar 10)) (mSl (mVar 11) (mPart (mVar 12)) (mNoPart))) (gN 13))
    (sIf (mTest (mBin oEq (mCall S_law_any (mCons (mVar 0) (mCons (mC (.int 6)) (mNil)))) (mC (.int 0)))) (sDrop (mMeth isL oAppend (mVar 7) (mCons (mBin oIx (mVar 3) (mBin oMod (mCall oInt (mCons (mBin oAdd (mVar 8) (mVar 9)) (mNil))) (mC (.int 22)))) (mNil)))) (sDrop (mMeth isL oAppend (mVar 7) (mCons (mIf (mTest (mBin oIn (mVar 13) (mVar 3))) (mVar 10) (mVar 13)) (mNil))))))))))
    (sRet (mVar 7)))))
theorem kp_law_names : Keeps 2 16 S_law_names t_law_names := by
  refine ⟨fun ds st Q ⟨n, m, k, e, _⟩ => by rw [e]; rfl, fun ds st Q ⟨n, m, j, e, hd, hj, k⟩ => ?_⟩
  subst e
  have s1 : ("abcdefgh" : Str).length ≤ sizeLine := by decide +kernel
  unfold t_law_names
  walk_at "s"
  intro p hp
  obtain ⟨pn, pm⟩ := hp.deal hd
  refine ⟨rfl, fun w st1 hw kw lw => ?_⟩
  have wp : w ≠ p := hw.ne put_same
  have lp1 : st1 p = _ := kw.l put_same
  have u1 : Up n m st st1 := ((Up.refl hd).put hp pn pm).then kw
  obtain ⟨wn, wm⟩ := hw.deal (hd.put pn pm)
  clear kw
  refine sSeq_i (fun env st' => ∃ q x, env = [some (.ref n), some (.int j), some (.ref q), some (.ref w), x, none, none, none, none, none, none, none, none, none, none, none] ∧ Up n m st st' ∧ st' w = some (.lst (words22.map D.str)) ∧ st' q = some (.lst (marks72.map D.str)) ∧ q ≠ n ∧ q ≠ m) (fun nx hx => ?_) ?_
  · rw [sFor_a]
    walk_at "s"
    rw [signs_al8] at *
    refine ⟨fun i env st' => ∃ q x, env = [some (.ref n), some (.int j), some (.ref q), some (.ref w), x, none, none, none, none, none, none, none, none, none, none, none] ∧ Up n m st st' ∧ st' w = some (.lst (words22.map D.str)) ∧ st' q = some (.lst ((al8 ++ (al8.take i).flatMap lateOf).map D.str)) ∧ q ≠ n ∧ q ≠ m, ⟨p, none, rfl, u1, lw, by simpa using lp1, pn, pm⟩, fun _ _ _ _ _ => trivial, ?_, ?_⟩
    · rintro i y env st' hy ⟨q, x, rfl, u2, lw2, lq2, qn, qm⟩
      clear hx lw lp1 u1
      rw [List.getElem?_map, Option.map_eq_some_iff] at hy
      obtain ⟨a, ha, rfl⟩ := hy
      have a1 := al8_one a (List.mem_of_getElem? ha)
      walk_at "s"
      rw [signs_al8]
      refine lc_keep (onS fun b => some (.str (a ++ b))) (fun _ _ => trivial) (by rw [List.length_map]; decide +kernel) (fun y hy st3 u3 P N hP hN => ?_) fun p3 st4 hp3 u4 lp4 => ?_
      · obtain ⟨b, hb, rfl⟩ := List.mem_map.mp hy
        have b1 := al8_one b hb
        have h1 : a.length + b.length ≤ sizeLine := by rw [a1, b1]; decide
        have h2 := hP (.str (a ++ b)) st3 rfl .refl
        clear hP hN a1 b1
        walk_at "s"
      · have n3 : p3 ≠ q := hp3.ne lq2
        have lq4 := u4.l lq2
        have lw4 := u4.l lw2
        have u5 := u2.then u4
        rw [onS_map, fm_some] at lp4
        replace lp4 : st4 p3 = some (.lst ((al8.map fun b => a ++ b).map D.str)) := by rw [lp4, List.map_map]; rfl
        have h1 : ((al8 ++ (al8.take i).flatMap lateOf).map D.str).length + ((al8.map fun b => a ++ b).map D.str).length ≤ sizeLine := by
          have e1 : al8.length = 8 := by decide +kernel
          have e2 : ((al8.take i).flatMap lateOf).length ≤ 8 * (al8.take i).length := by
            generalize al8.take i = l
            induction l with
            | nil => simp
            | cons b l ih =>
              have : (lateOf b).length = 8 := by unfold lateOf; rw [List.length_map, e1]
              simp only [List.flatMap_cons, List.length_append, List.length_cons]
              omega
          have e3 : (al8.take i).length ≤ 8 := by rw [List.length_take]; omega
          rw [List.length_map, List.length_append, List.length_map, List.length_map, szL]
          omega
        clear lq2 lw2 u4
        walk_at "s"
        refine fun p5 hp5 => ⟨_, _, rfl, u5.then (Keep.put hp5), (Keep.put hp5).l lw4, ?_, hp5.deal u5.deal⟩
        rw [put_same, ← List.map_append, List.append_assoc, take_snoc ha, List.flatMap_append]
        simp [lateOf]
    · rintro env st' ⟨q, x, rfl, u2, lw2, lq2, qn, qm⟩
      refine hx _ _ ⟨q, x, rfl, u2, lw2, ?_, qn, qm⟩
      rw [List.length_map, List.take_length] at lq2
      exact lq2
  · rintro env st2 ⟨q, x, rfl, u2, lw2, lq2, qn, qm⟩
    have z4 : 4 ≤ sizeLine := by decide
    have z6 : 6 ≤ sizeLine := by decide
    walk_at "s"
    refine ⟨n, m, 72, rfl, u2.deal, by omega, by omega, fun start st3 a0 a1 u3 => ?_⟩
    have lw3 := u3.l wn wm lw2
    have lq3 := u3.l qn qm lq2
    refine fun p4 hp4 => ?_
    obtain ⟨p4n, p4m⟩ := hp4.deal u3.deal
    have d4 : Deal (put st3 p4 (.lst [.int 1, .int 5, .int 7, .int 11, .int 25, .int 35])) n m := u3.deal.put p4n p4m
    refine ⟨n, m, .ref p4, _, rfl, d4, ⟨p4n, p4m, put_same⟩, by decide, by decide, fun sd st4 hsd u4 => ?_⟩
    obtain ⟨step, rfl, hstep⟩ : ∃ step : Int, sd = .int step ∧ step ∈ [1, 5, 7, 11, 25, 35] := by
      simp only [List.mem_cons, List.not_mem_nil, or_false] at hsd ⊢
      rcases hsd with rfl | rfl | rfl | rfl | rfl | rfl <;> exact ⟨_, rfl, by simp⟩
    have lw4 := u4.l wn wm ((Keep.put hp4).l lw3)
    have lq4 := u4.l qn qm ((Keep.put hp4).l lq3)
    have u5 : Up n m st st4 := ((u2.trans u3).then (Keep.put hp4)).trans u4
    clear lw3 lq3 lw2 lq2 u2 u3 u4 d4 lw lp1 u1
    walk_at "s"
    refine fun f hf => ?_
    obtain ⟨fn, fm⟩ := hf.deal u5.deal
    have fw := hf.ne lw4
    have fq := hf.ne lq4
    have nf0 : Nf st f := hf.back u5 fn fm
    refine ⟨n, m, 22, rfl, u5.deal.put fn fm, by omega, by omega, fun word st6 b0 b1 u6 => ?_⟩
    have lw6 := u6.l wn wm ((Keep.put hf).l lw4)
    have lq6 := u6.l qn qm ((Keep.put hf).l lq4)
    have lf6 := u6.l fn fm put_same
    have u7 : Up n m st st6 := (u5.then (Keep.put hf)).trans u6
    clear u5 u6 hf lw4 lq4 hw hp hp4 hsd
    walk_at "s"
    refine sSeq_i (fun env st' => ∃ a b c d e x, ∃ names : List Str, env = [some (.ref n), some (.int j), some (.ref q), some (.ref w), x, some (.int start), some (.int step), some (.ref f), some (.int word), a, b, c, d, e, none, none] ∧ names.length = j ∧ (∀ i x, names[i]? = some x → NameAt start step word i x) ∧ st' f = some (.lst (names.map D.str)) ∧ Up n m st st') (fun nx hx => ?_) ?_
    · rw [sFor_a]
      walk_at "s"
      refine ⟨by omega, fun i env st' => ∃ a b c d e x, ∃ names : List Str, env = [some (.ref n), some (.int j), some (.ref q), some (.ref w), x, some (.int start), some (.int step), some (.ref f), some (.int word), a, b, c, d, e, none, none] ∧ names.length = i ∧ (∀ i x, names[i]? = some x → NameAt start step word i x) ∧ st' f = some (.lst (names.map D.str)) ∧ st' q = some (.lst (marks72.map D.str)) ∧ st' w = some (.lst (words22.map D.str)) ∧ Up n m st st', ⟨_, _, _, _, _, _, [], rfl, rfl, fun i x h => by simp at h, lf6, lq6, lw6, u7⟩, fun _ _ _ _ _ => trivial, ?_, ?_⟩
      · rintro i y env st' hy ⟨a, b, c, d, e, x, names, rfl, hlen, hn, lf, lq, lw, u⟩
        clear lf6 lq6 lw6 u7 hx k
        have hi : i < j := by
          obtain ⟨h, _⟩ := List.getElem?_eq_some_iff.mp hy
          simpa [rangeD] using h
        have ey : y = .int ((i : Nat) : Int) := by
          simp [rangeD, hi] at hy
          exact hy.symm
        subst ey
        have w1 : CMulW i step := by
          refine wide_mul (a := 10) (b := 10) (by omega) ?_ (by omega) (by omega) (by omega)
          simp only [List.mem_cons, List.not_mem_nil, or_false] at hstep
          omega
        have hk0 : 0 ≤ (start + i * step) % 72 := Int.emod_nonneg _ (by omega)
        have hk1 : (start + i * step) % 72 < 72 := Int.emod_lt_of_pos _ (by omega)
        obtain ⟨mi, hmi⟩ : ∃ mi : Nat, (start + i * step) % 72 = mi := ⟨((start + i * step) % 72).toNat, by omega⟩
        have hmi2 : mi < marks72.length := by rw [marks72_len]; omega
        have hat : marks72[((start + i * step) % 72).toNat]? = some marks72[mi] := by
          rw [hmi, Int.toNat_natCast, List.getElem?_eq_getElem hmi2]
        have e1 : atI (marks72.map D.str) ((start + i * step) % 72) = some (.str marks72[mi]) := by
          rw [hmi, atI_ofNat, List.getElem?_map, List.getElem?_eq_getElem hmi2]; rfl
        have hmk := List.getElem_mem hmi2
        clear hmi
        generalize marks72[mi] = mk at *
        obtain ⟨m1, m2, m3, m4, m5⟩ := marks72_ok mk hmk
        have hml : mk.length ≤ sizeLine := by rw [szL]; omega
        have lf2 : (names.map D.str).length < sizeLine := by rw [List.length_map, szL]; omega
        have lw2 : words22.length = 22 := rfl
        clear hy
        walk_at "s"
        clear e1
        refine ⟨n, m, _, rfl, u.deal, by omega, by omega, fun cnt st8 c0 c1 u8 => ?_⟩
        have lf8 := u8.l fn fm lf
        have lq8 := u8.l qn qm lq
        have lw8 := u8.l wn wm lw
        have uu8 := u.trans u8
        clear u lf lq lw u8
        walk_at "s"
        refine ⟨by omega, ?_⟩
        refine lc_up (n := n) (m := m) (fun _ o => ∃ s : Str, o = some (.str s) ∧ s.length = 1 ∧ ∀ c ∈ s.cps.toList, 105 ≤ c ∧ c ≤ 122) uu8.deal (fun _ _ => trivial) (by simp [rangeD, szL]; omega) (fun y hy st9 u9 P N hP hN => ?_) fun p9 ys st10 hp9 hF u10 lp10 => ?_
        · obtain ⟨t, ht, rfl⟩ := List.mem_map.mp hy
          clear hN
          walk_at "s"
          refine ⟨n, m, 18, rfl, u9.deal, by omega, by omega, fun g st11 g0 g1 u11 => ?_⟩
          obtain ⟨gi, rfl⟩ : ∃ gi : Nat, g = gi := ⟨g.toNat, by omega⟩
          have hg : gi < az18.cps.toList.length := by
            have := az18_ok.1
            rw [len_cps] at this
            omega
          refine oIx_s (z := az18) (by decide +kernel) (c := az18.cps.toList[gi]) (by rw [atI_ofNat, List.getElem?_eq_getElem hg]) ?_
          refine hP _ _ ⟨_, rfl, rfl, fun c hc => ?_⟩ u11
          have : c = az18.cps.toList[gi] := by simpa using hc
          rw [this]
          exact az18_ok.2 _ (List.getElem_mem hg)
        · obtain ⟨cs, rfl, l1, l2⟩ := hF.strs
          have lf10 := u10.l fn fm lf8
          have lq10 := u10.l qn qm lq8
          have lw10 := u10.l wn wm lw8
          have uu10 := uu8.trans u10
          have l1' : cs.length ≤ 8 := by
            rw [l1]
            simp [rangeD]
            omega
          have l3 : (cs.map (·.length)).sum = cs.length := by
            clear l1 l1' lp10 hF
            induction cs with
            | nil => rfl
            | cons s cs ih =>
              simp only [List.map_cons, List.sum_cons, List.length_cons]
              have := (l2 s (List.mem_cons_self ..)).1
              have := ih fun s hs => l2 s (List.mem_cons_of_mem _ hs)
              omega
          have l4 : (Txt.join "" cs).length ≤ 8 := by
            have h := StrLaws.join_length_le "" cs
            rw [TL.join_eq]
            have e0 : ("" : Str).length = 0 := rfl
            rw [l3, e0] at h
            omega
          have l5 : ∀ c ∈ (Txt.join "" cs).cps.toList, 105 ≤ c ∧ c ≤ 122 := fun c hc => by
            obtain ⟨s, hs, h⟩ := join_mem hc
            exact (l2 s hs).2 c h
          clear lf8 lq8 lw8 uu8 u10 hp9 l1 l2
          refine oJoin_l (by rw [lp10]; rfl) (by rw [l3, show ("" : Str).length = 0 from rfl]; omega) ?_
          clear lp10 l3 l1'
          generalize Txt.join "" cs = L at *
          have z1 : L.length ≤ sizeLine := by rw [szL]; omega
          walk_at "s"
          refine ⟨n, m, _, rfl, uu10.deal, by omega, by omega, fun place st12 _ _ u12 => ?_⟩
          have lf12 := u12.l fn fm lf10
          have lq12 := u12.l qn qm lq10
          have lw12 := u12.l wn wm lw10
          have uu12 := uu10.trans u12
          clear lf10 lq10 lw10 uu10 u12
          have k1 := cut_len L none (some place)
          have k2 := cut_len L (some place) none
          have z2 : (cutS L none (some place)).length + mk.length ≤ sizeLine := by rw [szL]; omega
          have z3 : (cutS L none (some place) ++ mk).length + (cutS L (some place) none).length ≤ sizeLine := by rw [len_app, szL]; omega
          walk_at "s"
          obtain ⟨nm1, nm2⟩ := name_ok l5 l4 hmk none (some place) (some place) none
          generalize cutS L none (some place) ++ mk ++ cutS L (some place) none = nm at *
          refine ⟨n, m, 6, rfl, uu12.deal, by omega, by omega, fun six st13 _ _ u13 => ?_⟩
          have lf13 := u13.l fn fm lf12
          have lq13 := u13.l qn qm lq12
          have lw13 := u13.l wn wm lw12
          have uu13 := uu12.trans u13
          clear lf12 lq12 lw12 uu12 u13 z1 z2 z3
          walk_at "s"
          have fin : ∀ v : Str, NameAt start step word i v → (names ++ [v]).length = i + 1 ∧ (∀ i x, (names ++ [v])[i]? = some x → NameAt start step word i x) ∧ some (Ob.lst (names.map D.str ++ [D.str v])) = some (Ob.lst ((names ++ [v]).map D.str)) ∧
              put st13 f (.lst (names.map D.str ++ [D.str v])) q = some (.lst (marks72.map D.str)) ∧ put st13 f (.lst (names.map D.str ++ [D.str v])) w = some (.lst (words22.map D.str)) ∧ Up n m st (put st13 f (.lst (names.map D.str ++ [D.str v]))) := fun v hv => by
            refine ⟨by simp [hlen], fun i2 x h => ?_, by simp, by rw [put_ne fq.symm]; exact lq13, by rw [put_ne fw.symm]; exact lw13, uu13.put nf0 fn fm⟩
            by_cases h2 : i2 < names.length
            · rw [List.getElem?_append_left h2] at h
              exact hn i2 x h
            · have h3 : i2 = names.length := by
                have := (List.getElem?_eq_some_iff.mp h).1
                rw [List.length_append] at this
                simp at this
                omega
              subst h3
              rw [List.getElem?_append_right (Nat.le_refl _)] at h
              simp at h
              subst h
              rw [hlen]
              exact hv
          by_cases h6 : six = 0
          · rw [if_pos (by simpa using h6)]
            have h0 : 0 ≤ (word + (i : Int)) % 22 := Int.emod_nonneg _ (by omega)
            have h1 : (word + (i : Int)) % 22 < 22 := Int.emod_lt_of_pos _ (by omega)
            have h2 : ((word + (i : Int)) % 22).toNat < words22.length := by rw [words22_len]; omega
            have h3 : words22[((word + (i : Int)) % 22).toNat]? = some words22[((word + (i : Int)) % 22).toNat] := List.getElem?_eq_getElem h2
            have e1 : atI (words22.map D.str) ((word + (i : Int)) % 22) = some (.str words22[((word + (i : Int)) % 22).toNat]) := by
              conv => lhs; rw [← Int.toNat_of_nonneg h0]
              rw [atI_ofNat, List.getElem?_map, h3]; rfl
            rw [e1, vO_some, lf13, lsO_lst]
            have ok := words22_ok _ (List.getElem_mem h2)
            exact ⟨lf2, _, _, _, _, _, _, _, rfl, fin _ ⟨ok, .inl h3⟩⟩
          · rw [if_neg (by simpa using h6)]
            refine oIn_ref ?_
            rw [lw13, inO_lst]
            refine ⟨rfl, flat_strs _, ?_⟩
            rw [inF_strs, bAt_a]
            by_cases h7 : nm ∈ words22
            · rw [if_pos (by simpa using h7), lf13, lsO_lst]
              exact ⟨lf2, _, _, _, _, _, _, _, rfl, fin _ ⟨⟨m1, by omega⟩, .inr ⟨m4, mk, hat, m5⟩⟩⟩
            · rw [if_neg (by simpa using h7), lf13, lsO_lst]
              exact ⟨lf2, _, _, _, _, _, _, _, rfl, fin _ ⟨nm1, .inr ⟨h7, mk, hat, nm2⟩⟩⟩
      · rintro env st' ⟨a, b, c, d, e, x, names, rfl, hlen, hn, lf, lq, lw, u⟩
        refine hx _ _ ⟨a, b, c, d, e, x, names, rfl, ?_, hn, lf, u⟩
        simpa [rangeD] using hlen
    · rintro env st' ⟨a, b, c, d, e, x, names, rfl, hlen, hn, lf, u⟩
      walk_at "s"
      refine endsOf_i (k names f st' hlen ?_ ?_ fn fm u lf nf0)
      · rw [List.nodup_iff_pairwise_ne, List.pairwise_iff_getElem]
        intro i1 i2 h1 h2 h12 heq
        have a1 := hn i1 names[i1] (List.getElem?_eq_getElem h1)
        have a2 := hn i2 names[i1] (by rw [heq, List.getElem?_eq_getElem h2])
        have := NameAt.inj hstep (by omega) (by omega) a1 a2
        omega
      · intro x hx
        obtain ⟨i, hi⟩ := List.getElem?_of_mem hx
        exact (hn i x hi).1
end L2.DL

namespace L2.DL
open PySem PySem.Spec PyProof.Rows
local macro_rules | `(tactic| walk_at "s") => `(tactic| try simp only [sqAsg_a, sqDrop_a, sqPar_a, sqPar3_a, sqRet_a, sqNext_a, sqSeq_a, sNext_a, sBreak_a, sCont_a, sDrop_a, sRet_a, sRetN_a, sIf_a, sAsg_a, sPar_a, sPar3_a, mVar_a, vAt_a, mC_a, mBin_a, mTest_a, bAt_a, mAnd_a, mOr_a, mNot_a, mYes_a, mAndV_a, mOrV_a, mNotV_a, mIf_a, mNil_a, mCons_a, mTup_a, mLst_a, mCall_a, mCallK_a, mMeth_a, mSl_a, mNoPart_a, iAt_a, mPart_a, mIsi_b, tysO_some, List.any_cons, List.any_nil, Bool.or_false, Bool.false_or, Bool.or_true, Bool.true_or, Int.natCast_pos, gN_a, gTup_a, gCons_a, gNil_a, gSub_a, sFor_a, mLc_a, mDc_a, wSeq_a, sqO_tup, sqO_str, sqO_ref, wRng1_a, mRev_a, revO_ref, List.getD_cons_zero, List.getD_cons_succ, ite_self, List.set_cons_zero, List.set_cons_succ, List.getElem?_cons_zero, List.getElem?_cons_succ, oAdd_int, oAdd_str, oAdd_tup, oAdd_ref, oSub_int, oMul_int, oDiv_int, oMod_int, oPow_int, oLt_int, oLe_int, oGt_int, oGe_int, oIs_nn, oIs_bn, oIs_in, oIs_sn, oIs_tn, oIs_rn, oIs_bb, oIs_nb, oIs_ib, oIs_sb, oIs_tb, oIs_rb, oIsi_int, oIsi_str, oIsi_bool, oIsi_tuple, oIsi_list, oIsi_dict, tyO_some, tyD_non, tyD_bl, tyD_int, tyD_str, tyD_tup, isi_facts, oEq_int, oNe_int, oEq_str, oNe_str, oSl_tup, oSl_str, oSl_ref, oLen_tup, oLen_str, oLen_ref, oAbs_int, oInt_int, oInt_bl, oMax_int, oMin_int, oTuple_tup, oTuple_ref, oList_tup, oList_str, oList_ref, oIx_tupE, oIx_ref, oAppend_ref, oPop_ref, oExtend_tupE, oSet_ref, isL_ref, isS_str, vO_some, ixO_lst, ixO_dicI, ixO_dicS, ixO_rodI, ixO_rodS, lsO_lst, rdO_lst, rdO_rol, lenO_lst, lenO_dic, lenO_rol, addO_lst, setO_lst, setO_dicI, setO_dicS, atI_zero, atI_one, atI_two, atI_end, startE, wipeE, List.map_cons, List.map_nil, List.length_cons, List.length_nil, List.replicate, List.cons_append, List.nil_append, Nat.reduceAdd, Nat.reduceSub, List.replicate_succ, List.replicate_zero, put_same, Nat.zero_le, Int.reduceLT, Int.reduceLE, Nat.reduceLT, Nat.reduceLeDiff, and_true, true_and, Bool.false_eq_true, ↓reduceIte, Bool.not_true, Bool.not_false, decide_true, decide_false, *])
local macro_rules | `(tactic| walk_at "i") => `(tactic| try simp only [sqIf_a, sqAsg_a, sqDrop_a, sqPar_a, sqPar3_a, sqRet_a, sqNext_a, sqSeq_a, sNext_a, sBreak_a, sCont_a, sDrop_a, sRet_a, sRetN_a, sIf_a, sAsg_a, sPar_a, sPar3_a, mVar_a, vAt_a, mC_a, mBin_a, mTest_a, bAt_a, mAnd_a, mOr_a, mNot_a, mYes_a, mAndV_a, mOrV_a, mNotV_a, mIf_a, mNil_a, mCons_a, mTup_a, mLst_a, mCall_a, mCallK_a, mMeth_a, mSl_a, mNoPart_a, iAt_a, mPart_a, mIsi_b, tysO_some, List.any_cons, List.any_nil, Bool.or_false, Bool.false_or, Bool.or_true, Bool.true_or, Int.natCast_pos, gN_a, gTup_a, gCons_a, gNil_a, gSub_a, sFor_a, mLc_a, mDc_a, wSeq_a, sqO_tup, sqO_str, sqO_ref, wRng1_a, mRev_a, revO_ref, List.getD_cons_zero, List.getD_cons_succ, ite_self, List.set_cons_zero, List.set_cons_succ, List.getElem?_cons_zero, List.getElem?_cons_succ, oAdd_int, oAdd_str, oAdd_tup, oAdd_ref, oSub_int, oMul_int, oDiv_int, oMod_int, oPow_int, oLt_int, oLe_int, oGt_int, oGe_int, oIs_nn, oIs_bn, oIs_in, oIs_sn, oIs_tn, oIs_rn, oIs_bb, oIs_nb, oIs_ib, oIs_sb, oIs_tb, oIs_rb, oIsi_int, oIsi_str, oIsi_bool, oIsi_tuple, oIsi_list, oIsi_dict, tyO_some, tyD_non, tyD_bl, tyD_int, tyD_str, tyD_tup, isi_facts, oEq_int, oNe_int, oEq_str, oNe_str, oSl_tup, oSl_str, oSl_ref, oLen_tup, oLen_str, oLen_ref, oAbs_int, oInt_int, oInt_bl, oMax_int, oMin_int, oTuple_tup, oTuple_ref, oList_tup, oList_str, oList_ref, oIx_tupE, oIx_ref, oAppend_ref, oPop_ref, oExtend_tupE, oSet_ref, isL_ref, isS_str, vO_some, ixO_lst, ixO_dicI, ixO_dicS, ixO_rodI, ixO_rodS, lsO_lst, rdO_lst, rdO_rol, lenO_lst, lenO_dic, lenO_rol, addO_lst, setO_lst, setO_dicI, setO_dicS, atI_zero, atI_one, atI_two, atI_end, startE, wipeE, List.map_cons, List.map_nil, List.length_cons, List.length_nil, List.replicate, List.cons_append, List.nil_append, Nat.reduceAdd, Nat.reduceSub, List.replicate_succ, List.replicate_zero, put_same, Nat.zero_le, Int.reduceLT, Int.reduceLE, Nat.reduceLT, Nat.reduceLeDiff, and_true, true_and, Bool.false_eq_true, ↓reduceIte, Bool.not_true, Bool.not_false, decide_true, decide_false, *])
/-! ### terms -/
abbrev Sign := Str × Int
abbrev Term := List Sign
def signD (s : Sign) : D := .tup [.str s.1, .int s.2]
def termD (t : Term) : D := .tup (t.map signD)
def TermOk (k : Nat) (t : Term) : Prop := t.length ≤ k ∧ ∀ s ∈ t, nmOk s.1
/-- how many parts follow a sign -/
def arity (s : Sign) : Nat := if s.2 = -1 then 0 else s.2.toNat
/-- so many parts, one behind another -/
def Rd : Nat → Term → Prop
  | d, [] => d = 0
  | d, s :: t => 0 < d ∧ -1 ≤ s.2 ∧ Rd (d - 1 + arity s) t
def Wf (t : Term) : Prop := Rd 1 t
def S_law_term : DSp := fun vs st Q => ∃ (n m : Addr) (x y : D) (xs ys : List Str) (k : Nat), vs = [.ref n, x, y, .int k] ∧ Deal st n m ∧ sq st n m x (xs.map D.str) ∧ sq st n m y (ys.map D.str) ∧
  0 < xs.length ∧ xs.length ≤ 1000 ∧ ys.length ≤ 1000 ∧ (∀ a ∈ xs ++ ys, nmOk a) ∧ 0 < k ∧ k ≤ 1000 ∧ ∀ t st', TermOk k t → Wf t → Up n m st st' → Q (termD t) st'
/-- _law_term(deal, names, letters, size): 0 deal 1 names 2 letters 3 size 4 found 5 due 6 room 7 many -/
def t_law_term : MS := sSeq (sPar 4 5 (mCons (mLst (mNil)) (mCons (mC (.int 1)) (mNil))))
    (sSeq (sWhile (mTest (mBin oGt (mVar 5) (mC (.int 0)))) (sSeq (sAsg (mCall oMax (mCons (mC (.int 0)) (mCons (mBin oSub (mBin oSub (mVar 3) (mCall oLen (mCons (mVar 4) (mNil)))) (mVar 5)) (mNil)))) (gN 6))
    (sSeq (sAsg (mCall oMin (mCons (mVar 6) (mCons (mCall S_law_of (mCons (mVar 0) (mCons (mLst (mCons (mC (.int 0)) (mCons (mC (.int 1)) (mCons (mC (.int 1)) (mCons (mC (.int 1)) (mCons (mC (.int 2)) (mCons (mC (.int 2)) (mCons (mC (.int 3)) (mCons (mC (.int 4)) (mCons (mVar 6) (mNil))))))))))) (mNil)))) (mNil)))) (gN 7))
    (sSeq (sIf (mAnd (mTest (mBin oEq (mVar 7) (mC (.int 0)))) (mAnd (mTest (mBin oGt (mCall oLen (mCons (mVar 2) (mNil))) (mC (.int 0)))) (mTest (mBin oGt (mCall S_law_any (mCons (mVar 0) (mCons (mC (.int 3)) (mNil)))) (mC (.int 0)))))) (sDrop (mMeth isL oAppend (mVar 4) (mCons (mTup (mCons (mCall S_law_of (mCons (mVar 0) (mCons (mVar 2) (mNil)))) (mCons (mBin oSub (mC (.int 0)) (mC (.int 1))) (mNil)))) (mNil)))) (sDrop (mMeth isL oAppend (mVar 4) (mCons (mTup (mCons (mCall S_law_of (mCons (mVar 0) (mCons (mVar 1) (mNil)))) (mCons (mVar 7) (mNil)))) (mNil)))))
    (sAsg (mBin oSub (mBin oAdd (mVar 5) (mVar 7)) (mC (.int 1))) (gN 5))))))
    (sRet (mCall oTuple (mCons (mVar 4) (mNil)))))
theorem sq.keep {st st' : Sto} {n m : Addr} {x : D} {xs : List D} (h : sq st n m x xs) (u : Keep st st') : sq st' n m x xs := by
  cases x <;> try exact h
  exact ⟨h.1, h.2.1, u.l h.2.2⟩
theorem kp_law_term : Keeps 4 8 S_law_term t_law_term := by
  refine ⟨fun ds st Q ⟨n, m, x, y, xs, ys, k, e, _⟩ => by rw [e]; rfl, fun ds st Q ⟨n, m, x, y, xs, ys, k, e, hd, hx, hy, l0, l1, l2, hok, k0, k1, q⟩ => ?_⟩
  subst e
  have z9 : 9 ≤ sizeLine := by decide
  have z2 : 2 ≤ sizeLine := by decide
  unfold t_law_term
  walk_at "s"
  intro p hp
  obtain ⟨pn, pm⟩ := hp.deal hd
  refine sSeq_i (fun env st' => ∃ a b c d e f g, ∃ t : Term, env = [a, b, c, d, some (.ref p), e, f, g] ∧ st' p = some (.lst (t.map signD)) ∧ TermOk k t ∧ Wf t ∧ Up n m st st') (fun nx hnx => ?_) ?_
  · refine ⟨fun j env st' => ∃ (due : Int) (f g : Option D) (t : Term), env = [some (.ref n), some x, some y, some (.int k), some (.ref p), some (.int due), f, g] ∧ st' p = some (.lst (t.map signD)) ∧ TermOk k t ∧ Up n m st st' ∧ 0 ≤ due ∧ t.length + due ≤ k ∧ k - t.length = j ∧ (∀ t', Rd due.toNat t' → Wf (t ++ t')), ⟨_, 1, none, none, [], rfl, put_same, ⟨by simp, by simp⟩, (Up.refl hd).put hp pn pm, by omega, by simp; omega, rfl, fun t' h => h⟩, ?_⟩
    rintro j env st1 ⟨due, f, g, t, rfl, lp, ht, u, d0, dk, hj, hw⟩
    by_cases hdue : 0 < due
    · clear hnx q hd
      have hx1 : sq st1 n m x (xs.map D.str) := hx.up u
      have hy1 : sq st1 n m y (ys.map D.str) := hy.up u
      walk_at "s"
      have er : (if (k : Int) - ((t.map signD).length : Nat) - due > 0 then (k : Int) - ((t.map signD).length : Nat) - due else 0) = ((k - t.length - due.toNat : Nat) : Int) := by
        rw [List.length_map]
        split <;> omega
      rw [er]
      obtain ⟨room, hroom⟩ : ∃ room : Nat, k - t.length - due.toNat = room := ⟨_, rfl⟩
      rw [hroom]
      clear er
      refine fun p2 hp2 => ?_
      obtain ⟨p2n, p2m⟩ := hp2.deal u.deal
      have lp2 := (Keep.put (o := .lst [.int 0, .int 1, .int 1, .int 1, .int 2, .int 2, .int 3, .int 4, .int room]) hp2).l lp
      refine ⟨n, m, .ref p2, _, rfl, u.deal.put p2n p2m, ⟨p2n, p2m, put_same⟩, by simp, by simp, fun sd st3 hsd u3 => ?_⟩
      obtain ⟨sv, rfl, hsv⟩ : ∃ sv : Int, sd = .int sv ∧ 0 ≤ sv := by
        simp only [List.mem_cons, List.not_mem_nil, or_false] at hsd
        rcases hsd with rfl | rfl | rfl | rfl | rfl | rfl | rfl | rfl | rfl <;> exact ⟨_, rfl, by omega⟩
      have lp3 := u3.l pn pm lp2
      have uu3 := (u.then (Keep.put hp2)).trans u3
      have hx3 := (hx1.keep (Keep.put hp2)).up u3
      have hy3 := (hy1.keep (Keep.put hp2)).up u3
      clear lp lp2 u hx1 hy1 u3 hp2 hsd
      walk_at "s"
      obtain ⟨many, hmany, hmr⟩ : ∃ many : Nat, (if sv < (room : Int) then sv else (room : Int)) = many ∧ many ≤ room := by
        split
        · exact ⟨sv.toNat, by omega, by omega⟩
        · exact ⟨room, rfl, Nat.le_refl _⟩
      rw [hmany]
      clear hmany hsv
      refine sSeq_i (fun env st' => ∃ a : Sign, env = [some (.ref n), some x, some y, some (.int k), some (.ref p), some (.int due), some (.int room), some (.int many)] ∧ st' p = some (.lst ((t ++ [a]).map signD)) ∧ nmOk a.1 ∧ (-1 ≤ a.2 ∧ arity a = many) ∧ Up n m st st') (fun nx2 hnx2 => ?_) ?_
      · have lt3 : (t.map signD).length < sizeLine := by
          rw [List.length_map, szL]
          have := ht.1
          omega
        have fin : ∀ st4 (a : Sign), nmOk a.1 → (-1 ≤ a.2 ∧ arity a = many) → Up n m st st4 → st4 p = some (.lst (t.map signD)) → lsO (st4 p) fun zs => zs.length < sizeLine ∧ nx2 [some (.ref n), some x, some y, some (.int k), some (.ref p), some (.int due), some (.int room), some (.int many)] (put st4 p (.lst (zs ++ [signD a]))) := by
          intro st4 a ha har u4 l4
          rw [l4, lsO_lst]
          refine ⟨lt3, hnx2 _ _ ⟨a, rfl, ?_, ha, har, u4.put hp pn pm⟩⟩
          rw [put_same]; simp
        clear hnx2
        have small : ∀ st4, sq st4 n m x (xs.map D.str) → Up n m st st4 → st4 p = some (.lst (t.map signD)) →
            S_law_of [.ref n, x] st4 fun d st5 => lsO (st5 p) fun zs => zs.length < sizeLine ∧ nx2 [some (.ref n), some x, some y, some (.int k), some (.ref p), some (.int due), some (.int room), some (.int many)] (put st5 p (.lst (zs ++ [.tup [d, .int many]]))) := by
          intro st4 h4 u4 l4
          refine ⟨n, m, x, _, rfl, u4.deal, h4, by rw [List.length_map]; omega, by rw [List.length_map]; omega, fun d st5 hd u5 => ?_⟩
          obtain ⟨a, ha, rfl⟩ := List.mem_map.mp hd
          exact fin st5 (a, many) (hok a (List.mem_append_left _ ha)) ⟨by show (-1 : Int) ≤ (many : Int); omega, by unfold arity; rw [if_neg (by show ¬ ((many : Int) = -1); omega)]; rfl⟩ (u4.trans u5) (u5.l pn pm l4)
        have e2 := fun Q => hy3.len (Q := Q)
        rw [sIf_a]
        walk_at "s"
        clear e2
        split
        · rename_i hm0
          have hm0' : many < 1 := by
            have : many = 0 := by simpa using hm0
            omega
          clear hm0
          split
          · rename_i hys
            have hys' : 0 < (ys.map D.str).length := by simpa using hys
            refine ⟨n, m, 3, rfl, uu3.deal, by omega, by omega, fun c st4 _ _ u4 => ?_⟩
            have lp4 := u4.l pn pm lp3
            have hx4 := hx3.up u4
            have hy4 := hy3.up u4
            have uu4 := uu3.trans u4
            have sm := small st4 hx4 uu4 lp4
            clear lp3 uu3 hx3 hy3 u4 small
            walk_at "s"
            split
            · refine ⟨n, m, y, _, rfl, uu4.deal, hy4, hys', by rw [List.length_map]; omega, fun d st5 hd u5 => ?_⟩
              obtain ⟨a, ha, rfl⟩ := List.mem_map.mp hd
              exact fin st5 (a, 0 - 1) (hok a (List.mem_append_right _ ha)) ⟨by show (-1 : Int) ≤ 0 - 1; omega, by rw [show many = 0 by omega]; rfl⟩ (uu4.trans u5) (u5.l pn pm lp4)
            · trivial
          · trivial
        · trivial
      · rintro env st4 ⟨a, rfl, lp4, ha, har, u4⟩
        walk_at "s"
        have e1 : (t ++ [a]).length = t.length + 1 := by rw [List.length_append]; rfl
        refine ⟨k - (t ++ [a]).length, ?_, due + many - 1, _, _, t ++ [a], rfl, rfl, ⟨?_, ?_⟩, ?_, ?_, rfl, fun t' h => ?_⟩
        · omega
        · omega
        · intro s hs
          rcases List.mem_append.mp hs with hs | hs
          · exact ht.2 s hs
          · rw [List.mem_singleton.mp hs]; exact ha
        · omega
        · omega
        · rw [List.append_assoc]
          refine hw _ ⟨by omega, har.1, ?_⟩
          rw [har.2]
          have e : due.toNat - 1 + many = (due + many - 1).toNat := by omega
          rw [e]
          exact h
    · have hw' : Wf t := by
        have := hw [] (show due.toNat = 0 by omega)
        rw [List.append_nil] at this
        exact this
      have hnx' := hnx [some (.ref n), some x, some y, some (.int k), some (.ref p), some (.int due), f, g] st1 ⟨_, _, _, _, _, _, _, t, rfl, lp, ht, hw', u⟩
      clear hnx
      walk_at "s"
  · rintro env st' ⟨a, b, c, d, e, f, g, t, rfl, lp, ht, hw, u⟩
    walk_at "s"
    exact endsOf_i (q t st' ht hw u)
end L2.DL

namespace L2.DL
open PySem PySem.Spec PyProof.Rows
/-! ### data compared by == : no truth values, texts of real signs -/
def okC : D → Bool
  | .non => true
  | .int _ => true
  | .str x => PyData.strOk x
  | .tup xs => okCs xs
  | _ => false
where okCs : List D → Bool
  | [] => true
  | x :: xs => okC x && okCs xs
def depC : D → Nat
  | .tup xs => depCs xs + 1
  | _ => 0
where depCs : List D → Nat
  | [] => 0
  | x :: xs => max (depC x) (depCs xs)
mutual
theorem okC_py : ∀ (x : D), okC x = true → ∃ p, toPy x = some p ∧ p.canLay0 = true ∧ p.depth = depC x
  | .non, _ => ⟨_, rfl, rfl, rfl⟩
  | .int i, _ => ⟨_, rfl, rfl, rfl⟩
  | .str x, h => ⟨_, rfl, h, rfl⟩
  | .bl _, h => by cases h
  | .ty _, h => by cases h
  | .ref _, h => by cases h
  | .tup xs, h => by
    obtain ⟨ps, h1, h2, h3⟩ := okCs_py xs h
    exact ⟨.tuple ps, by rw [toPy, h1]; rfl, h2, by rw [PyData.depth, depC, h3]⟩
theorem okCs_py : ∀ (xs : List D), okC.okCs xs = true → ∃ ps, toPys xs = some ps ∧ PyData.canLayAll0 ps = true ∧ PyData.depthAll ps = depC.depCs xs
  | [], _ => ⟨[], rfl, rfl, rfl⟩
  | x :: xs, h => by
    rw [okC.okCs, Bool.and_eq_true] at h
    obtain ⟨p, a1, a2, a3⟩ := okC_py x h.1
    obtain ⟨ps, b1, b2, b3⟩ := okCs_py xs h.2
    exact ⟨p :: ps, by rw [toPys, a1, b1]; rfl, by rw [PyData.canLayAll0, a2, b2]; rfl, by rw [PyData.depthAll, depC.depCs, a3, b3]⟩
end
mutual
theorem okC_eqv : ∀ (x y : D) (p q : PyData), okC x = true → okC y = true → toPy x = some p → toPy y = some q → (p.eqv q = true ↔ x = y)
  | .bl _, _, _, _, h, _, _, _ => by cases h
  | .ty _, _, _, _, h, _, _, _ => by cases h
  | .ref _, _, _, _, h, _, _, _ => by cases h
  | .non, y, p, q, _, hy, e1, e2 => by
    cases e1
    cases y <;> try (cases hy; done)
    · cases e2; simp [PyData.eqv]
    · cases e2; simp [PyData.eqv]
    · cases e2; simp [PyData.eqv]
    · rw [toPy, Option.map_eq_some_iff] at e2
      obtain ⟨ps, _, rfl⟩ := e2
      simp [PyData.eqv]
  | .int i, y, p, q, _, hy, e1, e2 => by
    cases e1
    cases y <;> try (cases hy; done)
    · cases e2; simp [PyData.eqv]
    · cases e2; simp [PyData.eqv]
    · cases e2; simp [PyData.eqv]
    · rw [toPy, Option.map_eq_some_iff] at e2
      obtain ⟨ps, _, rfl⟩ := e2
      simp [PyData.eqv]
  | .str i, y, p, q, _, hy, e1, e2 => by
    cases e1
    cases y <;> try (cases hy; done)
    · cases e2; simp [PyData.eqv]
    · cases e2; simp [PyData.eqv]
    · cases e2; simp [PyData.eqv]
    · rw [toPy, Option.map_eq_some_iff] at e2
      obtain ⟨ps, _, rfl⟩ := e2
      simp [PyData.eqv]
  | .tup xs, y, p, q, hx, hy, e1, e2 => by
    rw [toPy, Option.map_eq_some_iff] at e1
    obtain ⟨ps, e1, rfl⟩ := e1
    cases y <;> try (cases hy; done)
    · cases e2; simp [PyData.eqv]
    · cases e2; simp [PyData.eqv]
    · cases e2; simp [PyData.eqv]
    · rename_i ys
      rw [toPy, Option.map_eq_some_iff] at e2
      obtain ⟨qs, e2, rfl⟩ := e2
      rw [PyData.eqv, okCs_eqv xs ys ps qs hx hy e1 e2, D.tup.injEq]
theorem okCs_eqv : ∀ (xs ys : List D) (ps qs : List PyData), okC.okCs xs = true → okC.okCs ys = true → toPys xs = some ps → toPys ys = some qs → (PyData.eqvAll ps qs = true ↔ xs = ys)
  | [], [], ps, qs, _, _, e1, e2 => by cases e1; cases e2; simp [PyData.eqvAll]
  | [], y :: ys, ps, qs, _, hy, e1, e2 => by
    cases e1
    simp only [toPys, Option.bind_eq_some_iff, Option.map_eq_some_iff] at e2
    obtain ⟨q, _, qs', _, rfl⟩ := e2
    simp [PyData.eqvAll]
  | x :: xs, [], ps, qs, hx, _, e1, e2 => by
    cases e2
    simp only [toPys, Option.bind_eq_some_iff, Option.map_eq_some_iff] at e1
    obtain ⟨q, _, qs', _, rfl⟩ := e1
    simp [PyData.eqvAll]
  | x :: xs, y :: ys, ps, qs, hx, hy, e1, e2 => by
    simp only [toPys, Option.bind_eq_some_iff, Option.map_eq_some_iff] at e1 e2
    obtain ⟨p, a1, ps', a2, rfl⟩ := e1
    obtain ⟨q, b1, qs', b2, rfl⟩ := e2
    rw [okC.okCs, Bool.and_eq_true] at hx hy
    rw [PyData.eqvAll, Bool.and_eq_true, okC_eqv x y p q hx.1 hy.1 a1 b1, okCs_eqv xs ys ps' qs' hx.2 hy.2 a2 b2, List.cons.injEq]
end
theorem pyOf_okC {st : Sto} {x : D} {p : PyData} (h : okC x = true) (e : toPy x = some p) : pyOf st x = some p := by
  cases x <;> first | exact e | cases h
open Classical in
theorem oEq_dat {x y : D} {st : Sto} {Q : DK} (hx : okC x = true) (hy : okC y = true) (dx : depC x ≤ 64) (dy : depC y ≤ 64) (q : Q (.bl (decide (x = y))) st) : oEq x y st Q := by
  obtain ⟨p, a1, a2, a3⟩ := okC_py x hx
  obtain ⟨r, b1, b2, b3⟩ := okC_py y hy
  refine .inr ⟨p, r, pyOf_okC hx a1, pyOf_okC hy b1, by unfold SeqAt.shaped; rw [a2, a3]; simpa using dx, by unfold SeqAt.shaped; rw [b2, b3]; simpa using dy, ?_⟩
  have e : p.eqv r = decide (x = y) := by
    rw [Bool.eq_iff_iff, okC_eqv x y p r hx hy a1 b1, decide_eq_true_eq]
  rw [e]
  exact q
open Classical in
theorem oNe_dat {x y : D} {st : Sto} {Q : DK} (hx : okC x = true) (hy : okC y = true) (dx : depC x ≤ 64) (dy : depC y ≤ 64) (q : Q (.bl (!decide (x = y))) st) : oNe x y st Q := by
  obtain ⟨p, a1, a2, a3⟩ := okC_py x hx
  obtain ⟨r, b1, b2, b3⟩ := okC_py y hy
  refine .inr ⟨p, r, pyOf_okC hx a1, pyOf_okC hy b1, by unfold SeqAt.shaped; rw [a2, a3]; simpa using dx, by unfold SeqAt.shaped; rw [b2, b3]; simpa using dy, ?_⟩
  have e : p.eqv r = decide (x = y) := by
    rw [Bool.eq_iff_iff, okC_eqv x y p r hx hy a1 b1, decide_eq_true_eq]
  rw [e]
  exact q
theorem nmOk_str {x : Str} (h : nmOk x) : PyData.strOk x = true := by
  have h := h.1
  unfold azOk at h
  unfold PyData.strOk
  rw [← Array.all_toList]
  rw [List.all_eq_true] at h ⊢
  intro c hc
  have := h c hc
  simp at this ⊢
  omega
theorem signD_inj {a b : Sign} (h : signD a = signD b) : a = b := by
  unfold signD at h
  simp only [D.tup.injEq, List.cons.injEq, D.str.injEq, D.int.injEq, and_true] at h
  exact Prod.ext h.1 h.2
theorem map_inj {α β : Type} {f : α → β} (hf : ∀ a b, f a = f b → a = b) : ∀ {l m : List α}, l.map f = m.map f → l = m
  | [], [], _ => rfl
  | [], _ :: _, h => by cases h
  | _ :: _, [], h => by cases h
  | a :: l, b :: m, h => by
    simp only [List.map_cons, List.cons.injEq] at h
    rw [hf _ _ h.1, map_inj hf h.2]
theorem termD_inj {a b : Term} (h : termD a = termD b) : a = b := map_inj (fun _ _ => signD_inj) (D.tup.inj h)
theorem okC_term {t : Term} (h : ∀ s ∈ t, nmOk s.1) : okC (termD t) = true ∧ depC (termD t) ≤ 2 := by
  have key : okC.okCs (t.map signD) = true ∧ depC.depCs (t.map signD) ≤ 1 := by
    induction t with
    | nil => exact ⟨rfl, by decide⟩
    | cons s t ih =>
      obtain ⟨i1, i2⟩ := ih fun s hs => h s (List.mem_cons_of_mem _ hs)
      have h1 := nmOk_str (h s (List.mem_cons_self ..))
      refine ⟨?_, ?_⟩
      · rw [List.map_cons, okC.okCs, i1, signD]
        simp [okC, okC.okCs, h1]
      · rw [List.map_cons, depC.depCs, signD]
        simp only [depC, depC.depCs]
        omega
  exact ⟨key.1, by unfold termD; rw [depC]; omega⟩
theorem oNe_term {a b : Term} {st : Sto} {Q : DK} (ha : ∀ s ∈ a, nmOk s.1) (hb : ∀ s ∈ b, nmOk s.1) (q : Q (.bl (decide (a ≠ b))) st) : oNe (termD a) (termD b) st Q := by
  obtain ⟨a1, a2⟩ := okC_term ha
  obtain ⟨b1, b2⟩ := okC_term hb
  refine oNe_dat a1 b1 (by omega) (by omega) ?_
  have e : (!@decide (termD a = termD b) (Classical.propDecidable _)) = decide (a ≠ b) := by
    by_cases h : a = b
    · subst h; simp
    · have : termD a ≠ termD b := fun e => h (termD_inj e)
      simp [h, this]
  rw [e]
  exact q
theorem datD_term (t : Term) : datD (termD t) = true := datDs_of fun d hd => by
  obtain ⟨s, _, rfl⟩ := List.mem_map.mp hd
  rfl
theorem wD_term (t : Term) : wD (termD t) = 1 + 3 * t.length := by
  have : wD.wDs (t.map signD) = 3 * t.length := by
    induction t with
    | nil => rfl
    | cons s t ih =>
      rw [List.map_cons, wD.wDs, ih, List.length_cons]
      have : wD (signD s) = 3 := rfl
      omega
  unfold termD
  rw [wD, this]
end L2.DL

namespace L2.DL
open PySem PySem.Spec PyProof.Rows
local macro_rules | `(tactic| walk_at "s") => `(tactic| try simp only [sqAsg_a, sqDrop_a, sqPar_a, sqPar3_a, sqRet_a, sqNext_a, sqSeq_a, sNext_a, sBreak_a, sCont_a, sDrop_a, sRet_a, sRetN_a, sIf_a, sAsg_a, sPar_a, sPar3_a, mVar_a, vAt_a, mC_a, mBin_a, mTest_a, bAt_a, mAnd_a, mOr_a, mNot_a, mYes_a, mAndV_a, mOrV_a, mNotV_a, mIf_a, mNil_a, mCons_a, mTup_a, mLst_a, mCall_a, mCallK_a, mMeth_a, mSl_a, mNoPart_a, iAt_a, mPart_a, mIsi_b, tysO_some, List.any_cons, List.any_nil, Bool.or_false, Bool.false_or, Bool.or_true, Bool.true_or, Int.natCast_pos, gN_a, gTup_a, gCons_a, gNil_a, gSub_a, sFor_a, mLc_a, mDc_a, wSeq_a, sqO_tup, sqO_str, sqO_ref, wRng1_a, mRev_a, revO_ref, List.getD_cons_zero, List.getD_cons_succ, ite_self, List.set_cons_zero, List.set_cons_succ, List.getElem?_cons_zero, List.getElem?_cons_succ, oAdd_int, oAdd_str, oAdd_tup, oAdd_ref, oSub_int, oMul_int, oDiv_int, oMod_int, oPow_int, oLt_int, oLe_int, oGt_int, oGe_int, oIs_nn, oIs_bn, oIs_in, oIs_sn, oIs_tn, oIs_rn, oIs_bb, oIs_nb, oIs_ib, oIs_sb, oIs_tb, oIs_rb, oIsi_int, oIsi_str, oIsi_bool, oIsi_tuple, oIsi_list, oIsi_dict, tyO_some, tyD_non, tyD_bl, tyD_int, tyD_str, tyD_tup, isi_facts, oEq_int, oNe_int, oEq_str, oNe_str, oSl_tup, oSl_str, oSl_ref, oLen_tup, oLen_str, oLen_ref, oAbs_int, oInt_int, oInt_bl, oMax_int, oMin_int, oTuple_tup, oTuple_ref, oList_tup, oList_str, oList_ref, oIx_tupE, oIx_ref, oAppend_ref, oPop_ref, oExtend_tupE, oSet_ref, isL_ref, isS_str, vO_some, ixO_lst, ixO_dicI, ixO_dicS, ixO_rodI, ixO_rodS, lsO_lst, rdO_lst, rdO_rol, lenO_lst, lenO_dic, lenO_rol, addO_lst, setO_lst, setO_dicI, setO_dicS, atI_zero, atI_one, atI_two, atI_end, startE, wipeE, List.map_cons, List.map_nil, List.length_cons, List.length_nil, List.replicate, List.cons_append, List.nil_append, Nat.reduceAdd, Nat.reduceSub, List.replicate_succ, List.replicate_zero, put_same, Nat.zero_le, Int.reduceLT, Int.reduceLE, Nat.reduceLT, Nat.reduceLeDiff, and_true, true_and, Bool.false_eq_true, ↓reduceIte, Bool.not_true, Bool.not_false, decide_true, decide_false, *])
local macro_rules | `(tactic| walk_at "i") => `(tactic| try simp only [sqIf_a, sqAsg_a, sqDrop_a, sqPar_a, sqPar3_a, sqRet_a, sqNext_a, sqSeq_a, sNext_a, sBreak_a, sCont_a, sDrop_a, sRet_a, sRetN_a, sIf_a, sAsg_a, sPar_a, sPar3_a, mVar_a, vAt_a, mC_a, mBin_a, mTest_a, bAt_a, mAnd_a, mOr_a, mNot_a, mYes_a, mAndV_a, mOrV_a, mNotV_a, mIf_a, mNil_a, mCons_a, mTup_a, mLst_a, mCall_a, mCallK_a, mMeth_a, mSl_a, mNoPart_a, iAt_a, mPart_a, mIsi_b, tysO_some, List.any_cons, List.any_nil, Bool.or_false, Bool.false_or, Bool.or_true, Bool.true_or, Int.natCast_pos, gN_a, gTup_a, gCons_a, gNil_a, gSub_a, sFor_a, mLc_a, mDc_a, wSeq_a, sqO_tup, sqO_str, sqO_ref, wRng1_a, mRev_a, revO_ref, List.getD_cons_zero, List.getD_cons_succ, ite_self, List.set_cons_zero, List.set_cons_succ, List.getElem?_cons_zero, List.getElem?_cons_succ, oAdd_int, oAdd_str, oAdd_tup, oAdd_ref, oSub_int, oMul_int, oDiv_int, oMod_int, oPow_int, oLt_int, oLe_int, oGt_int, oGe_int, oIs_nn, oIs_bn, oIs_in, oIs_sn, oIs_tn, oIs_rn, oIs_bb, oIs_nb, oIs_ib, oIs_sb, oIs_tb, oIs_rb, oIsi_int, oIsi_str, oIsi_bool, oIsi_tuple, oIsi_list, oIsi_dict, tyO_some, tyD_non, tyD_bl, tyD_int, tyD_str, tyD_tup, isi_facts, oEq_int, oNe_int, oEq_str, oNe_str, oSl_tup, oSl_str, oSl_ref, oLen_tup, oLen_str, oLen_ref, oAbs_int, oInt_int, oInt_bl, oMax_int, oMin_int, oTuple_tup, oTuple_ref, oList_tup, oList_str, oList_ref, oIx_tupE, oIx_ref, oAppend_ref, oPop_ref, oExtend_tupE, oSet_ref, isL_ref, isS_str, vO_some, ixO_lst, ixO_dicI, ixO_dicS, ixO_rodI, ixO_rodS, lsO_lst, rdO_lst, rdO_rol, lenO_lst, lenO_dic, lenO_rol, addO_lst, setO_lst, setO_dicI, setO_dicS, atI_zero, atI_one, atI_two, atI_end, startE, wipeE, List.map_cons, List.map_nil, List.length_cons, List.length_nil, List.replicate, List.cons_append, List.nil_append, Nat.reduceAdd, Nat.reduceSub, List.replicate_succ, List.replicate_zero, put_same, Nat.zero_le, Int.reduceLT, Int.reduceLE, Nat.reduceLT, Nat.reduceLeDiff, and_true, true_and, Bool.false_eq_true, ↓reduceIte, Bool.not_true, Bool.not_false, decide_true, decide_false, *])
theorem cutL_ints (ns : List Int) (lo hi : Option Int) : cutL (ns.map D.int) lo hi = (cutL ns lo hi).map D.int := by
  unfold cutL
  rw [List.length_map, ← List.map_drop, ← List.map_take]
theorem cutL_strs (ns : List Str) (lo hi : Option Int) : cutL (ns.map D.str) lo hi = (cutL ns lo hi).map D.str := by
  unfold cutL
  rw [List.length_map, ← List.map_drop, ← List.map_take]
theorem cutL_to {α : Type} (xs : List α) (k : Nat) : cutL xs none (some k) = xs.take k := by
  unfold cutL
  rw [HT.sIx_none, HT.sIx_nat, Nat.sub_zero, List.drop_zero]
  rw [← List.take_eq_take_min]
theorem cutL_from {α : Type} (xs : List α) (k : Nat) : cutL xs (some k) none = xs.drop k := by
  unfold cutL
  rw [HT.sIx_none, HT.sIx_nat]
  by_cases h : k ≤ xs.length
  · rw [Nat.min_eq_left h, List.take_of_length_le (by rw [List.length_drop]; omega)]
  · rw [Nat.min_eq_right (by omega), List.drop_of_length_le (by omega), List.drop_of_length_le (by omega)]
    simp
theorem kp_law_deal : Keeps 2 6 S_law_deal t_law_deal := by
  refine ⟨fun ds st Q ⟨a, ns, s, e, _⟩ => by rw [e]; rfl, fun ds st Q ⟨a, ns, s, e, la, s0, s1, q⟩ => ?_⟩
  subst e
  have z2 : 2 ≤ sizeLine := by decide
  have c1 : CPow 10 64 := by unfold CPow; decide
  have c2 : CPow 10 18 := by unfold CPow; decide
  have p64 : (10 : Int) ^ Int.toNat 64 = 10000000000000000000000000000000000000000000000000000000000000000 := by decide +kernel
  unfold t_law_deal
  walk_at "s"
  refine ⟨by unfold CMulW; decide +kernel, by unfold CMulW; decide +kernel, by unfold CMulW; decide +kernel, by unfold CMulW; decide +kernel, by unfold CMulW; decide +kernel, fun p hp => ?_⟩
  have mpos : (0 : Int) < 10000000000000000000000000000000000000000000000000000000000000000 *
                                      10000000000000000000000000000000000000000000000000000000000000000 *
                                    10000000000000000000000000000000000000000000000000000000000000000 *
                                  10000000000000000000000000000000000000000000000000000000000000000 *
                                10000000000000000000000000000000000000000000000000000000000000000 *
                              10000000000000000000000000000000000000000000000000000000000000000 := by decide +kernel
  generalize (10000000000000000000000000000000000000000000000000000000000000000 : Int) *
                                      10000000000000000000000000000000000000000000000000000000000000000 *
                                    10000000000000000000000000000000000000000000000000000000000000000 *
                                  10000000000000000000000000000000000000000000000000000000000000000 *
                                10000000000000000000000000000000000000000000000000000000000000000 *
                              10000000000000000000000000000000000000000000000000000000000000000 = most at *
  rw [cutL_ints]
  have hl63 : (cutL ns none (some 63)).length ≤ 63 := by
    have := cutL_to ns 63
    rw [show ((63 : Nat) : Int) = 63 from rfl] at this
    rw [this, List.length_take]
    omega
  generalize cutL ns none (some 63) = cs at *
  have lp : put st p (.lst (cs.map D.int)) p = some (.lst (cs.map D.int)) := put_same
  generalize put st p (.lst (cs.map D.int)) = st1 at *
  clear la p64 hp
  refine lc_keep (onI fun c => some (.int ((if c < 0 then -c else c) % most))) (fun st' u => by rw [u.l lp]; rfl) (by rw [List.length_map, szL]; omega) (fun y hy st2 u2 P N hP hN => ?_) fun p2 st2 hp2 u2 lp2 => ?_
  · obtain ⟨c, hc, rfl⟩ := List.mem_map.mp hy
    have h1 := hP _ st2 rfl .refl
    clear hP hN lp
    walk_at "s"
  · rw [onI_map, fm_some] at lp2
    obtain ⟨ds, hds, hl, hn⟩ : ∃ ds : List Int, (cs.map fun c => D.int ((if c < 0 then -c else c) % most)) = ds.map D.int ∧ ds.length ≤ 63 ∧ ∀ d ∈ ds, 0 ≤ d := by
      refine ⟨cs.map fun c => (if c < 0 then -c else c) % most, by rw [List.map_map]; rfl, by rw [List.length_map]; exact hl63, fun d hd => ?_⟩
      obtain ⟨c, _, rfl⟩ := List.mem_map.mp hd
      exact Int.emod_nonneg _ (by omega)
    rw [hds] at lp2
    clear hds lp u2 hp2 hl63
    have cm : CMulW 7919 s := wide_mul (a := 20) (b := 20) (by omega) (by omega) (by omega) (by omega) (by omega)
    walk_at "s"
    refine sSeq_i (fun env st' => ∃ mix x, env = [some (.ref a), some (.int s), some (.int most), some (.ref p2), some (.int mix), x] ∧ 0 ≤ mix ∧ mix < 2147483647 ∧ st' p2 = some (.lst (ds.map D.int))) (fun nx hnx => ?_) ?_
    · walk_at "s"
      refine ⟨fun i env st' => ∃ mix x, env = [some (.ref a), some (.int s), some (.int most), some (.ref p2), some (.int mix), x] ∧ 0 ≤ mix ∧ mix < 2147483647 ∧ st' p2 = some (.lst (ds.map D.int)), ⟨_, none, rfl, by omega, by omega, lp2⟩, ?_, ?_, ?_⟩
      · rintro i env st' _ ⟨_, _, _, _, _, l⟩
        rw [l]; rfl
      · rintro i y env st' hy ⟨mix, x, rfl, m0, m1, l⟩
        clear hnx lp2 q
        rw [List.getElem?_map, Option.map_eq_some_iff] at hy
        obtain ⟨c, hc, rfl⟩ := hy
        have cm2 : CMulW mix 69621 := wide_mul (a := 31) (b := 20) (by omega) (by omega) (by omega) (by omega) (by omega)
        walk_at "s"
        exact ⟨_, _, rfl, Int.emod_nonneg _ (by omega), Int.emod_lt_of_pos _ (by omega)⟩
      · rintro env st' ⟨mix, x, rfl, m0, m1, l⟩
        exact hnx _ _ ⟨mix, x, rfl, m0, m1, l⟩
    · rintro env st' ⟨mix, x, rfl, m0, m1, l⟩
      clear lp2
      walk_at "s"
      refine lc_keep (onI fun c => if (10 : Int) ^ Int.toNat 18 ≤ c then some (.int c) else none) (fun st' u => by rw [u.l l]; rfl) (by rw [List.length_map, szL]; omega) (fun y hy st2 u2 P N hP hN => ?_) fun p3 st3 hp3 u3 lp3 => ?_
      · obtain ⟨c, hc, rfl⟩ := List.mem_map.mp hy
        clear l
        walk_at "s"
        by_cases h : (10 : Int) ^ Int.toNat 18 ≤ c
        · rw [if_pos (by simpa using h)]
          have h1 := hP (.int c) st2 (by rw [onI]; rw [if_pos h]) .refl
          clear hP hN
          walk_at "s"
        · rw [if_neg (by simpa using h)]
          exact hN st2 (by rw [onI]; rw [if_neg h]) .refl
      · rw [onI_map] at lp3
        have e : (ds.filterMap fun c => if (10 : Int) ^ Int.toNat 18 ≤ c then some (D.int c) else none) = (ds.filter fun c => decide ((10 : Int) ^ Int.toNat 18 ≤ c)).map D.int := by
          clear lp3 l hl hn
          induction ds with
          | nil => rfl
          | cons c ds ih =>
            by_cases h : (10 : Int) ^ Int.toNat 18 ≤ c
            · rw [List.filterMap_cons_some (b := .int c) (by rw [if_pos h]), ih, List.filter_cons_of_pos (by simpa using h), List.map_cons]
            · rw [List.filterMap_cons_none (by rw [if_neg h]), ih, List.filter_cons_of_neg (by simpa using h)]
        rw [e] at lp3
        clear l
        walk_at "s"
        rw [← List.map_reverse]
        have hfl := List.length_filter_le (fun c => decide ((10 : Int) ^ Int.toNat 18 ≤ c)) ds
        have hfn : ∀ c ∈ ds.filter (fun c => decide ((10 : Int) ^ Int.toNat 18 ≤ c)), 0 ≤ c := fun c hc => hn c (List.mem_filter.mp hc).1
        generalize ds.filter (fun c => decide ((10 : Int) ^ Int.toNat 18 ≤ c)) = fs at *
        intro m hm n hn2
        have nm : n ≠ m := hn2.ne put_same
        refine endsOf_i (q n m _ ⟨fs.reverse, mix, put_same, by rw [put_ne nm.symm]; exact put_same, fun c hc => hfn c (List.mem_reverse.mp hc), m0, m1, by rw [List.length_reverse]; omega⟩)
end L2.DL

namespace L2.DL
open PySem PySem.Spec PyProof.Rows
local macro_rules | `(tactic| walk_at "s") => `(tactic| try simp only [sqAsg_a, sqDrop_a, sqPar_a, sqPar3_a, sqRet_a, sqNext_a, sqSeq_a, sNext_a, sBreak_a, sCont_a, sDrop_a, sRet_a, sRetN_a, sIf_a, sAsg_a, sPar_a, sPar3_a, mVar_a, vAt_a, mC_a, mBin_a, mTest_a, bAt_a, mAnd_a, mOr_a, mNot_a, mYes_a, mAndV_a, mOrV_a, mNotV_a, mIf_a, mNil_a, mCons_a, mTup_a, mLst_a, mCall_a, mCallK_a, mMeth_a, mSl_a, mNoPart_a, iAt_a, mPart_a, mIsi_b, tysO_some, List.any_cons, List.any_nil, Bool.or_false, Bool.false_or, Bool.or_true, Bool.true_or, Int.natCast_pos, gN_a, gTup_a, gCons_a, gNil_a, gSub_a, sFor_a, mLc_a, mDc_a, wSeq_a, sqO_tup, sqO_str, sqO_ref, wRng1_a, mRev_a, revO_ref, List.getD_cons_zero, List.getD_cons_succ, ite_self, List.set_cons_zero, List.set_cons_succ, List.getElem?_cons_zero, List.getElem?_cons_succ, oAdd_int, oAdd_str, oAdd_tup, oAdd_ref, oSub_int, oMul_int, oDiv_int, oMod_int, oPow_int, oLt_int, oLe_int, oGt_int, oGe_int, oIs_nn, oIs_bn, oIs_in, oIs_sn, oIs_tn, oIs_rn, oIs_bb, oIs_nb, oIs_ib, oIs_sb, oIs_tb, oIs_rb, oIsi_int, oIsi_str, oIsi_bool, oIsi_tuple, oIsi_list, oIsi_dict, tyO_some, tyD_non, tyD_bl, tyD_int, tyD_str, tyD_tup, isi_facts, oEq_int, oNe_int, oEq_str, oNe_str, oSl_tup, oSl_str, oSl_ref, oLen_tup, oLen_str, oLen_ref, oAbs_int, oInt_int, oInt_bl, oMax_int, oMin_int, oTuple_tup, oTuple_ref, oList_tup, oList_str, oList_ref, oIx_tupE, oIx_ref, oAppend_ref, oPop_ref, oExtend_tupE, oSet_ref, isL_ref, isS_str, vO_some, ixO_lst, ixO_dicI, ixO_dicS, ixO_rodI, ixO_rodS, lsO_lst, rdO_lst, rdO_rol, lenO_lst, lenO_dic, lenO_rol, addO_lst, setO_lst, setO_dicI, setO_dicS, atI_zero, atI_one, atI_two, atI_end, startE, wipeE, List.map_cons, List.map_nil, List.length_cons, List.length_nil, List.replicate, List.cons_append, List.nil_append, Nat.reduceAdd, Nat.reduceSub, List.replicate_succ, List.replicate_zero, put_same, Nat.zero_le, Int.reduceLT, Int.reduceLE, Nat.reduceLT, Nat.reduceLeDiff, and_true, true_and, Bool.false_eq_true, ↓reduceIte, Bool.not_true, Bool.not_false, decide_true, decide_false, *])
local macro_rules | `(tactic| walk_at "i") => `(tactic| try simp only [sqIf_a, sqAsg_a, sqDrop_a, sqPar_a, sqPar3_a, sqRet_a, sqNext_a, sqSeq_a, sNext_a, sBreak_a, sCont_a, sDrop_a, sRet_a, sRetN_a, sIf_a, sAsg_a, sPar_a, sPar3_a, mVar_a, vAt_a, mC_a, mBin_a, mTest_a, bAt_a, mAnd_a, mOr_a, mNot_a, mYes_a, mAndV_a, mOrV_a, mNotV_a, mIf_a, mNil_a, mCons_a, mTup_a, mLst_a, mCall_a, mCallK_a, mMeth_a, mSl_a, mNoPart_a, iAt_a, mPart_a, mIsi_b, tysO_some, List.any_cons, List.any_nil, Bool.or_false, Bool.false_or, Bool.or_true, Bool.true_or, Int.natCast_pos, gN_a, gTup_a, gCons_a, gNil_a, gSub_a, sFor_a, mLc_a, mDc_a, wSeq_a, sqO_tup, sqO_str, sqO_ref, wRng1_a, mRev_a, revO_ref, List.getD_cons_zero, List.getD_cons_succ, ite_self, List.set_cons_zero, List.set_cons_succ, List.getElem?_cons_zero, List.getElem?_cons_succ, oAdd_int, oAdd_str, oAdd_tup, oAdd_ref, oSub_int, oMul_int, oDiv_int, oMod_int, oPow_int, oLt_int, oLe_int, oGt_int, oGe_int, oIs_nn, oIs_bn, oIs_in, oIs_sn, oIs_tn, oIs_rn, oIs_bb, oIs_nb, oIs_ib, oIs_sb, oIs_tb, oIs_rb, oIsi_int, oIsi_str, oIsi_bool, oIsi_tuple, oIsi_list, oIsi_dict, tyO_some, tyD_non, tyD_bl, tyD_int, tyD_str, tyD_tup, isi_facts, oEq_int, oNe_int, oEq_str, oNe_str, oSl_tup, oSl_str, oSl_ref, oLen_tup, oLen_str, oLen_ref, oAbs_int, oInt_int, oInt_bl, oMax_int, oMin_int, oTuple_tup, oTuple_ref, oList_tup, oList_str, oList_ref, oIx_tupE, oIx_ref, oAppend_ref, oPop_ref, oExtend_tupE, oSet_ref, isL_ref, isS_str, vO_some, ixO_lst, ixO_dicI, ixO_dicS, ixO_rodI, ixO_rodS, lsO_lst, rdO_lst, rdO_rol, lenO_lst, lenO_dic, lenO_rol, addO_lst, setO_lst, setO_dicI, setO_dicS, atI_zero, atI_one, atI_two, atI_end, startE, wipeE, List.map_cons, List.map_nil, List.length_cons, List.length_nil, List.replicate, List.cons_append, List.nil_append, Nat.reduceAdd, Nat.reduceSub, List.replicate_succ, List.replicate_zero, put_same, Nat.zero_le, Int.reduceLT, Int.reduceLE, Nat.reduceLT, Nat.reduceLeDiff, and_true, true_and, Bool.false_eq_true, ↓reduceIte, Bool.not_true, Bool.not_false, decide_true, decide_false, *])
/-! ### fillings -/
abbrev Row := Str × Term
abbrev Fil := List Row
def rowD (p : Row) : D := .tup [.str p.1, termD p.2]
def fillD (F : Fil) : D := .tup (F.map rowD)
def led (F : Fil) (x : Str) : Term := ((F.find? fun p => decide (p.1 = x)).map (·.2)).getD [(x, -1)]
def fill (F : Fil) (t : Term) : Term := t.flatMap fun s => if s.2 = -1 then led F s.1 else [s]
def keys (F : Fil) : List Str := F.map (·.1)
def FillOk (k : Nat) (F : Fil) : Prop := F.length ≤ 30 ∧ (keys F).Nodup ∧ ∀ p ∈ F, nmOk p.1 ∧ TermOk k p.2
def own (p : Row) : Bool := decide (p.2 ≠ [(p.1, -1)])
def thenF (F G : Fil) : Fil := sortBy (·.1) ((F.map (fun p => (p.1, fill G p.2)) ++ G.filter fun p => decide (p.1 ∉ keys F)).filter own)
/-- a table of the filling -/
def tabD (F : Fil) : List (Key × D) := F.map fun p => (Sum.inr p.1, termD p.2)
theorem tab_get (F : Fil) (x : Str) : valD (tabD F) (.inr x) = (F.find? fun p => decide (p.1 = x)).map fun p => termD p.2 := by
  unfold valD tabD
  rw [List.find?_map]
  have e : ((fun kv : Key × D => decide (kv.1 = Sum.inr x)) ∘ fun p : Row => ((Sum.inr p.1 : Key), termD p.2)) = fun p : Row => decide (p.1 = x) := by
    funext p
    simp
  rw [e, Option.map_map]
  rfl
theorem tab_keys (F : Fil) : (tabD F).map (·.1) = (keys F).map Sum.inr := by
  unfold tabD keys
  rw [List.map_map, List.map_map]
  rfl
theorem find_mem {F : Fil} {p : Row} (nd : (keys F).Nodup) (h : p ∈ F) : F.find? (fun q => decide (q.1 = p.1)) = some p := by
  induction F with
  | nil => cases h
  | cons q F ih =>
    unfold keys at nd
    rw [List.map_cons, List.nodup_cons] at nd
    rcases List.mem_cons.mp h with rfl | h
    · simp [List.find?_cons]
    · rw [List.find?_cons]
      have : q.1 ≠ p.1 := fun e => nd.1 (List.mem_map.mpr ⟨p, h, e.symm⟩)
      simp only [decide_eq_false this]
      exact ih nd.2 h
theorem find_none {F : Fil} {x : Str} (h : x ∉ keys F) : F.find? (fun q => decide (q.1 = x)) = none := by
  rw [List.find?_eq_none]
  intro p hp
  simp only [decide_eq_true_eq]
  exact fun e => h (List.mem_map.mpr ⟨p, hp, e⟩)
theorem find_some {F : Fil} {x : Str} (h : x ∈ keys F) : ∃ p ∈ F, p.1 = x ∧ F.find? (fun q => decide (q.1 = x)) = some p := by
  cases e : F.find? (fun q => decide (q.1 = x)) with
  | none =>
    obtain ⟨p, hp, e2⟩ := List.mem_map.mp h
    have := List.find?_eq_none.mp e p hp
    simp [e2] at this
  | some p =>
    exact ⟨p, List.mem_of_find?_eq_some e, by simpa using List.find?_some e, rfl⟩
theorem led_mem {F : Fil} {p : Row} (nd : (keys F).Nodup) (h : p ∈ F) : led F p.1 = p.2 := by
  unfold led
  rw [find_mem nd h]
  rfl
theorem led_none {F : Fil} {x : Str} (h : x ∉ keys F) : led F x = [(x, -1)] := by
  unfold led
  rw [find_none h]
  rfl
theorem led_ok {k : Nat} {F : Fil} {x : Str} (h : FillOk k F) (hk : 0 < k) (hx : nmOk x) : TermOk k (led F x) := by
  by_cases hm : x ∈ keys F
  · obtain ⟨p, hp, rfl, e⟩ := find_some hm
    unfold led
    rw [e]
    exact (h.2.2 p hp).2
  · rw [led_none hm]
    exact ⟨by simp; omega, fun s hs => by rw [List.mem_singleton.mp hs]; exact hx⟩
theorem fill_ok {k l : Nat} {F : Fil} {t : Term} (h : FillOk k F) (hk : 0 < k) (ht : TermOk l t) : TermOk (l * k) (fill F t) := by
  obtain ⟨hl, hn⟩ := ht
  have key : (fill F t).length ≤ t.length * k ∧ ∀ s ∈ fill F t, nmOk s.1 := by
    clear hl
    induction t with
    | nil => exact ⟨by simp [fill], fun s hs => by simp [fill] at hs⟩
    | cons s t ih =>
      obtain ⟨i1, i2⟩ := ih fun s hs => hn s (List.mem_cons_of_mem _ hs)
      have e : fill F (s :: t) = (if s.2 = -1 then led F s.1 else [s]) ++ fill F t := rfl
      have h1 : (if s.2 = -1 then led F s.1 else [s]).length ≤ k ∧ ∀ a ∈ (if s.2 = -1 then led F s.1 else [s]), nmOk a.1 := by
        split
        · exact led_ok h hk (hn s (List.mem_cons_self ..))
        · exact ⟨by simp; omega, fun a ha => by rw [List.mem_singleton.mp ha]; exact hn s (List.mem_cons_self ..)⟩
      rw [e]
      refine ⟨?_, fun a ha => ?_⟩
      · rw [List.length_append, List.length_cons, Nat.succ_mul]
        omega
      · rcases List.mem_append.mp ha with ha | ha
        · exact h1.2 a ha
        · exact i2 a ha
  exact ⟨Nat.le_trans key.1 (Nat.mul_le_mul_right k hl), key.2⟩
theorem fill_append (F : Fil) (a b : Term) : fill F (a ++ b) = fill F a ++ fill F b := List.flatMap_append
theorem fill_nil (t : Term) : fill [] t = t := by
  induction t with
  | nil => rfl
  | cons s t ih =>
    have e : fill [] (s :: t) = (if s.2 = -1 then led [] s.1 else [s]) ++ fill [] t := rfl
    rw [e, ih]
    by_cases h : s.2 = -1
    · rw [if_pos h, led_none (by simp [keys])]
      obtain ⟨a, b⟩ := s
      simp only at h
      subst h
      rfl
    · rw [if_neg h]; rfl
theorem fill_one (F : Fil) (x : Str) : fill F [(x, -1)] = led F x := by simp [fill]
theorem sortBy_keys {F : Fil} {m : Fil} (p : m.Perm F) (nd : (keys F).Nodup) : sortBy (·.1) m = sortBy (·.1) F := by
  refine sortBy_eq ((sortBy_perm _ _).trans p) (sortBy_sorted _ _) fun x hx y hy e => nodup_inj nd hx hy e
theorem sortBy_fst {F : Fil} (nd : (keys F).Nodup) : sortBy id (keys F) = (sortBy (·.1) F).map (·.1) := by
  refine (sortBy_eq ((sortBy_perm (·.1) F).map _) ?_ fun x _ y _ e => e).symm
  rw [List.pairwise_map]
  exact sortBy_sorted (·.1) F
theorem keys_then {F G : Fil} (hF : (keys F).Nodup) (hG : (keys G).Nodup) : (keys (F.map (fun p => (p.1, fill G p.2)) ++ G.filter fun p => decide (p.1 ∉ keys F))).Nodup := by
  have e : keys (F.map fun p => (p.1, fill G p.2)) = keys F := by unfold keys; rw [List.map_map]; rfl
  have e2 : keys (F.map (fun p => (p.1, fill G p.2)) ++ G.filter fun p => decide (p.1 ∉ keys F)) = keys F ++ keys (G.filter fun p => decide (p.1 ∉ keys F)) := by
    rw [← e]; unfold keys; rw [List.map_append]
  rw [e2, List.nodup_append]
  refine ⟨hF, hG.sublist (List.filter_sublist.map _), fun a ha b hb e => ?_⟩
  subst e
  obtain ⟨p, hp, rfl⟩ := List.mem_map.mp hb
  have := (List.mem_filter.mp hp).2
  simp at this
  exact this ha
theorem keys_filter {F : Fil} (h : (keys F).Nodup) (f : Row → Bool) : (keys (F.filter f)).Nodup := h.sublist (List.filter_sublist.map _)
theorem mem_then {F G : Fil} (hF : (keys F).Nodup) (hG : (keys G).Nodup) (p : Row) : p ∈ thenF F G ↔ (own p = true ∧ ((∃ q ∈ F, p = (q.1, fill G q.2)) ∨ (p ∈ G ∧ p.1 ∉ keys F))) := by
  unfold thenF
  rw [(sortBy_perm _ _).mem_iff, List.mem_filter, List.mem_append, List.mem_map, List.mem_filter]
  simp only [decide_eq_true_eq]
  constructor
  · rintro ⟨⟨q, hq, rfl⟩ | h, ho⟩
    · exact ⟨ho, .inl ⟨q, hq, rfl⟩⟩
    · exact ⟨ho, .inr h⟩
  · rintro ⟨ho, ⟨q, hq, rfl⟩ | h⟩
    · exact ⟨.inl ⟨q, hq, rfl⟩, ho⟩
    · exact ⟨.inr h, ho⟩
theorem then_nodup {F G : Fil} (hF : (keys F).Nodup) (hG : (keys G).Nodup) : (keys (thenF F G)).Nodup := by
  unfold thenF
  have p := (sortBy_perm (·.1) ((F.map (fun p => (p.1, fill G p.2)) ++ G.filter fun p => decide (p.1 ∉ keys F)).filter own)).map (·.1)
  exact p.nodup_iff.mpr (keys_filter (keys_then hF hG) own)
/-- one filling behind another, name by name -/
theorem led_then {F G : Fil} (hF : (keys F).Nodup) (hG : (keys G).Nodup) (x : Str) : led (thenF F G) x = fill G (led F x) := by
  have nd := then_nodup hF hG
  have val : led (thenF F G) x = if x ∈ keys F then fill G (led F x) else led G x := by
    have get : ∀ p : Row, p.1 = x → ((∃ q ∈ F, p = (q.1, fill G q.2)) ∨ (p ∈ G ∧ p.1 ∉ keys F)) → led (thenF F G) x = p.2 := by
      intro p hp hm
      by_cases ho : own p = true
      · rw [← hp]
        exact led_mem nd ((mem_then hF hG p).mpr ⟨ho, hm⟩)
      · have hp2 : p.2 = [(p.1, -1)] := by unfold own at ho; simpa using ho
        rw [hp2, hp]
        refine led_none fun hk => ?_
        obtain ⟨r, hr, hrx⟩ := List.mem_map.mp hk
        obtain ⟨ho', hm'⟩ := (mem_then hF hG r).mp hr
        have : r = p := by
          rcases hm with ⟨q, hq, rfl⟩ | ⟨hq, hqn⟩
          · rcases hm' with ⟨q', hq', rfl⟩ | ⟨_, hn'⟩
            · have : q' = q := nodup_inj (f := fun p : Row => p.1) (l := F) hF hq' hq (hrx.trans hp.symm)
              rw [this]
            · exact absurd (List.mem_map.mpr ⟨q, hq, hp.trans hrx.symm⟩) hn'
          · rcases hm' with ⟨q', hq', rfl⟩ | ⟨hr', _⟩
            · exact absurd (List.mem_map.mpr ⟨q', hq', hrx.trans hp.symm⟩) hqn
            · exact nodup_inj (f := fun p : Row => p.1) (l := G) hG hr' hq (hrx.trans hp.symm)
        subst this
        exact ho ho'
    by_cases hx : x ∈ keys F
    · rw [if_pos hx]
      obtain ⟨q, hq, rfl⟩ := List.mem_map.mp hx
      rw [get (q.1, fill G q.2) rfl (.inl ⟨q, hq, rfl⟩), led_mem hF hq]
    · rw [if_neg hx]
      by_cases hg : x ∈ keys G
      · obtain ⟨q, hq, rfl⟩ := List.mem_map.mp hg
        rw [get q rfl (.inr ⟨hq, hx⟩), led_mem hG hq]
      · rw [led_none hg]
        refine led_none fun hk => ?_
        obtain ⟨r, hr, rfl⟩ := List.mem_map.mp hk
        obtain ⟨_, ⟨q, hq, rfl⟩ | ⟨h1, _⟩⟩ := (mem_then hF hG r).mp hr
        · exact hx (List.mem_map.mpr ⟨q, hq, rfl⟩)
        · exact hg (List.mem_map.mpr ⟨r, h1, rfl⟩)
  rw [val]
  split
  · rfl
  · rename_i hx
    rw [led_none hx, fill_one]
theorem fill_then {F G : Fil} (hF : (keys F).Nodup) (hG : (keys G).Nodup) (t : Term) : fill (thenF F G) t = fill G (fill F t) := by
  induction t with
  | nil => rfl
  | cons s t ih =>
    have e : ∀ K : Fil, fill K (s :: t) = (if s.2 = -1 then led K s.1 else [s]) ++ fill K t := fun _ => rfl
    rw [e, e, fill_append, ih]
    congr 1
    split
    · exact led_then hF hG _
    · rename_i h
      simp [fill, h]
theorem then_ok {k l : Nat} {F G : Fil} (hF : FillOk k F) (hG : FillOk l G) (hk : 0 < k) (hl : 0 < l) (hn : F.length + G.length ≤ 30) : FillOk (k * l) (thenF F G) := by
  refine ⟨?_, then_nodup hF.2.1 hG.2.1, fun p hp => ?_⟩
  · unfold thenF
    rw [(sortBy_perm _ _).length_eq]
    refine Nat.le_trans (List.length_filter_le ..) ?_
    rw [List.length_append, List.length_map]
    have := List.length_filter_le (fun p : Row => decide (p.1 ∉ keys F)) G
    omega
  · obtain ⟨_, ⟨q, hq, rfl⟩ | ⟨h1, _⟩⟩ := (mem_then hF.2.1 hG.2.1 p).mp hp
    · exact ⟨(hF.2.2 q hq).1, fill_ok hG hl (hF.2.2 q hq).2⟩
    · have h := hG.2.2 p h1
      exact ⟨h.1, Nat.le_trans h.2.1 (Nat.le_mul_of_pos_left l hk), h.2.2⟩
end L2.DL

namespace L2.DL
open PySem PySem.Spec PyProof.Rows
local macro_rules | `(tactic| walk_at "s") => `(tactic| try simp only [sqAsg_a, sqDrop_a, sqPar_a, sqPar3_a, sqRet_a, sqNext_a, sqSeq_a, sNext_a, sBreak_a, sCont_a, sDrop_a, sRet_a, sRetN_a, sIf_a, sAsg_a, sPar_a, sPar3_a, mVar_a, vAt_a, mC_a, mBin_a, mTest_a, bAt_a, mAnd_a, mOr_a, mNot_a, mYes_a, mAndV_a, mOrV_a, mNotV_a, mIf_a, mNil_a, mCons_a, mTup_a, mLst_a, mCall_a, mCallK_a, mMeth_a, mSl_a, mNoPart_a, iAt_a, mPart_a, mIsi_b, tysO_some, List.any_cons, List.any_nil, Bool.or_false, Bool.false_or, Bool.or_true, Bool.true_or, Int.natCast_pos, gN_a, gTup_a, gCons_a, gNil_a, gSub_a, sFor_a, mLc_a, mDc_a, wSeq_a, sqO_tup, sqO_str, sqO_ref, wRng1_a, mRev_a, revO_ref, List.getD_cons_zero, List.getD_cons_succ, ite_self, List.set_cons_zero, List.set_cons_succ, List.getElem?_cons_zero, List.getElem?_cons_succ, oAdd_int, oAdd_str, oAdd_tup, oAdd_ref, oSub_int, oMul_int, oDiv_int, oMod_int, oPow_int, oLt_int, oLe_int, oGt_int, oGe_int, oIs_nn, oIs_bn, oIs_in, oIs_sn, oIs_tn, oIs_rn, oIs_bb, oIs_nb, oIs_ib, oIs_sb, oIs_tb, oIs_rb, oIsi_int, oIsi_str, oIsi_bool, oIsi_tuple, oIsi_list, oIsi_dict, tyO_some, tyD_non, tyD_bl, tyD_int, tyD_str, tyD_tup, isi_facts, oEq_int, oNe_int, oEq_str, oNe_str, oSl_tup, oSl_str, oSl_ref, oLen_tup, oLen_str, oLen_ref, oAbs_int, oInt_int, oInt_bl, oMax_int, oMin_int, oTuple_tup, oTuple_ref, oList_tup, oList_str, oList_ref, oIx_tupE, oIx_ref, oAppend_ref, oPop_ref, oExtend_tupE, oSet_ref, isL_ref, isS_str, vO_some, ixO_lst, ixO_dicI, ixO_dicS, ixO_rodI, ixO_rodS, lsO_lst, rdO_lst, rdO_rol, lenO_lst, lenO_dic, lenO_rol, addO_lst, setO_lst, setO_dicI, setO_dicS, atI_zero, atI_one, atI_two, atI_end, startE, wipeE, List.map_cons, List.map_nil, List.length_cons, List.length_nil, List.replicate, List.cons_append, List.nil_append, Nat.reduceAdd, Nat.reduceSub, List.replicate_succ, List.replicate_zero, put_same, Nat.zero_le, Int.reduceLT, Int.reduceLE, Nat.reduceLT, Nat.reduceLeDiff, and_true, true_and, Bool.false_eq_true, ↓reduceIte, Bool.not_true, Bool.not_false, decide_true, decide_false, *])
local macro_rules | `(tactic| walk_at "i") => `(tactic| try simp only [sqIf_a, sqAsg_a, sqDrop_a, sqPar_a, sqPar3_a, sqRet_a, sqNext_a, sqSeq_a, sNext_a, sBreak_a, sCont_a, sDrop_a, sRet_a, sRetN_a, sIf_a, sAsg_a, sPar_a, sPar3_a, mVar_a, vAt_a, mC_a, mBin_a, mTest_a, bAt_a, mAnd_a, mOr_a, mNot_a, mYes_a, mAndV_a, mOrV_a, mNotV_a, mIf_a, mNil_a, mCons_a, mTup_a, mLst_a, mCall_a, mCallK_a, mMeth_a, mSl_a, mNoPart_a, iAt_a, mPart_a, mIsi_b, tysO_some, List.any_cons, List.any_nil, Bool.or_false, Bool.false_or, Bool.or_true, Bool.true_or, Int.natCast_pos, gN_a, gTup_a, gCons_a, gNil_a, gSub_a, sFor_a, mLc_a, mDc_a, wSeq_a, sqO_tup, sqO_str, sqO_ref, wRng1_a, mRev_a, revO_ref, List.getD_cons_zero, List.getD_cons_succ, ite_self, List.set_cons_zero, List.set_cons_succ, List.getElem?_cons_zero, List.getElem?_cons_succ, oAdd_int, oAdd_str, oAdd_tup, oAdd_ref, oSub_int, oMul_int, oDiv_int, oMod_int, oPow_int, oLt_int, oLe_int, oGt_int, oGe_int, oIs_nn, oIs_bn, oIs_in, oIs_sn, oIs_tn, oIs_rn, oIs_bb, oIs_nb, oIs_ib, oIs_sb, oIs_tb, oIs_rb, oIsi_int, oIsi_str, oIsi_bool, oIsi_tuple, oIsi_list, oIsi_dict, tyO_some, tyD_non, tyD_bl, tyD_int, tyD_str, tyD_tup, isi_facts, oEq_int, oNe_int, oEq_str, oNe_str, oSl_tup, oSl_str, oSl_ref, oLen_tup, oLen_str, oLen_ref, oAbs_int, oInt_int, oInt_bl, oMax_int, oMin_int, oTuple_tup, oTuple_ref, oList_tup, oList_str, oList_ref, oIx_tupE, oIx_ref, oAppend_ref, oPop_ref, oExtend_tupE, oSet_ref, isL_ref, isS_str, vO_some, ixO_lst, ixO_dicI, ixO_dicS, ixO_rodI, ixO_rodS, lsO_lst, rdO_lst, rdO_rol, lenO_lst, lenO_dic, lenO_rol, addO_lst, setO_lst, setO_dicI, setO_dicS, atI_zero, atI_one, atI_two, atI_end, startE, wipeE, List.map_cons, List.map_nil, List.length_cons, List.length_nil, List.replicate, List.cons_append, List.nil_append, Nat.reduceAdd, Nat.reduceSub, List.replicate_succ, List.replicate_zero, put_same, Nat.zero_le, Int.reduceLT, Int.reduceLE, Nat.reduceLT, Nat.reduceLeDiff, and_true, true_and, Bool.false_eq_true, ↓reduceIte, Bool.not_true, Bool.not_false, decide_true, decide_false, *])
def S_letter : DSp := fun vs st Q => ∃ x : Str, vs = [.str x] ∧ Q (termD [(x, -1)]) st
def S_lot_of : DSp := fun vs st Q => ∃ (a : Addr) (F : Fil), vs = [.ref a] ∧ st a = some (.dic (tabD F)) ∧ F.length ≤ 60 ∧ (keys F).Nodup ∧ ∀ st', Keep st st' → Q (fillD (sortBy (·.1) F)) st'
def S_filled : DSp := fun vs st Q => ∃ (t : Term) (F : Fil), vs = [termD t, fillD F] ∧ TermOk 1000 t ∧ FillOk 1000 F ∧ ∀ st', Keep st st' → Q (termD (fill F t)) st'
def S_then_filled : DSp := fun vs st Q => ∃ F G : Fil, vs = [fillD F, fillD G] ∧ FillOk 1000 F ∧ FillOk 1000 G ∧ F.length + G.length ≤ 30 ∧ ∀ st', Keep st st' → Q (fillD (thenF F G)) st'
def S_law_led : DSp := fun vs st Q => ∃ (F : Fil) (x : Str), vs = [fillD F, .str x] ∧ FillOk 1000 F ∧ ∀ st', Keep st st' → Q (termD (led F x)) st'
def S_law_put : DSp := fun vs st Q => ∃ (t : Term) (F : Fil), vs = [termD t, fillD F] ∧ TermOk 1000 t ∧ FillOk 1000 F ∧ ∀ st', Keep st st' → Q (termD (fill F t)) st'
def t_letter : MS := sRet (mTup (mCons (mTup (mCons (mVar 0) (mCons (mC (.int (-1))) (mNil)))) (mNil)))
theorem kp_letter : Keeps 1 1 S_letter t_letter := by
  refine ⟨fun ds st Q ⟨x, e, _⟩ => by rw [e]; rfl, fun ds st Q ⟨x, e, q⟩ => ?_⟩
  subst e
  have z1 : 1 ≤ sizeLine := by decide
  have z2 : 2 ≤ sizeLine := by decide
  unfold t_letter
  walk_at "s"
  exact endsOf_i q
/-- lot_of(table): 0 table 1 name -/
def t_lot_of : MS := sRet (mCall oTuple (mCons (mLc (wSeq (mCall oSorted (mCons (mVar 0) (mNil)))) (gN 1) (mYes) (mTup (mCons (mVar 1) (mCons (mBin oIx (mVar 0) (mVar 1)) (mNil)))) [1]) (mNil)))
theorem kp_lot_of : Keeps 1 2 S_lot_of t_lot_of := by
  refine ⟨fun ds st Q ⟨a, F, e, _⟩ => by rw [e]; rfl, fun ds st Q ⟨a, F, e, la, hl, nd, q⟩ => ?_⟩
  subst e
  have z2 : 2 ≤ sizeLine := by decide
  unfold t_lot_of
  walk_at "s"
  refine .inl ⟨_, keys F, by rw [la]; rfl, tab_keys F, by unfold keys; rw [List.length_map]; omega, fun p hp => ?_⟩
  have la2 := (Keep.put (o := .lst ((sortBy id (keys F)).map D.str)) hp).d la
  have k2 : Keep st (put st p (.lst ((sortBy id (keys F)).map D.str))) := Keep.put hp
  have lp : put st p (.lst ((sortBy id (keys F)).map D.str)) p = some (.lst ((sortBy id (keys F)).map D.str)) := put_same
  generalize put st p (.lst ((sortBy id (keys F)).map D.str)) = st2 at *
  clear la hp
  walk_at "s"
  have len : (sortBy id (keys F)).length = F.length := by rw [(sortBy_perm _ _).length_eq]; unfold keys; rw [List.length_map]
  refine lc_keep (onS fun x => some (.tup [.str x, termD (led F x)])) (fun st' u => by rw [u.l lp]; rfl) (by rw [List.length_map, len, szL]; omega) (fun y hy st3 u3 P N hP hN => ?_) fun p3 st3 hp3 u3 lp3 => ?_
  · obtain ⟨x, hx, rfl⟩ := List.mem_map.mp hy
    have la3 := u3.d la2
    have hx2 : x ∈ keys F := (sortBy_perm id (keys F)).mem_iff.mp hx
    obtain ⟨r, hr, rfl, e⟩ := find_some hx2
    have e1 : valD (tabD F) (.inr r.1) = some (termD (led F r.1)) := by
      rw [tab_get, e, led_mem nd hr]; rfl
    have h1 := hP (.tup [.str r.1, termD (led F r.1)]) st3 rfl .refl
    clear hP hN u3 la2 lp k2 e
    walk_at "s"
  · rw [onS_map, fm_some] at lp3
    clear la2 lp
    walk_at "s"
    have e : (sortBy id (keys F)).map (fun x => D.tup [.str x, termD (led F x)]) = (sortBy (·.1) F).map rowD := by
      rw [sortBy_fst nd, List.map_map]
      refine List.map_congr_left fun p hp => ?_
      have hp2 := (sortBy_perm (·.1) F).mem_iff.mp hp
      show D.tup [.str p.1, termD (led F p.1)] = _
      rw [led_mem nd hp2]; rfl
    rw [e]
    exact endsOf_i (q _ (k2.trans u3))
/-- by the rows -/
def onP {α : Type} (g : Str → D → Option α) : D → Option α
  | .tup [.str a, b] => g a b
  | _ => none
theorem onP_map {α : Type} (g : Str → D → Option α) (F : Fil) : (F.map rowD).filterMap (onP g) = F.filterMap fun p => g p.1 (termD p.2) := by
  rw [List.filterMap_map]; rfl
theorem onP_row {α : Type} (g : Str → D → Option α) (p : Row) : onP g (rowD p) = g p.1 (termD p.2) := rfl
theorem nd_map {α β : Type} {f : α → β} (hf : ∀ a b, f a = f b → a = b) : ∀ {l : List α}, l.Nodup → (l.map f).Nodup
  | [], _ => List.nodup_nil
  | a :: l, h => by
    rw [List.nodup_cons] at h
    rw [List.map_cons, List.nodup_cons]
    refine ⟨fun c => ?_, nd_map hf h.2⟩
    obtain ⟨b, hb, e⟩ := List.mem_map.mp c
    rw [← hf _ _ e] at h
    exact h.1 hb
theorem sign_ix0 {s : Sign} {st : Sto} {Q : DK} : oIx (signD s) (.int 0) st Q = Q (.str s.1) st := by
  unfold signD
  rw [oIx_tupE, atI_zero]; rfl
theorem sign_ix1 {s : Sign} {st : Sto} {Q : DK} : oIx (signD s) (.int 1) st Q = Q (.int s.2) st := by
  unfold signD
  rw [oIx_tupE, atI_one]; rfl
theorem tab_fold {F : Fil} (nd : (keys F).Nodup) : ((F.map rowD).filterMap (onP fun a b => some ((Sum.inr a : Key), b))).foldl (fun acc kv => putD acc kv.1 kv.2) [] = tabD F := by
  rw [onP_map, fm_some, foldl_putD]
  · rfl
  · have : (([] : List (Key × D)) ++ F.map fun p => ((Sum.inr p.1 : Key), termD p.2)).map (·.1) = (keys F).map Sum.inr := by
      rw [List.nil_append]; exact tab_keys F
    rw [this]
    exact nd_map (fun a b h => Sum.inr.inj h) nd
/-- filled(term, filling): 0 term 1 filling 2 table 3 found 4 sign 5 name 6 part -/
def t_filled : MS := sSeq (sAsg (mDc (wSeq (mVar 1)) (gTup 2 (gCons (gN 5) (gCons (gN 6) (gNil)))) (mYes) (mVar 5) (mVar 6) [5, 6]) (gN 2))
    (sSeq (sAsg (mLst (mNil)) (gN 3))
    (sSeq (sFor (wSeq (mVar 0)) (gN 4) (sIf (mAnd (mTest (mBin oEq (mBin oIx (mVar 4) (mC (.int 1))) (mC (.int (-1))))) (mTest (mBin oIn (mBin oIx (mVar 4) (mC (.int 0))) (mVar 2)))) (sDrop (mMeth isL oExtend (mVar 3) (mCons (mBin oIx (mVar 2) (mBin oIx (mVar 4) (mC (.int 0)))) (mNil)))) (sDrop (mMeth isL oAppend (mVar 3) (mCons (mVar 4) (mNil))))))
    (sRet (mCall oTuple (mCons (mVar 3) (mNil))))))
theorem kp_filled : Keeps 2 7 S_filled t_filled := by
  refine ⟨fun ds st Q ⟨t, F, e, _⟩ => by rw [e]; rfl, fun ds st Q ⟨t, F, e, ht, hF, q⟩ => ?_⟩
  subst e
  have z0 : 0 ≤ sizeLine := by decide
  unfold t_filled termD fillD
  walk_at "s"
  refine dc_keep (onP fun a b => some (Sum.inr a, b)) (fun _ _ => trivial) (by rw [List.length_map, szL]; have := hF.1; omega) (fun y hy st3 u3 P N hP hN => ?_) fun p st3 hp u3 lp => ?_
  · obtain ⟨r, hr, rfl⟩ := List.mem_map.mp hy
    have h1 := hP (.inr r.1) (.str r.1) (termD r.2) st3 rfl rfl .refl
    clear hP hN
    unfold rowD
    walk_at "s"
  · rw [tab_fold hF.2.1] at lp
    walk_at "s"
    intro p2 hp2
    have lp2 := (Keep.put (o := .lst []) hp2).d lp
    have uu2 : Keep st (put st3 p2 (.lst [])) := u3.new hp2
    have n12 : p2 ≠ p := hp2.neD lp
    have nf2 : Nf st p2 := hp2.backK u3
    have lq2 : put st3 p2 (.lst []) p2 = some (.lst []) := put_same
    generalize put st3 p2 (.lst []) = st4 at *
    clear hp2 lp u3 hp
    refine sSeq_i (fun env st' => ∃ a b c d e f, env = [a, b, c, some (.ref p2), d, e, f] ∧ Keep st st' ∧ st' p2 = some (.lst ((fill F t).map signD))) (fun nx hnx => ?_) ?_
    · rw [sFor_a]
      walk_at "s"
      refine ⟨fun i env st' => ∃ d, env = [some (.tup (t.map signD)), some (.tup (F.map rowD)), some (.ref p), some (.ref p2), d, none, none] ∧ Keep st st' ∧ st' p = some (.dic (tabD F)) ∧ st' p2 = some (.lst ((fill F (t.take i)).map signD)), ⟨none, rfl, uu2, lp2, lq2⟩, fun _ _ _ _ _ => trivial, ?_, ?_⟩
      · rintro i y env st' hy ⟨d, rfl, u, l1, l2⟩
        clear hnx lp2 lq2 uu2
        rw [List.getElem?_map, Option.map_eq_some_iff] at hy
        obtain ⟨s, hs, rfl⟩ := hy
        have ok1 : TermOk (i * 1000) (fill F (t.take i)) := fill_ok hF (by omega) ⟨by rw [List.length_take]; omega, fun s hs => ht.2 s (List.mem_of_mem_take hs)⟩
        have hi : i < 1000 := by
          have := (List.getElem?_eq_some_iff.mp hs).1
          have := ht.1
          omega
        have hlen : ((fill F (t.take i)).map signD).length ≤ 1000000 := by
          rw [List.length_map]
          have := ok1.1
          have : i * 1000 ≤ 1000000 := by omega
          omega
        have lt1 : ((fill F (t.take i)).map signD).length < sizeLine := by rw [szL]; omega
        have stp : fill F (t.take (i + 1)) = fill F (t.take i) ++ (if s.2 = -1 then led F s.1 else [s]) := by
          rw [take_snoc hs, fill_append]
          simp [fill]
        have done : ∀ v : Term, v = (if s.2 = -1 then led F s.1 else [s]) → ∃ d, [some (D.tup (t.map signD)), some (.tup (F.map rowD)), some (.ref p), some (.ref p2), some (signD s), none, none] = [some (.tup (t.map signD)), some (.tup (F.map rowD)), some (.ref p), some (.ref p2), d, none, none] ∧ Keep st (put st' p2 (.lst ((fill F (t.take i)).map signD ++ v.map signD))) ∧ put st' p2 (.lst ((fill F (t.take i)).map signD ++ v.map signD)) p = some (.dic (tabD F)) ∧ put st' p2 (.lst ((fill F (t.take i)).map signD ++ v.map signD)) p2 = some (.lst ((fill F (t.take (i + 1))).map signD)) := by
          rintro v rfl
          exact ⟨_, rfl, u.mut nf2, by rw [put_ne n12.symm]; exact l1, by rw [put_same, stp, List.map_append]⟩
        have i0 := fun st Q => sign_ix0 (s := s) (st := st) (Q := Q)
        have i1 := fun st Q => sign_ix1 (s := s) (st := st) (Q := Q)
        have gt := tab_get F s.1
        clear stp
        walk_at "s"
        by_cases h1 : s.2 = -1
        · rw [if_pos (by simpa using h1)]
          refine oIn_ref ?_
          rw [l1, inO_dicS, bAt_a, gt]
          by_cases hk : s.1 ∈ keys F
          · obtain ⟨r, hr, e1, e2⟩ := find_some hk
            have e3 : led F s.1 = r.2 := by rw [← e1]; exact led_mem hF.2.1 hr
            have z3 : ((fill F (t.take i)).map signD).length + (r.2.map signD).length ≤ sizeLine := by
              rw [szL, List.length_map (as := r.2)]
              have := (hF.2.2 r hr).2.1
              omega
            have d1 := done r.2 (by rw [if_pos h1, e3])
            clear done
            rw [e2] at gt ⊢
            have gt2 : valD (tabD F) (Sum.inr s.1) = some (.tup (r.2.map signD)) := gt
            clear gt
            simp only [Option.map_some, Option.isSome_some, if_true]
            walk_at "s"
            simpa [put_same] using d1
          · rw [find_none hk]
            have d1 := done [s] (by
              rw [if_pos h1, led_none hk]
              obtain ⟨a, b⟩ := s
              simp only at h1
              subst h1
              rfl)
            clear done
            simp only [Option.map_none, Option.isSome_none, Bool.false_eq_true, if_false]
            walk_at "s"
            simpa [put_same] using d1
        · rw [if_neg (by simpa using h1)]
          have d1 := done [s] (by rw [if_neg h1])
          clear done
          walk_at "s"
          simpa [put_same] using d1
      · rintro env st' ⟨d, rfl, u, l1, l2⟩
        rw [List.length_map, List.take_length] at l2
        exact hnx _ _ ⟨_, _, _, _, _, _, rfl, u, l2⟩
    · rintro env st' ⟨a, b, c, d, e, f, rfl, u, l2⟩
      walk_at "s"
      exact endsOf_i (q st' u)
end L2.DL

namespace L2.DL
open PySem PySem.Spec PyProof.Rows
local macro_rules | `(tactic| walk_at "s") => `(tactic| try simp only [sqAsg_a, sqDrop_a, sqPar_a, sqPar3_a, sqRet_a, sqNext_a, sqSeq_a, sNext_a, sBreak_a, sCont_a, sDrop_a, sRet_a, sRetN_a, sIf_a, sAsg_a, sPar_a, sPar3_a, mVar_a, vAt_a, mC_a, mBin_a, mTest_a, bAt_a, mAnd_a, mOr_a, mNot_a, mYes_a, mAndV_a, mOrV_a, mNotV_a, mIf_a, mNil_a, mCons_a, mTup_a, mLst_a, mCall_a, mCallK_a, mMeth_a, mSl_a, mNoPart_a, iAt_a, mPart_a, mIsi_b, tysO_some, List.any_cons, List.any_nil, Bool.or_false, Bool.false_or, Bool.or_true, Bool.true_or, Int.natCast_pos, gN_a, gTup_a, gCons_a, gNil_a, gSub_a, sFor_a, mLc_a, mDc_a, wSeq_a, sqO_tup, sqO_str, sqO_ref, wRng1_a, mRev_a, revO_ref, List.getD_cons_zero, List.getD_cons_succ, ite_self, List.set_cons_zero, List.set_cons_succ, List.getElem?_cons_zero, List.getElem?_cons_succ, oAdd_int, oAdd_str, oAdd_tup, oAdd_ref, oSub_int, oMul_int, oDiv_int, oMod_int, oPow_int, oLt_int, oLe_int, oGt_int, oGe_int, oIs_nn, oIs_bn, oIs_in, oIs_sn, oIs_tn, oIs_rn, oIs_bb, oIs_nb, oIs_ib, oIs_sb, oIs_tb, oIs_rb, oIsi_int, oIsi_str, oIsi_bool, oIsi_tuple, oIsi_list, oIsi_dict, tyO_some, tyD_non, tyD_bl, tyD_int, tyD_str, tyD_tup, isi_facts, oEq_int, oNe_int, oEq_str, oNe_str, oSl_tup, oSl_str, oSl_ref, oLen_tup, oLen_str, oLen_ref, oAbs_int, oInt_int, oInt_bl, oMax_int, oMin_int, oTuple_tup, oTuple_ref, oList_tup, oList_str, oList_ref, oIx_tupE, oIx_ref, oAppend_ref, oPop_ref, oExtend_tupE, oSet_ref, isL_ref, isS_str, vO_some, ixO_lst, ixO_dicI, ixO_dicS, ixO_rodI, ixO_rodS, lsO_lst, rdO_lst, rdO_rol, lenO_lst, lenO_dic, lenO_rol, addO_lst, setO_lst, setO_dicI, setO_dicS, atI_zero, atI_one, atI_two, atI_end, startE, wipeE, List.map_cons, List.map_nil, List.length_cons, List.length_nil, List.replicate, List.cons_append, List.nil_append, Nat.reduceAdd, Nat.reduceSub, List.replicate_succ, List.replicate_zero, put_same, Nat.zero_le, Int.reduceLT, Int.reduceLE, Nat.reduceLT, Nat.reduceLeDiff, and_true, true_and, Bool.false_eq_true, ↓reduceIte, Bool.not_true, Bool.not_false, decide_true, decide_false, *])
local macro_rules | `(tactic| walk_at "i") => `(tactic| try simp only [sqIf_a, sqAsg_a, sqDrop_a, sqPar_a, sqPar3_a, sqRet_a, sqNext_a, sqSeq_a, sNext_a, sBreak_a, sCont_a, sDrop_a, sRet_a, sRetN_a, sIf_a, sAsg_a, sPar_a, sPar3_a, mVar_a, vAt_a, mC_a, mBin_a, mTest_a, bAt_a, mAnd_a, mOr_a, mNot_a, mYes_a, mAndV_a, mOrV_a, mNotV_a, mIf_a, mNil_a, mCons_a, mTup_a, mLst_a, mCall_a, mCallK_a, mMeth_a, mSl_a, mNoPart_a, iAt_a, mPart_a, mIsi_b, tysO_some, List.any_cons, List.any_nil, Bool.or_false, Bool.false_or, Bool.or_true, Bool.true_or, Int.natCast_pos, gN_a, gTup_a, gCons_a, gNil_a, gSub_a, sFor_a, mLc_a, mDc_a, wSeq_a, sqO_tup, sqO_str, sqO_ref, wRng1_a, mRev_a, revO_ref, List.getD_cons_zero, List.getD_cons_succ, ite_self, List.set_cons_zero, List.set_cons_succ, List.getElem?_cons_zero, List.getElem?_cons_succ, oAdd_int, oAdd_str, oAdd_tup, oAdd_ref, oSub_int, oMul_int, oDiv_int, oMod_int, oPow_int, oLt_int, oLe_int, oGt_int, oGe_int, oIs_nn, oIs_bn, oIs_in, oIs_sn, oIs_tn, oIs_rn, oIs_bb, oIs_nb, oIs_ib, oIs_sb, oIs_tb, oIs_rb, oIsi_int, oIsi_str, oIsi_bool, oIsi_tuple, oIsi_list, oIsi_dict, tyO_some, tyD_non, tyD_bl, tyD_int, tyD_str, tyD_tup, isi_facts, oEq_int, oNe_int, oEq_str, oNe_str, oSl_tup, oSl_str, oSl_ref, oLen_tup, oLen_str, oLen_ref, oAbs_int, oInt_int, oInt_bl, oMax_int, oMin_int, oTuple_tup, oTuple_ref, oList_tup, oList_str, oList_ref, oIx_tupE, oIx_ref, oAppend_ref, oPop_ref, oExtend_tupE, oSet_ref, isL_ref, isS_str, vO_some, ixO_lst, ixO_dicI, ixO_dicS, ixO_rodI, ixO_rodS, lsO_lst, rdO_lst, rdO_rol, lenO_lst, lenO_dic, lenO_rol, addO_lst, setO_lst, setO_dicI, setO_dicS, atI_zero, atI_one, atI_two, atI_end, startE, wipeE, List.map_cons, List.map_nil, List.length_cons, List.length_nil, List.replicate, List.cons_append, List.nil_append, Nat.reduceAdd, Nat.reduceSub, List.replicate_succ, List.replicate_zero, put_same, Nat.zero_le, Int.reduceLT, Int.reduceLE, Nat.reduceLT, Nat.reduceLeDiff, and_true, true_and, Bool.false_eq_true, ↓reduceIte, Bool.not_true, Bool.not_false, decide_true, decide_false, *])
/-- a table's row set -/
def setF (T : Fil) (r : Row) : Fil := if r.1 ∈ keys T then T.map (fun q => if q.1 = r.1 then r else q) else T ++ [r]
theorem putD_tab (T : Fil) (r : Row) : putD (tabD T) (.inr r.1) (termD r.2) = tabD (setF T r) := by
  have e : ((tabD T).any fun kv => decide (kv.1 = Sum.inr r.1)) = decide (r.1 ∈ keys T) := by
    unfold tabD keys
    rw [List.any_map, Bool.eq_iff_iff]
    simp only [List.any_eq_true, Function.comp, decide_eq_true_eq, Sum.inr.injEq, List.mem_map]
  unfold putD setF
  rw [e]
  by_cases h : r.1 ∈ keys T
  · rw [if_pos (by simpa using h), if_pos h]
    unfold tabD
    rw [List.map_map, List.map_map]
    refine List.map_congr_left fun q _ => ?_
    simp only [Function.comp, Sum.inr.injEq]
    by_cases h2 : q.1 = r.1
    · rw [if_pos h2, if_pos h2, h2]
    · rw [if_neg h2, if_neg h2]
  · rw [if_neg (by simpa using h), if_neg h]
    unfold tabD
    rw [List.map_append]
    rfl
theorem setF_keys (T : Fil) (r : Row) : keys (setF T r) = if r.1 ∈ keys T then keys T else keys T ++ [r.1] := by
  unfold setF
  split
  · unfold keys
    rw [List.map_map]
    refine List.map_congr_left fun q _ => ?_
    simp only [Function.comp]
    split
    · rename_i h; exact h.symm
    · rfl
  · unfold keys
    rw [List.map_append]
    rfl
theorem setF_nodup {T : Fil} {r : Row} (h : (keys T).Nodup) : (keys (setF T r)).Nodup := by
  rw [setF_keys]
  split
  · exact h
  · rename_i h2
    rw [List.nodup_append]
    refine ⟨h, by simp, fun a ha b hb e => ?_⟩
    rw [List.mem_singleton.mp hb] at e
    exact h2 (e ▸ ha)
theorem setF_mem {T : Fil} {r p : Row} : p ∈ setF T r ↔ p = r ∨ (p ∈ T ∧ p.1 ≠ r.1) := by
  unfold setF
  by_cases h : r.1 ∈ keys T
  · rw [if_pos h, List.mem_map]
    constructor
    · rintro ⟨q, hq, rfl⟩
      by_cases h2 : q.1 = r.1
      · rw [if_pos h2]; exact .inl rfl
      · rw [if_neg h2]; exact .inr ⟨hq, h2⟩
    · rintro (rfl | ⟨hp, h2⟩)
      · obtain ⟨q, hq, e⟩ := List.mem_map.mp h
        exact ⟨q, hq, by rw [if_pos e]⟩
      · exact ⟨p, hp, by rw [if_neg h2]⟩
  · rw [if_neg h, List.mem_append, List.mem_singleton]
    constructor
    · rintro (hp | rfl)
      · exact .inr ⟨hp, fun e => h (e ▸ List.mem_map.mpr ⟨p, hp, rfl⟩)⟩
      · exact .inl rfl
    · rintro (rfl | ⟨hp, _⟩)
      · exact .inr rfl
      · exact .inl hp
theorem setF_len (T : Fil) (r : Row) : (setF T r).length ≤ T.length + 1 := by
  unfold setF
  split <;> simp
/-- rows set one behind another -/
def setAll (G : Fil) : Fil → Fil → Fil
  | T, [] => T
  | T, q :: F => setAll G (setF T (q.1, fill G q.2)) F
theorem setAll_snoc (G : Fil) : ∀ (F T : Fil) (q : Row), setAll G T (F ++ [q]) = setF (setAll G T F) (q.1, fill G q.2)
  | [], _, _ => rfl
  | a :: F, T, q => setAll_snoc G F _ q
theorem setAll_ok (G : Fil) : ∀ (F T : Fil), (keys F).Nodup → (keys T).Nodup → (keys (setAll G T F)).Nodup ∧ (setAll G T F).length ≤ T.length + F.length ∧ ∀ p, p ∈ setAll G T F ↔ (∃ q ∈ F, p = (q.1, fill G q.2)) ∨ (p ∈ T ∧ p.1 ∉ keys F)
  | [], T, _, hT => ⟨hT, Nat.le_refl _, fun p => by simp [setAll, keys]⟩
  | a :: F, T, hF, hT => by
    have hF' : a.1 ∉ keys F ∧ (keys F).Nodup := by
      unfold keys at hF ⊢
      rwa [List.map_cons, List.nodup_cons] at hF
    obtain ⟨i1, i2, i3⟩ := setAll_ok G F (setF T (a.1, fill G a.2)) hF'.2 (setF_nodup hT)
    refine ⟨i1, ?_, fun p => ?_⟩
    · have := setF_len T (a.1, fill G a.2)
      show (setAll G (setF T (a.1, fill G a.2)) F).length ≤ _
      rw [List.length_cons]
      omega
    · show p ∈ setAll G (setF T (a.1, fill G a.2)) F ↔ _
      rw [i3 p, setF_mem]
      have ek : keys (a :: F) = a.1 :: keys F := rfl
      rw [ek]
      constructor
      · rintro (⟨q, hq, rfl⟩ | ⟨rfl | ⟨h1, h2⟩, h3⟩)
        · exact .inl ⟨q, List.mem_cons_of_mem _ hq, rfl⟩
        · exact .inl ⟨a, List.mem_cons_self .., rfl⟩
        · exact .inr ⟨h1, fun c => by
            rcases List.mem_cons.mp c with c | c
            · exact h2 c
            · exact h3 c⟩
      · rintro (⟨q, hq, rfl⟩ | ⟨h1, h2⟩)
        · rcases List.mem_cons.mp hq with rfl | hq
          · exact .inr ⟨.inl rfl, hF'.1⟩
          · exact .inl ⟨q, hq, rfl⟩
        · exact .inr ⟨.inr ⟨h1, fun e => h2 (e ▸ List.mem_cons_self ..)⟩, fun c => h2 (List.mem_cons_of_mem _ c)⟩
theorem nodup_of_keys {F : Fil} (h : (keys F).Nodup) : F.Nodup := by
  unfold keys at h
  rw [List.Nodup, List.pairwise_map] at h
  exact h.imp fun hab e => hab (congrArg (·.1) e)
theorem setAll_then {F G : Fil} (hF : (keys F).Nodup) (hG : (keys G).Nodup) : sortBy (·.1) ((setAll G G F).filter own) = thenF F G := by
  obtain ⟨i1, i2, i3⟩ := setAll_ok G F G hF hG
  have k2 := keys_then hF hG
  have p : (setAll G G F).Perm (F.map (fun p => (p.1, fill G p.2)) ++ G.filter fun p => decide (p.1 ∉ keys F)) := by
    refine (List.perm_ext_iff_of_nodup (nodup_of_keys i1) (nodup_of_keys k2)).mpr fun p => ?_
    rw [i3 p, List.mem_append, List.mem_map, List.mem_filter]
    simp only [decide_eq_true_eq]
    constructor
    · rintro (⟨q, hq, rfl⟩ | h)
      · exact .inl ⟨q, hq, rfl⟩
      · exact .inr h
    · rintro (⟨q, hq, rfl⟩ | h)
      · exact .inl ⟨q, hq, rfl⟩
      · exact .inr h
  unfold thenF
  exact sortBy_keys (p.filter own) (keys_filter k2 own)
end L2.DL

namespace L2.DL
open PySem PySem.Spec PyProof.Rows
local macro_rules | `(tactic| walk_at "s") => `(tactic| try simp only [sqAsg_a, sqDrop_a, sqPar_a, sqPar3_a, sqRet_a, sqNext_a, sqSeq_a, sNext_a, sBreak_a, sCont_a, sDrop_a, sRet_a, sRetN_a, sIf_a, sAsg_a, sPar_a, sPar3_a, mVar_a, vAt_a, mC_a, mBin_a, mTest_a, bAt_a, mAnd_a, mOr_a, mNot_a, mYes_a, mAndV_a, mOrV_a, mNotV_a, mIf_a, mNil_a, mCons_a, mTup_a, mLst_a, mCall_a, mCallK_a, mMeth_a, mSl_a, mNoPart_a, iAt_a, mPart_a, mIsi_b, tysO_some, List.any_cons, List.any_nil, Bool.or_false, Bool.false_or, Bool.or_true, Bool.true_or, Int.natCast_pos, gN_a, gTup_a, gCons_a, gNil_a, gSub_a, sFor_a, mLc_a, mDc_a, wSeq_a, sqO_tup, sqO_str, sqO_ref, wRng1_a, mRev_a, revO_ref, List.getD_cons_zero, List.getD_cons_succ, ite_self, List.set_cons_zero, List.set_cons_succ, List.getElem?_cons_zero, List.getElem?_cons_succ, oAdd_int, oAdd_str, oAdd_tup, oAdd_ref, oSub_int, oMul_int, oDiv_int, oMod_int, oPow_int, oLt_int, oLe_int, oGt_int, oGe_int, oIs_nn, oIs_bn, oIs_in, oIs_sn, oIs_tn, oIs_rn, oIs_bb, oIs_nb, oIs_ib, oIs_sb, oIs_tb, oIs_rb, oIsi_int, oIsi_str, oIsi_bool, oIsi_tuple, oIsi_list, oIsi_dict, tyO_some, tyD_non, tyD_bl, tyD_int, tyD_str, tyD_tup, isi_facts, oEq_int, oNe_int, oEq_str, oNe_str, oSl_tup, oSl_str, oSl_ref, oLen_tup, oLen_str, oLen_ref, oAbs_int, oInt_int, oInt_bl, oMax_int, oMin_int, oTuple_tup, oTuple_ref, oList_tup, oList_str, oList_ref, oIx_tupE, oIx_ref, oAppend_ref, oPop_ref, oExtend_tupE, oSet_ref, isL_ref, isS_str, vO_some, ixO_lst, ixO_dicI, ixO_dicS, ixO_rodI, ixO_rodS, lsO_lst, rdO_lst, rdO_rol, lenO_lst, lenO_dic, lenO_rol, addO_lst, setO_lst, setO_dicI, setO_dicS, atI_zero, atI_one, atI_two, atI_end, startE, wipeE, List.map_cons, List.map_nil, List.length_cons, List.length_nil, List.replicate, List.cons_append, List.nil_append, Nat.reduceAdd, Nat.reduceSub, List.replicate_succ, List.replicate_zero, put_same, Nat.zero_le, Int.reduceLT, Int.reduceLE, Nat.reduceLT, Nat.reduceLeDiff, and_true, true_and, Bool.false_eq_true, ↓reduceIte, Bool.not_true, Bool.not_false, decide_true, decide_false, *])
local macro_rules | `(tactic| walk_at "i") => `(tactic| try simp only [sqIf_a, sqAsg_a, sqDrop_a, sqPar_a, sqPar3_a, sqRet_a, sqNext_a, sqSeq_a, sNext_a, sBreak_a, sCont_a, sDrop_a, sRet_a, sRetN_a, sIf_a, sAsg_a, sPar_a, sPar3_a, mVar_a, vAt_a, mC_a, mBin_a, mTest_a, bAt_a, mAnd_a, mOr_a, mNot_a, mYes_a, mAndV_a, mOrV_a, mNotV_a, mIf_a, mNil_a, mCons_a, mTup_a, mLst_a, mCall_a, mCallK_a, mMeth_a, mSl_a, mNoPart_a, iAt_a, mPart_a, mIsi_b, tysO_some, List.any_cons, List.any_nil, Bool.or_false, Bool.false_or, Bool.or_true, Bool.true_or, Int.natCast_pos, gN_a, gTup_a, gCons_a, gNil_a, gSub_a, sFor_a, mLc_a, mDc_a, wSeq_a, sqO_tup, sqO_str, sqO_ref, wRng1_a, mRev_a, revO_ref, List.getD_cons_zero, List.getD_cons_succ, ite_self, List.set_cons_zero, List.set_cons_succ, List.getElem?_cons_zero, List.getElem?_cons_succ, oAdd_int, oAdd_str, oAdd_tup, oAdd_ref, oSub_int, oMul_int, oDiv_int, oMod_int, oPow_int, oLt_int, oLe_int, oGt_int, oGe_int, oIs_nn, oIs_bn, oIs_in, oIs_sn, oIs_tn, oIs_rn, oIs_bb, oIs_nb, oIs_ib, oIs_sb, oIs_tb, oIs_rb, oIsi_int, oIsi_str, oIsi_bool, oIsi_tuple, oIsi_list, oIsi_dict, tyO_some, tyD_non, tyD_bl, tyD_int, tyD_str, tyD_tup, isi_facts, oEq_int, oNe_int, oEq_str, oNe_str, oSl_tup, oSl_str, oSl_ref, oLen_tup, oLen_str, oLen_ref, oAbs_int, oInt_int, oInt_bl, oMax_int, oMin_int, oTuple_tup, oTuple_ref, oList_tup, oList_str, oList_ref, oIx_tupE, oIx_ref, oAppend_ref, oPop_ref, oExtend_tupE, oSet_ref, isL_ref, isS_str, vO_some, ixO_lst, ixO_dicI, ixO_dicS, ixO_rodI, ixO_rodS, lsO_lst, rdO_lst, rdO_rol, lenO_lst, lenO_dic, lenO_rol, addO_lst, setO_lst, setO_dicI, setO_dicS, atI_zero, atI_one, atI_two, atI_end, startE, wipeE, List.map_cons, List.map_nil, List.length_cons, List.length_nil, List.replicate, List.cons_append, List.nil_append, Nat.reduceAdd, Nat.reduceSub, List.replicate_succ, List.replicate_zero, put_same, Nat.zero_le, Int.reduceLT, Int.reduceLE, Nat.reduceLT, Nat.reduceLeDiff, and_true, true_and, Bool.false_eq_true, ↓reduceIte, Bool.not_true, Bool.not_false, decide_true, decide_false, *])
theorem mLock_a {i : Nat} {m : ME} {env : Env} {st : Sto} {Q : DK} {p : Addr} {kvs : List (Key × D)} (he : env[i]? = some (some (.ref p))) (hl : st p = some (.dic kvs)) (h : m env (put st p (.rod kvs)) fun d st' => st' p = some (.rod kvs) ∧ Q d (put st' p (.dic kvs))) : mLock i m env st Q := ⟨p, kvs, he, hl, h⟩
theorem wKeys_i {m : ME} {env : Env} {st : Sto} {p : Addr} {kvs : List (Key × D)} {Q : List D → (Sto → Prop) → Sto → Prop} (h : m env st fun x st1 => x = .ref p ∧ st1 p = some (.rod kvs) ∧ Q (kvs.map fun kv => keyB kv.1) (fun st => st p = some (.rod kvs)) st1) (mono : ∀ P P' : DK, (∀ d s, P d s → P' d s) → m env st P → m env st P') : wKeys m env st Q :=
  mono _ _ (fun d s ⟨e, h1, h2⟩ => ⟨p, kvs, e, h1, h2⟩) h
theorem tab_keyB (F : Fil) : ((tabD F).map fun kv => keyB kv.1) = (keys F).map D.str := by
  unfold tabD keys
  rw [List.map_map, List.map_map]
  rfl
/-- then_filled(one, other): 0 one 1 other 2 table 3 name 4 term -/
def t_then_filled : MS := sSeq (sAsg (mDc (wSeq (mVar 1)) (gTup 2 (gCons (gN 3) (gCons (gN 4) (gNil)))) (mYes) (mVar 3) (mVar 4) [3, 4]) (gN 2))
    (sSeq (sFor (wSeq (mVar 0)) (gTup 2 (gCons (gN 3) (gCons (gN 4) (gNil)))) (sAsg (mCall S_filled (mCons (mVar 4) (mCons (mVar 1) (mNil)))) (gSub (mVar 2) (mVar 3) oSet)))
    (sRet (mCall S_lot_of (mCons (mLock 2 (mDc (wKeys (mVar 2)) (gN 3) (mTest (mBin oNe (mBin oIx (mVar 2) (mVar 3)) (mCall S_letter (mCons (mVar 3) (mNil))))) (mVar 3) (mBin oIx (mVar 2) (mVar 3)) [3])) (mNil)))))
theorem kp_then_filled : Keeps 2 5 S_then_filled t_then_filled := by
  refine ⟨fun ds st Q ⟨F, G, e, _⟩ => by rw [e]; rfl, fun ds st Q ⟨F, G, e, hF, hG, hn, q⟩ => ?_⟩
  subst e
  unfold t_then_filled fillD
  walk_at "s"
  refine dc_keep (onP fun a b => some (Sum.inr a, b)) (fun _ _ => trivial) (by rw [List.length_map, szL]; have := hG.1; omega) (fun y hy st3 u3 P N hP hN => ?_) fun p st3 hp u3 lp => ?_
  · obtain ⟨r, hr, rfl⟩ := List.mem_map.mp hy
    have h1 := hP (.inr r.1) (.str r.1) (termD r.2) st3 rfl rfl .refl
    clear hP hN
    unfold rowD
    walk_at "s"
  · rw [tab_fold hG.2.1] at lp
    refine sSeq_i (fun env st' => ∃ a b d e, env = [a, b, some (.ref p), d, e] ∧ Keep st st' ∧ st' p = some (.dic (tabD (setAll G G F)))) (fun nx hnx => ?_) ?_
    · walk_at "s"
      refine ⟨fun i env st' => ∃ d e, env = [some (.tup (F.map rowD)), some (.tup (G.map rowD)), some (.ref p), d, e] ∧ Keep st st' ∧ st' p = some (.dic (tabD (setAll G G (F.take i)))), ⟨none, none, rfl, u3, lp⟩, fun _ _ _ _ _ => trivial, ?_, ?_⟩
      · rintro i y env st' hy ⟨d, e, rfl, u, l1⟩
        clear hnx lp u3
        rw [List.getElem?_map, Option.map_eq_some_iff] at hy
        obtain ⟨r, hr, rfl⟩ := hy
        have hr2 := List.mem_of_getElem? hr
        unfold rowD
        walk_at "s"
        refine ⟨r.2, G, rfl, (hF.2.2 r hr2).2, hG, fun st5 u5 => ?_⟩
        have l5 := u5.d l1
        have hlen : (tabD (setAll G G (F.take i))).length < sizeLine := by
          have h1 := (setAll_ok G (F.take i) G (by have h := hF.2.1; unfold keys at h ⊢; exact h.sublist ((List.take_sublist i F).map _)) hG.2.1).2.1
          unfold tabD
          rw [List.length_map, szL]
          rw [List.length_take] at h1
          omega
        have e1 := putD_tab (setAll G G (F.take i)) (r.1, fill G r.2)
        rw [← setAll_snoc G (F.take i) G r, ← take_snoc hr] at e1
        have ku : Keep st (put st5 p (.dic (tabD (setAll G G (F.take (i + 1)))))) := (u.trans u5).mut hp
        clear l1 u u5
        walk_at "s"
        exact ⟨_, _, rfl⟩
      · rintro env st' ⟨d, e, rfl, u, l1⟩
        rw [List.length_map, List.take_length] at l1
        exact hnx _ _ ⟨_, _, _, _, rfl, u, l1⟩
    · rintro env st' ⟨a, b, d, e, rfl, u, l1⟩
      obtain ⟨k1, k2, k3⟩ := setAll_ok G F G hF.2.1 hG.2.1
      have k4 := setAll_then hF.2.1 hG.2.1
      have k5 : ∀ p ∈ setAll G G F, nmOk p.1 ∧ ∀ s ∈ p.2, nmOk s.1 := by
        intro p hp
        rcases (k3 p).mp hp with ⟨q, hq, rfl⟩ | ⟨h1, _⟩
        · exact ⟨(hF.2.2 q hq).1, (fill_ok hG (by omega) (hF.2.2 q hq).2).2⟩
        · exact ⟨(hG.2.2 p h1).1, (hG.2.2 p h1).2.2⟩
      generalize setAll G G F = T at *
      clear lp u3
      walk_at "s"
      refine mLock_a rfl l1 ?_
      have lr : put st' p (.rod (tabD T)) p = some (.rod (tabD T)) := put_same
      have kr : ∀ a o, a ≠ p → put st' p (.rod (tabD T)) a = some o → st' a = some o := fun a o h e => by rw [put_ne h] at e; exact e
      walk_at "s"
      refine ⟨_, rfl, p, tabD T, rfl, lr, ?_⟩
      have lk : st' p = some (.dic (tabD T)) := l1
      have fin : ∀ p3 st4, p3 ≠ p → Keep (put st' p (.rod (tabD T))) st4 → st4 p3 = some (.dic (tabD (T.filter own))) → st4 p = some (.rod (tabD T)) ∧ S_lot_of [.ref p3] (put st4 p (.dic (tabD T))) (endsOf Q).rt := by
        intro p3 st4 n3 u4 l4
        refine ⟨u4 _ _ (by trivial) lr, p3, T.filter own, rfl, by rw [put_ne n3]; exact l4, ?_, keys_filter k1 own, fun st5 u5 => ?_⟩
        · have := List.length_filter_le own T
          have := hF.1
          omega
        · rw [k4]
          refine endsOf_i (q st5 (Keep.trans (fun a o n e => ?_) u5))
          have na : a ≠ p := hp.not e n
          rw [put_ne na]
          refine u4 _ _ n ?_
          rw [put_ne na]
          exact u _ _ n e
      have krod : Keep st (put st' p (.rod (tabD T))) := u.mut hp
      generalize put st' p (.rod (tabD T)) = st2 at *
      clear kr l1 lk
      rw [tab_keyB]
      refine dc_keep (fun d => match d with | .str x => if own (x, led T x) = true then some (Sum.inr x, termD (led T x)) else none | _ => none) (fun st6 u6 => u6 _ _ (by trivial) lr) (by rw [List.length_map, szL]; unfold keys; rw [List.length_map]; have := hF.1; omega) (fun y hy st6 u6 P N hP hN => ?_) fun p3 st6 hp3 u6 lp3 => ?_
      · obtain ⟨x, hx, rfl⟩ := List.mem_map.mp hy
        obtain ⟨r, hr, rfl, e1⟩ := find_some hx
        have e2 : valD (tabD T) (.inr r.1) = some (termD r.2) := by rw [tab_get, e1]; rfl
        have e3 := led_mem k1 hr
        simp only [e3] at hP hN
        have l6 : st6 p = some (.rod (tabD T)) := u6 _ _ (by trivial) lr
        clear fin lr u6 k4
        walk_at "s"
        refine ⟨r.1, rfl, ?_⟩
        refine oNe_term (k5 r hr).2 (fun s hs => by rw [List.mem_singleton.mp hs]; exact (k5 r hr).1) ?_
        rw [bAt_a]
        by_cases ho : own r = true
        · have h1 := hP (.inr r.1) (.str r.1) (termD r.2) st6 (by rw [if_pos ho]) rfl .refl
          rw [if_pos (by unfold own at ho; simpa using ho)]
          clear hP hN
          walk_at "s"
        · rw [if_neg (by unfold own at ho; simpa using ho)]
          exact hN st6 (by rw [if_neg ho]) .refl
      · refine fin p3 st6 ?_ u6 ?_
        · rintro rfl
          exact hp3.not lr (by trivial) rfl
        · rw [lp3]
          have e1 : (((keys T).map D.str).filterMap fun d => match d with | .str x => if own (x, led T x) = true then some ((Sum.inr x : Key), termD (led T x)) else none | _ => none) = tabD (T.filter own) := by
            have e2 : ∀ S : Fil, (∀ r ∈ S, led T r.1 = r.2) → (((keys S).map D.str).filterMap fun d => match d with | .str x => if own (x, led T x) = true then some ((Sum.inr x : Key), termD (led T x)) else none | _ => none) = tabD (S.filter own) := by
              intro S
              induction S with
              | nil => intro _; rfl
              | cons r S ih =>
                intro h
                have h1 := h r (List.mem_cons_self ..)
                have h2 := ih fun r hr => h r (List.mem_cons_of_mem _ hr)
                show (D.str r.1 :: (keys S).map D.str).filterMap _ = _
                by_cases ho : own r = true
                · rw [List.filterMap_cons_some (b := ((Sum.inr r.1 : Key), termD r.2)) (by simp only [h1]; rw [if_pos ho]), h2, List.filter_cons_of_pos ho]
                  rfl
                · rw [List.filterMap_cons_none (by simp only [h1]; rw [if_neg ho]), h2, List.filter_cons_of_neg ho]
            exact e2 T fun r hr => led_mem k1 hr
          rw [e1, foldl_putD]
          · rfl
          · rw [List.nil_append, tab_keys]
            exact nd_map (fun a b h => Sum.inr.inj h) (keys_filter k1 own)
end L2.DL

namespace L2.DL
open PySem PySem.Spec PyProof.Rows
local macro_rules | `(tactic| walk_at "s") => `(tactic| try simp only [sqAsg_a, sqDrop_a, sqPar_a, sqPar3_a, sqRet_a, sqNext_a, sqSeq_a, sNext_a, sBreak_a, sCont_a, sDrop_a, sRet_a, sRetN_a, sIf_a, sAsg_a, sPar_a, sPar3_a, mVar_a, vAt_a, mC_a, mBin_a, mTest_a, bAt_a, mAnd_a, mOr_a, mNot_a, mYes_a, mAndV_a, mOrV_a, mNotV_a, mIf_a, mNil_a, mCons_a, mTup_a, mLst_a, mCall_a, mCallK_a, mMeth_a, mSl_a, mNoPart_a, iAt_a, mPart_a, mIsi_b, tysO_some, List.any_cons, List.any_nil, Bool.or_false, Bool.false_or, Bool.or_true, Bool.true_or, Int.natCast_pos, gN_a, gTup_a, gCons_a, gNil_a, gSub_a, sFor_a, mLc_a, mDc_a, wSeq_a, sqO_tup, sqO_str, sqO_ref, wRng1_a, mRev_a, revO_ref, List.getD_cons_zero, List.getD_cons_succ, ite_self, List.set_cons_zero, List.set_cons_succ, List.getElem?_cons_zero, List.getElem?_cons_succ, oAdd_int, oAdd_str, oAdd_tup, oAdd_ref, oSub_int, oMul_int, oDiv_int, oMod_int, oPow_int, oLt_int, oLe_int, oGt_int, oGe_int, oIs_nn, oIs_bn, oIs_in, oIs_sn, oIs_tn, oIs_rn, oIs_bb, oIs_nb, oIs_ib, oIs_sb, oIs_tb, oIs_rb, oIsi_int, oIsi_str, oIsi_bool, oIsi_tuple, oIsi_list, oIsi_dict, tyO_some, tyD_non, tyD_bl, tyD_int, tyD_str, tyD_tup, isi_facts, oEq_int, oNe_int, oEq_str, oNe_str, oSl_tup, oSl_str, oSl_ref, oLen_tup, oLen_str, oLen_ref, oAbs_int, oInt_int, oInt_bl, oMax_int, oMin_int, oTuple_tup, oTuple_ref, oList_tup, oList_str, oList_ref, oIx_tupE, oIx_ref, oAppend_ref, oPop_ref, oExtend_tupE, oSet_ref, isL_ref, isS_str, vO_some, ixO_lst, ixO_dicI, ixO_dicS, ixO_rodI, ixO_rodS, lsO_lst, rdO_lst, rdO_rol, lenO_lst, lenO_dic, lenO_rol, addO_lst, setO_lst, setO_dicI, setO_dicS, atI_zero, atI_one, atI_two, atI_end, startE, wipeE, List.map_cons, List.map_nil, List.length_cons, List.length_nil, List.replicate, List.cons_append, List.nil_append, Nat.reduceAdd, Nat.reduceSub, List.replicate_succ, List.replicate_zero, put_same, Nat.zero_le, Int.reduceLT, Int.reduceLE, Nat.reduceLT, Nat.reduceLeDiff, and_true, true_and, Bool.false_eq_true, ↓reduceIte, Bool.not_true, Bool.not_false, decide_true, decide_false, *])
local macro_rules | `(tactic| walk_at "i") => `(tactic| try simp only [sqIf_a, sqAsg_a, sqDrop_a, sqPar_a, sqPar3_a, sqRet_a, sqNext_a, sqSeq_a, sNext_a, sBreak_a, sCont_a, sDrop_a, sRet_a, sRetN_a, sIf_a, sAsg_a, sPar_a, sPar3_a, mVar_a, vAt_a, mC_a, mBin_a, mTest_a, bAt_a, mAnd_a, mOr_a, mNot_a, mYes_a, mAndV_a, mOrV_a, mNotV_a, mIf_a, mNil_a, mCons_a, mTup_a, mLst_a, mCall_a, mCallK_a, mMeth_a, mSl_a, mNoPart_a, iAt_a, mPart_a, mIsi_b, tysO_some, List.any_cons, List.any_nil, Bool.or_false, Bool.false_or, Bool.or_true, Bool.true_or, Int.natCast_pos, gN_a, gTup_a, gCons_a, gNil_a, gSub_a, sFor_a, mLc_a, mDc_a, wSeq_a, sqO_tup, sqO_str, sqO_ref, wRng1_a, mRev_a, revO_ref, List.getD_cons_zero, List.getD_cons_succ, ite_self, List.set_cons_zero, List.set_cons_succ, List.getElem?_cons_zero, List.getElem?_cons_succ, oAdd_int, oAdd_str, oAdd_tup, oAdd_ref, oSub_int, oMul_int, oDiv_int, oMod_int, oPow_int, oLt_int, oLe_int, oGt_int, oGe_int, oIs_nn, oIs_bn, oIs_in, oIs_sn, oIs_tn, oIs_rn, oIs_bb, oIs_nb, oIs_ib, oIs_sb, oIs_tb, oIs_rb, oIsi_int, oIsi_str, oIsi_bool, oIsi_tuple, oIsi_list, oIsi_dict, tyO_some, tyD_non, tyD_bl, tyD_int, tyD_str, tyD_tup, isi_facts, oEq_int, oNe_int, oEq_str, oNe_str, oSl_tup, oSl_str, oSl_ref, oLen_tup, oLen_str, oLen_ref, oAbs_int, oInt_int, oInt_bl, oMax_int, oMin_int, oTuple_tup, oTuple_ref, oList_tup, oList_str, oList_ref, oIx_tupE, oIx_ref, oAppend_ref, oPop_ref, oExtend_tupE, oSet_ref, isL_ref, isS_str, vO_some, ixO_lst, ixO_dicI, ixO_dicS, ixO_rodI, ixO_rodS, lsO_lst, rdO_lst, rdO_rol, lenO_lst, lenO_dic, lenO_rol, addO_lst, setO_lst, setO_dicI, setO_dicS, atI_zero, atI_one, atI_two, atI_end, startE, wipeE, List.map_cons, List.map_nil, List.length_cons, List.length_nil, List.replicate, List.cons_append, List.nil_append, Nat.reduceAdd, Nat.reduceSub, List.replicate_succ, List.replicate_zero, put_same, Nat.zero_le, Int.reduceLT, Int.reduceLE, Nat.reduceLT, Nat.reduceLeDiff, and_true, true_and, Bool.false_eq_true, ↓reduceIte, Bool.not_true, Bool.not_false, decide_true, decide_false, *])
/-- _law_led(filling, name): 0 filling 1 name 2 some 3 other 4 term -/
def t_law_led : MS := sSeq (sAsg (mLc (wSeq (mVar 0)) (gTup 2 (gCons (gN 3) (gCons (gN 4) (gNil)))) (mTest (mBin oEq (mVar 3) (mVar 1))) (mVar 4) [3, 4]) (gN 2))
    (sRet (mIf (mTest (mBin oGt (mCall oLen (mCons (mVar 2) (mNil))) (mC (.int 0)))) (mBin oIx (mVar 2) (mC (.int 0))) (mTup (mCons (mTup (mCons (mVar 1) (mCons (mBin oSub (mC (.int 0)) (mC (.int 1))) (mNil)))) (mNil)))))
theorem ledL {x : Str} {r : Row} : ∀ {F : Fil}, F.find? (fun q => decide (q.1 = x)) = some r → ∃ l, (F.filterMap fun p => if p.1 = x then some (termD p.2) else none) = termD r.2 :: l
  | [], e => by cases e
  | a :: F, e => by
    rw [List.find?_cons] at e
    by_cases ha : a.1 = x
    · simp only [decide_eq_true ha] at e
      cases e
      exact ⟨_, List.filterMap_cons_some (by rw [if_pos ha])⟩
    · simp only [decide_eq_false ha] at e
      obtain ⟨l, h⟩ := ledL e
      exact ⟨l, by rw [List.filterMap_cons_none (by rw [if_neg ha])]; exact h⟩
theorem kp_law_led : Keeps 2 5 S_law_led t_law_led := by
  refine ⟨fun ds st Q ⟨F, x, e, _⟩ => by rw [e]; rfl, fun ds st Q ⟨F, x, e, hF, q⟩ => ?_⟩
  subst e
  have z1 : 1 ≤ sizeLine := by decide
  have z2 : 2 ≤ sizeLine := by decide
  unfold t_law_led fillD
  walk_at "s"
  refine lc_keep (onP fun a b => if a = x then some b else none) (fun _ _ => trivial) (by rw [List.length_map, szL]; have := hF.1; omega) (fun y hy st3 u3 P N hP hN => ?_) fun p st3 hp u3 lp => ?_
  · obtain ⟨r, hr, rfl⟩ := List.mem_map.mp hy
    rw [onP_row] at hP hN
    unfold rowD
    by_cases e : r.1 = x
    · have h1 := hP (termD r.2) st3 (by rw [if_pos e]) .refl
      clear hP hN
      walk_at "s"
    · have h1 := hN st3 (by rw [if_neg e]) .refl
      clear hP hN
      walk_at "s"
  · rw [onP_map] at lp
    by_cases hx : x ∈ keys F
    · obtain ⟨r, hr, rfl, e⟩ := find_some hx
      have e1 : ∃ l, (F.filterMap fun p => if p.1 = r.1 then some (termD p.2) else none) = termD r.2 :: l := by
        exact ledL e
      obtain ⟨l, e1⟩ := e1
      rw [e1] at lp
      have pos : 0 < l.length + 1 := Nat.succ_pos _
      have e2 : led F r.1 = r.2 := led_mem hF.2.1 hr
      walk_at "s"
      have q' := q st3 u3
      rw [e2] at q'
      exact endsOf_i q'
    · have e1 : (F.filterMap fun p => if p.1 = x then some (termD p.2) else none) = [] := by
        rw [List.filterMap_eq_nil_iff]
        intro a ha
        rw [if_neg fun e => hx (List.mem_map.mpr ⟨a, ha, e⟩)]
      rw [e1] at lp
      walk_at "s"
      have q' := q st3 u3
      rw [led_none hx] at q'
      exact endsOf_i q'
/-- _law_put(term, filling): 0 term 1 filling 2 found 3 sign -/
def t_law_put : MS := sSeq (sAsg (mTup (mNil)) (gN 2))
    (sSeq (sFor (wSeq (mVar 0)) (gN 3) (sAsg (mBin oAdd (mVar 2) (mIf (mTest (mBin oEq (mBin oIx (mVar 3) (mC (.int 1))) (mBin oSub (mC (.int 0)) (mC (.int 1))))) (mCall S_law_led (mCons (mVar 1) (mCons (mBin oIx (mVar 3) (mC (.int 0))) (mNil)))) (mTup (mCons (mVar 3) (mNil))))) (gN 2)))
    (sRet (mVar 2)))
theorem kp_law_put : Keeps 2 4 S_law_put t_law_put := by
  refine ⟨fun ds st Q ⟨t, F, e, _⟩ => by rw [e]; rfl, fun ds st Q ⟨t, F, e, ht, hF, q⟩ => ?_⟩
  subst e
  have z1 : 1 ≤ sizeLine := by decide
  unfold t_law_put
  generalize hfd : fillD F = fd
  unfold termD
  walk_at "s"
  refine sSeq_i (fun env st' => ∃ a b d, env = [a, b, some (termD (fill F t)), d] ∧ Keep st st') (fun nx hnx => ?_) ?_
  · walk_at "s"
    refine ⟨fun i env st' => ∃ d, env = [some (.tup (t.map signD)), some fd, some (termD (fill F (t.take i))), d] ∧ Keep st st', ⟨none, rfl, .refl⟩, fun _ _ _ _ _ => trivial, ?_, ?_⟩
    · rintro i y env st' hy ⟨d, rfl, u⟩
      clear hnx
      rw [List.getElem?_map, Option.map_eq_some_iff] at hy
      obtain ⟨s, hs, rfl⟩ := hy
      have hsn := ht.2 s (List.mem_of_getElem? hs)
      have ok1 : TermOk (i * 1000) (fill F (t.take i)) := fill_ok hF (by omega) ⟨by rw [List.length_take]; omega, fun s hs => ht.2 s (List.mem_of_mem_take hs)⟩
      have hi : i < 1000 := by
        have := (List.getElem?_eq_some_iff.mp hs).1
        have := ht.1
        omega
      have hlen : ((fill F (t.take i)).map signD).length ≤ 1000000 := by
        rw [List.length_map]
        have := ok1.1
        have : i * 1000 ≤ 1000000 := by omega
        omega
      have stp : fill F (t.take (i + 1)) = fill F (t.take i) ++ (if s.2 = -1 then led F s.1 else [s]) := by
        rw [take_snoc hs, fill_append]
        simp [fill]
      have i0 := fun st Q => sign_ix0 (s := s) (st := st) (Q := Q)
      have i1 := fun st Q => sign_ix1 (s := s) (st := st) (Q := Q)
      have done : ∀ v : Term, ∀ st5, v = (if s.2 = -1 then led F s.1 else [s]) → Keep st st5 → oAdd (termD (fill F (t.take i))) (termD v) st5 fun d st6 => ∃ d_1, [some (D.tup (t.map signD)), some fd, some d, some (signD s)] = [some (D.tup (t.map signD)), some fd, some (termD (fill F (t.take (i + 1)))), d_1] ∧ Keep st st6 := by
        rintro v st5 rfl k5
        unfold termD
        rw [oAdd_tup]
        have hl2 : (if s.2 = -1 then led F s.1 else [s]).length ≤ 1000 := by
          split
          · exact (led_ok hF (by omega) hsn).1
          · simp
        refine ⟨?_, some (signD s), ?_, k5⟩
        · rw [List.length_map (as := (if s.2 = -1 then led F s.1 else [s])), szL]
          omega
        · rw [stp, List.map_append]
      clear stp
      walk_at "s"
      by_cases h1 : s.2 = -1
      · rw [if_pos (by rw [h1]; decide)]
        refine ⟨F, s.1, by rw [hfd], hF, fun st5 u5 => ?_⟩
        exact done _ st5 (by rw [if_pos h1]) (u.trans u5)
      · rw [if_neg (by simpa using h1)]
        exact done [s] st' (by rw [if_neg h1]) u
    · rintro env st' ⟨d, rfl, u⟩
      rw [List.length_map, List.take_length] at *
      exact hnx _ _ ⟨_, _, _, rfl, u⟩
  · rintro env st' ⟨a, b, d, rfl, u⟩
    walk_at "s"
    exact endsOf_i (q st' u)
end L2.DL

namespace L2.DL
open PySem PySem.Spec PyProof.Rows
local macro_rules | `(tactic| walk_at "s") => `(tactic| try simp only [sqAsg_a, sqDrop_a, sqPar_a, sqPar3_a, sqRet_a, sqNext_a, sqSeq_a, sNext_a, sBreak_a, sCont_a, sDrop_a, sRet_a, sRetN_a, sIf_a, sAsg_a, sPar_a, sPar3_a, mVar_a, vAt_a, mC_a, mBin_a, mTest_a, bAt_a, mAnd_a, mOr_a, mNot_a, mYes_a, mAndV_a, mOrV_a, mNotV_a, mIf_a, mNil_a, mCons_a, mTup_a, mLst_a, mCall_a, mCallK_a, mMeth_a, mSl_a, mNoPart_a, iAt_a, mPart_a, mIsi_b, tysO_some, List.any_cons, List.any_nil, Bool.or_false, Bool.false_or, Bool.or_true, Bool.true_or, Int.natCast_pos, gN_a, gTup_a, gCons_a, gNil_a, gSub_a, sFor_a, mLc_a, mDc_a, wSeq_a, sqO_tup, sqO_str, sqO_ref, wRng1_a, mRev_a, revO_ref, List.getD_cons_zero, List.getD_cons_succ, ite_self, List.set_cons_zero, List.set_cons_succ, List.getElem?_cons_zero, List.getElem?_cons_succ, oAdd_int, oAdd_str, oAdd_tup, oAdd_ref, oSub_int, oMul_int, oDiv_int, oMod_int, oPow_int, oLt_int, oLe_int, oGt_int, oGe_int, oIs_nn, oIs_bn, oIs_in, oIs_sn, oIs_tn, oIs_rn, oIs_bb, oIs_nb, oIs_ib, oIs_sb, oIs_tb, oIs_rb, oIsi_int, oIsi_str, oIsi_bool, oIsi_tuple, oIsi_list, oIsi_dict, tyO_some, tyD_non, tyD_bl, tyD_int, tyD_str, tyD_tup, isi_facts, oEq_int, oNe_int, oEq_str, oNe_str, oSl_tup, oSl_str, oSl_ref, oLen_tup, oLen_str, oLen_ref, oAbs_int, oInt_int, oInt_bl, oMax_int, oMin_int, oTuple_tup, oTuple_ref, oList_tup, oList_str, oList_ref, oIx_tupE, oIx_ref, oAppend_ref, oPop_ref, oExtend_tupE, oSet_ref, isL_ref, isS_str, vO_some, ixO_lst, ixO_dicI, ixO_dicS, ixO_rodI, ixO_rodS, lsO_lst, rdO_lst, rdO_rol, lenO_lst, lenO_dic, lenO_rol, addO_lst, setO_lst, setO_dicI, setO_dicS, atI_zero, atI_one, atI_two, atI_end, startE, wipeE, List.map_cons, List.map_nil, List.length_cons, List.length_nil, List.replicate, List.cons_append, List.nil_append, Nat.reduceAdd, Nat.reduceSub, List.replicate_succ, List.replicate_zero, put_same, Nat.zero_le, Int.reduceLT, Int.reduceLE, Nat.reduceLT, Nat.reduceLeDiff, and_true, true_and, Bool.false_eq_true, ↓reduceIte, Bool.not_true, Bool.not_false, decide_true, decide_false, *])
local macro_rules | `(tactic| walk_at "i") => `(tactic| try simp only [sqIf_a, sqAsg_a, sqDrop_a, sqPar_a, sqPar3_a, sqRet_a, sqNext_a, sqSeq_a, sNext_a, sBreak_a, sCont_a, sDrop_a, sRet_a, sRetN_a, sIf_a, sAsg_a, sPar_a, sPar3_a, mVar_a, vAt_a, mC_a, mBin_a, mTest_a, bAt_a, mAnd_a, mOr_a, mNot_a, mYes_a, mAndV_a, mOrV_a, mNotV_a, mIf_a, mNil_a, mCons_a, mTup_a, mLst_a, mCall_a, mCallK_a, mMeth_a, mSl_a, mNoPart_a, iAt_a, mPart_a, mIsi_b, tysO_some, List.any_cons, List.any_nil, Bool.or_false, Bool.false_or, Bool.or_true, Bool.true_or, Int.natCast_pos, gN_a, gTup_a, gCons_a, gNil_a, gSub_a, sFor_a, mLc_a, mDc_a, wSeq_a, sqO_tup, sqO_str, sqO_ref, wRng1_a, mRev_a, revO_ref, List.getD_cons_zero, List.getD_cons_succ, ite_self, List.set_cons_zero, List.set_cons_succ, List.getElem?_cons_zero, List.getElem?_cons_succ, oAdd_int, oAdd_str, oAdd_tup, oAdd_ref, oSub_int, oMul_int, oDiv_int, oMod_int, oPow_int, oLt_int, oLe_int, oGt_int, oGe_int, oIs_nn, oIs_bn, oIs_in, oIs_sn, oIs_tn, oIs_rn, oIs_bb, oIs_nb, oIs_ib, oIs_sb, oIs_tb, oIs_rb, oIsi_int, oIsi_str, oIsi_bool, oIsi_tuple, oIsi_list, oIsi_dict, tyO_some, tyD_non, tyD_bl, tyD_int, tyD_str, tyD_tup, isi_facts, oEq_int, oNe_int, oEq_str, oNe_str, oSl_tup, oSl_str, oSl_ref, oLen_tup, oLen_str, oLen_ref, oAbs_int, oInt_int, oInt_bl, oMax_int, oMin_int, oTuple_tup, oTuple_ref, oList_tup, oList_str, oList_ref, oIx_tupE, oIx_ref, oAppend_ref, oPop_ref, oExtend_tupE, oSet_ref, isL_ref, isS_str, vO_some, ixO_lst, ixO_dicI, ixO_dicS, ixO_rodI, ixO_rodS, lsO_lst, rdO_lst, rdO_rol, lenO_lst, lenO_dic, lenO_rol, addO_lst, setO_lst, setO_dicI, setO_dicS, atI_zero, atI_one, atI_two, atI_end, startE, wipeE, List.map_cons, List.map_nil, List.length_cons, List.length_nil, List.replicate, List.cons_append, List.nil_append, Nat.reduceAdd, Nat.reduceSub, List.replicate_succ, List.replicate_zero, put_same, Nat.zero_le, Int.reduceLT, Int.reduceLE, Nat.reduceLT, Nat.reduceLeDiff, and_true, true_and, Bool.false_eq_true, ↓reduceIte, Bool.not_true, Bool.not_false, decide_true, decide_false, *])
theorem sq.walk {st : Sto} {n m : Addr} {x : D} {xs : List D} {R : List D → (Sto → Prop) → Sto → Prop} (h : sq st n m x xs) (r : ∀ ok, (∀ st', Up n m st st' → ok st') → R xs ok st) : sqO x st R := by
  cases x <;> try exact h.elim
  · obtain ⟨_, rfl⟩ := h
    rw [sqO_str]
    exact r _ fun _ _ => trivial
  · rw [sqO_ref, h.2.2, rdO_lst]
    exact r _ fun st' u => by rw [u.l h.1 h.2.1 h.2.2]; rfl
  · have e : _ = xs := h
    rw [sqO_tup, e]
    exact r _ fun _ _ => trivial
def S_law_some : DSp := fun vs st Q => ∃ (n m : Addr) (y : D) (ys : List Str), vs = [.ref n, y] ∧ Deal st n m ∧ sq st n m y (ys.map D.str) ∧ ys.length ≤ 1000 ∧
  ∀ a (zs : List Str) st', zs.Sublist ys → a ≠ n → a ≠ m → Up n m st st' → st' a = some (.lst (zs.map D.str)) → Nf st a → Q (.ref a) st'
/-- _law_some(deal, things): 0 deal 1 things 2 thing -/
def t_law_some : MS := sRet (mLc (wSeq (mVar 1)) (gN 2) (mTest (mBin oEq (mCall S_law_any (mCons (mVar 0) (mCons (mC (.int 2)) (mNil)))) (mC (.int 0)))) (mVar 2) [2])
theorem Fm.sub {xs : List Str} {ys : List D} (h : Fm (fun x o => o = none ∨ o = some x) (xs.map D.str) ys) : ∃ zs : List Str, zs.Sublist xs ∧ ys = zs.map D.str := by
  generalize hl : xs.map D.str = l at h
  induction h generalizing xs with
  | nil => exact ⟨[], List.nil_sublist _, rfl⟩
  | yes a _ ih =>
    cases xs with
    | nil => cases hl
    | cons b xs =>
      simp only [List.map_cons, List.cons.injEq] at hl
      obtain ⟨zs, h1, rfl⟩ := ih hl.2
      rcases a with a | a
      · cases a
      · cases a
        exact ⟨b :: zs, h1.cons_cons b, by rw [List.map_cons, hl.1]⟩
  | no a _ ih =>
    cases xs with
    | nil => cases hl
    | cons b xs =>
      simp only [List.map_cons, List.cons.injEq] at hl
      obtain ⟨zs, h1, rfl⟩ := ih hl.2
      exact ⟨zs, h1.cons b, rfl⟩
theorem kp_law_some : Keeps 2 3 S_law_some t_law_some := by
  refine ⟨fun ds st Q ⟨n, m, y, ys, e, _⟩ => by rw [e]; rfl, fun ds st Q ⟨n, m, y, ys, e, hd, hy, hl, q⟩ => ?_⟩
  subst e
  unfold t_law_some
  walk_at "s"
  refine hy.walk fun ok hok => ?_
  refine lc_up (n := n) (m := m) (fun x o => o = none ∨ o = some x) hd hok (by rw [List.length_map, szL]; omega) (fun x hx st2 u2 P N hP hN => ?_) fun p zs st2 hp hF u2 lp => ?_
  · walk_at "s"
    refine ⟨n, m, 2, rfl, u2.deal, by omega, by omega, fun c st3 _ _ u3 => ?_⟩
    have h1 := hP x st3 (.inr rfl) u3
    have h2 := hN st3 (.inl rfl) u3
    clear hP hN
    walk_at "s"
  · obtain ⟨zs, h1, rfl⟩ := hF.sub
    obtain ⟨pn, pm⟩ := hp.deal hd
    exact endsOf_i (q p zs st2 h1 pn pm u2 lp hp)
def S_law_filling : DSp := fun vs st Q => ∃ (n m z : Addr) (x y : D) (xs ys zs : List Str) (k : Nat), vs = [.ref n, x, y, .ref z, .int k] ∧ Deal st n m ∧ sq st n m x (xs.map D.str) ∧ sq st n m y (ys.map D.str) ∧ st z = some (.lst (zs.map D.str)) ∧
  0 < xs.length ∧ xs.length ≤ 1000 ∧ 0 < ys.length ∧ ys.length ≤ 1000 ∧ zs.length ≤ 30 ∧ zs.Nodup ∧ (∀ a ∈ xs ++ ys, nmOk a) ∧ (∀ a ∈ zs, nmOk a) ∧ 0 < k ∧ k ≤ 1000 ∧
  ∀ F st', FillOk k F → F.length ≤ zs.length → F.Pairwise (fun p q => leS p.1 q.1 = true) → Up n m st st' → Q (fillD F) st'
/-- _law_filling(deal, names, letters, some, size): 0 deal 1 names 2 letters 3 some 4 size 5 found 6 name 7 sort -/
def t_law_filling : MS := sSeq (sAsg (mLst (mNil)) (gN 5))
    (sSeq (sFor (wSeq (mCall oSorted (mCons (mVar 3) (mNil)))) (gN 6) (sSeq (sAsg (mCall S_law_any (mCons (mVar 0) (mCons (mC (.int 6)) (mNil)))) (gN 7))
    (sIf (mTest (mBin oEq (mVar 7) (mC (.int 0)))) (sDrop (mMeth isL oAppend (mVar 5) (mCons (mTup (mCons (mVar 6) (mCons (mTup (mCons (mTup (mCons (mVar 6) (mCons (mBin oSub (mC (.int 0)) (mC (.int 1))) (mNil)))) (mNil))) (mNil)))) (mNil)))) (sIf (mTest (mBin oEq (mVar 7) (mC (.int 1)))) (sDrop (mMeth isL oAppend (mVar 5) (mCons (mTup (mCons (mVar 6) (mCons (mTup (mCons (mTup (mCons (mCall S_law_of (mCons (mVar 0) (mCons (mVar 2) (mNil)))) (mCons (mBin oSub (mC (.int 0)) (mC (.int 1))) (mNil)))) (mNil))) (mNil)))) (mNil)))) (sDrop (mMeth isL oAppend (mVar 5) (mCons (mTup (mCons (mVar 6) (mCons (mCall S_law_term (mCons (mVar 0) (mCons (mVar 1) (mCons (mVar 2) (mCons (mBin oAdd (mC (.int 1)) (mCall S_law_any (mCons (mVar 0) (mCons (mVar 4) (mNil))))) (mNil)))))) (mNil)))) (mNil))))))))
    (sRet (mCall oTuple (mCons (mVar 5) (mNil)))))
theorem kp_law_filling : Keeps 5 8 S_law_filling t_law_filling := by
  refine ⟨fun ds st Q ⟨n, m, z, x, y, xs, ys, zs, k, e, _⟩ => by rw [e]; rfl, fun ds st Q ⟨n, m, z, x, y, xs, ys, zs, k, e, hd, hx, hy, lz, l0, l1, l2, l3, l4, nd, hok, hzs, k0, k1, q⟩ => ?_⟩
  subst e
  have z0 : 0 ≤ sizeLine := by decide
  have z1 : 1 ≤ sizeLine := by decide
  have z2 : 2 ≤ sizeLine := by decide
  unfold t_law_filling
  walk_at "s"
  intro f hf
  obtain ⟨fn, fm⟩ := hf.deal hd
  have hx1 := hx.keep (Keep.put (o := .lst []) hf)
  have hy1 := hy.keep (Keep.put (o := .lst []) hf)
  have lz1 := (Keep.put (o := .lst []) hf).l lz
  have u1 : Up n m st (put st f (.lst [])) := (Up.refl hd).put hf fn fm
  have lf1 : put st f (.lst []) f = some (.lst []) := put_same
  generalize put st f (.lst []) = st1 at *
  refine sSeq_i (fun env st' => ∃ a b c d e g h, ∃ F : Fil, env = [a, b, c, d, e, some (.ref f), g, h] ∧ FillOk k F ∧ F.length ≤ zs.length ∧ F.Pairwise (fun p q => leS p.1 q.1 = true) ∧ Up n m st st' ∧ st' f = some (.lst (F.map rowD))) (fun nx hnx => ?_) ?_
  · walk_at "s"
    refine .inr (.inl ⟨zs, by rw [lz1]; rfl, by omega, fun p hp => ?_⟩)
    obtain ⟨pn, pm⟩ := hp.deal u1.deal
    have pf := hp.ne lf1
    have lf2 := (Keep.put (o := .lst ((sortBy id zs).map D.str)) hp).l lf1
    have u2 : Up n m st (put st1 p (.lst ((sortBy id zs).map D.str))) := u1.then (Keep.put hp)
    have lp2 : put st1 p (.lst ((sortBy id zs).map D.str)) p = some (.lst ((sortBy id zs).map D.str)) := put_same
    generalize put st1 p (.lst ((sortBy id zs).map D.str)) = st2 at *
    clear hp lf1 u1 lz1 hx1 hy1
    have hperm := sortBy_perm id zs
    have hsort := sortBy_sorted id zs
    generalize sortBy id zs = ss at *
    walk_at "s"
    refine ⟨fun i env st' => ∃ g h, ∃ F : Fil, env = [some (.ref n), some x, some y, some (.ref z), some (.int k), some (.ref f), g, h] ∧ st' f = some (.lst (F.map rowD)) ∧ keys F = ss.take i ∧ (∀ p ∈ F, nmOk p.1 ∧ TermOk k p.2) ∧ Up n m st st' ∧ st' p = some (.lst (ss.map D.str)), ⟨none, none, [], rfl, lf2, by simp [keys], (fun p h => by cases h), u2, lp2⟩, ?_, ?_, ?_⟩
    · rintro i env st' _ ⟨g, h, F, rfl, _, _, _, _, l⟩
      rw [l]; rfl
    · rintro i w env st' hw ⟨g, h, F, rfl, lf, hk, hF, u, lp⟩
      clear hnx lf2 lp2 u2 q
      rw [List.getElem?_map, Option.map_eq_some_iff] at hw
      obtain ⟨nm, hnm, rfl⟩ := hw
      have hnm2 : nmOk nm := hzs nm (hperm.mem_iff.mp (List.mem_of_getElem? hnm))
      have hlenF : F.length ≤ 30 := by
        have h1 : (keys F).length = F.length := by unfold keys; rw [List.length_map]
        have h2 := hperm.length_eq
        rw [← h1, hk, List.length_take]
        omega
      have hlen : (F.map rowD).length < sizeLine := by rw [List.length_map, szL]; omega
      have done : ∀ (t : Term) st5 g1 h1, TermOk k t → Up n m st st5 → st5 f = some (.lst (F.map rowD)) → st5 p = some (.lst (ss.map D.str)) →
          lsO (st5 f) fun zs => zs.length < sizeLine ∧ ∃ g h, ∃ F : Fil, [some (D.ref n), some x, some y, some (.ref z), some (.int k), some (.ref f), g1, h1] = [some (D.ref n), some x, some y, some (.ref z), some (.int k), some (.ref f), g, h] ∧ some (Ob.lst (zs ++ [.tup [.str nm, termD t]])) = some (Ob.lst (F.map rowD)) ∧ keys F = ss.take (i + 1) ∧ (∀ p ∈ F, nmOk p.1 ∧ TermOk k p.2) ∧ Up n m st (put st5 f (.lst (zs ++ [.tup [.str nm, termD t]]))) ∧ put st5 f (.lst (zs ++ [.tup [.str nm, termD t]])) p = some (.lst (ss.map D.str)) := by
        intro t st5 g1 h1 ht u5 l5 l6
        rw [l5, lsO_lst]
        refine ⟨hlen, g1, h1, F ++ [(nm, t)], rfl, ?_, ?_, ?_, u5.put hf fn fm, by rw [put_ne pf]; exact l6⟩
        · rw [List.map_append]; rfl
        · unfold keys at hk ⊢
          rw [List.map_append, hk, take_snoc hnm]
          rfl
        · intro r hr
          rcases List.mem_append.mp hr with hr | hr
          · exact hF r hr
          · rw [List.mem_singleton.mp hr]; exact ⟨hnm2, ht⟩
      walk_at "s"
      refine ⟨n, m, 6, rfl, u.deal, by omega, by omega, fun sort st3 _ _ u3 => ?_⟩
      have lf3 := u3.l fn fm lf
      have lp3 := u3.l pn pm lp
      have hx3 := (hx.up (u.trans u3))
      have hy3 := (hy.up (u.trans u3))
      have uu3 := u.trans u3
      clear lf lp u u3
      have one : ∀ a, nmOk a → TermOk k [(a, -1)] := fun a ha => ⟨by simp; omega, fun s hs => by rw [List.mem_singleton.mp hs]; exact ha⟩
      have rdf : rdO (st3 f) (fun _ => True) := by rw [lf3]; trivial
      walk_at "s"
      by_cases s0 : sort = 0
      · rw [if_pos (by simpa using s0)]
        have := done [(nm, -1)] st3 (some (.str nm)) (some (.int sort)) (one nm hnm2) uu3 lf3 lp3
        rw [lf3, lsO_lst] at this
        exact this.2
      · rw [if_neg (by simpa using s0)]
        by_cases s1 : sort = 1
        · rw [if_pos (by simpa using s1)]
          refine ⟨n, m, y, _, rfl, uu3.deal, hy3, by rw [List.length_map]; omega, by rw [List.length_map]; omega, fun d st4 hd u4 => ?_⟩
          obtain ⟨a, ha, rfl⟩ := List.mem_map.mp hd
          exact done [(a, -1)] st4 (some (.str nm)) (some (.int sort)) (one a (hok a (List.mem_append_right _ ha))) (uu3.trans u4) (u4.l fn fm lf3) (u4.l pn pm lp3)
        · rw [if_neg (by simpa using s1)]
          refine ⟨n, m, k, rfl, uu3.deal, by omega, by omega, fun c st4 c0 c1 u4 => ?_⟩
          have hx4 := hx3.up u4
          have hy4 := hy3.up u4
          have lf4 := u4.l fn fm lf3
          have lp4 := u4.l pn pm lp3
          have uu4 := uu3.trans u4
          clear lf3 lp3 hx3 hy3 uu3 u4 rdf
          walk_at "s"
          refine ⟨n, m, x, y, xs, ys, (1 + c).toNat, by rw [Int.toNat_of_nonneg (by omega)], uu4.deal, hx4, hy4, l0, l1, l3, hok, by omega, by omega, fun t st5 ht _ u5 => ?_⟩
          exact done t st5 (some (.str nm)) (some (.int sort)) ⟨by have := ht.1; omega, ht.2⟩ (uu4.trans u5) (u5.l fn fm lf4) (u5.l pn pm lp4)
    · rintro env st' ⟨g, h, F, rfl, lf, hk, hF, u, lp⟩
      rw [List.length_map, List.take_length] at hk
      have h1 : (keys F).length = F.length := by unfold keys; rw [List.length_map]
      refine hnx _ _ ⟨_, _, _, _, _, _, _, F, rfl, ⟨?_, ?_, hF⟩, ?_, ?_, u, lf⟩
      · rw [← h1, hk, hperm.length_eq]; omega
      · rw [hk]; exact hperm.nodup_iff.mpr nd
      · rw [← h1, hk, hperm.length_eq]
        exact Nat.le_refl _
      · have h2 : (keys F).Pairwise fun x y => leS x y = true := by rw [hk]; exact hsort
        unfold keys at h2
        rwa [List.pairwise_map] at h2
  · rintro env st' ⟨a, b, c, d, e, g, h, F, rfl, hF, hn, hs, u, lf⟩
    walk_at "s"
    exact endsOf_i (q F st' hF hn hs u)
end L2.DL

namespace L2.DL
open PySem PySem.Spec PyProof.Rows
local macro_rules | `(tactic| walk_at "s") => `(tactic| try simp only [sqAsg_a, sqDrop_a, sqPar_a, sqPar3_a, sqRet_a, sqNext_a, sqSeq_a, sNext_a, sBreak_a, sCont_a, sDrop_a, sRet_a, sRetN_a, sIf_a, sAsg_a, sPar_a, sPar3_a, mVar_a, vAt_a, mC_a, mBin_a, mTest_a, bAt_a, mAnd_a, mOr_a, mNot_a, mYes_a, mAndV_a, mOrV_a, mNotV_a, mIf_a, mNil_a, mCons_a, mTup_a, mLst_a, mCall_a, mCallK_a, mMeth_a, mSl_a, mNoPart_a, iAt_a, mPart_a, mIsi_b, tysO_some, List.any_cons, List.any_nil, Bool.or_false, Bool.false_or, Bool.or_true, Bool.true_or, Int.natCast_pos, gN_a, gTup_a, gCons_a, gNil_a, gSub_a, sFor_a, mLc_a, mDc_a, wSeq_a, sqO_tup, sqO_str, sqO_ref, wRng1_a, mRev_a, revO_ref, List.getD_cons_zero, List.getD_cons_succ, ite_self, List.set_cons_zero, List.set_cons_succ, List.getElem?_cons_zero, List.getElem?_cons_succ, oAdd_int, oAdd_str, oAdd_tup, oAdd_ref, oSub_int, oMul_int, oDiv_int, oMod_int, oPow_int, oLt_int, oLe_int, oGt_int, oGe_int, oIs_nn, oIs_bn, oIs_in, oIs_sn, oIs_tn, oIs_rn, oIs_bb, oIs_nb, oIs_ib, oIs_sb, oIs_tb, oIs_rb, oIsi_int, oIsi_str, oIsi_bool, oIsi_tuple, oIsi_list, oIsi_dict, tyO_some, tyD_non, tyD_bl, tyD_int, tyD_str, tyD_tup, isi_facts, oEq_int, oNe_int, oEq_str, oNe_str, oSl_tup, oSl_str, oSl_ref, oLen_tup, oLen_str, oLen_ref, oAbs_int, oInt_int, oInt_bl, oMax_int, oMin_int, oTuple_tup, oTuple_ref, oList_tup, oList_str, oList_ref, oIx_tupE, oIx_ref, oAppend_ref, oPop_ref, oExtend_tupE, oSet_ref, isL_ref, isS_str, vO_some, ixO_lst, ixO_dicI, ixO_dicS, ixO_rodI, ixO_rodS, lsO_lst, rdO_lst, rdO_rol, lenO_lst, lenO_dic, lenO_rol, addO_lst, setO_lst, setO_dicI, setO_dicS, atI_zero, atI_one, atI_two, atI_end, startE, wipeE, List.map_cons, List.map_nil, List.length_cons, List.length_nil, List.replicate, List.cons_append, List.nil_append, Nat.reduceAdd, Nat.reduceSub, List.replicate_succ, List.replicate_zero, put_same, Nat.zero_le, Int.reduceLT, Int.reduceLE, Nat.reduceLT, Nat.reduceLeDiff, and_true, true_and, Bool.false_eq_true, ↓reduceIte, Bool.not_true, Bool.not_false, decide_true, decide_false, *])
local macro_rules | `(tactic| walk_at "i") => `(tactic| try simp only [sqIf_a, sqAsg_a, sqDrop_a, sqPar_a, sqPar3_a, sqRet_a, sqNext_a, sqSeq_a, sNext_a, sBreak_a, sCont_a, sDrop_a, sRet_a, sRetN_a, sIf_a, sAsg_a, sPar_a, sPar3_a, mVar_a, vAt_a, mC_a, mBin_a, mTest_a, bAt_a, mAnd_a, mOr_a, mNot_a, mYes_a, mAndV_a, mOrV_a, mNotV_a, mIf_a, mNil_a, mCons_a, mTup_a, mLst_a, mCall_a, mCallK_a, mMeth_a, mSl_a, mNoPart_a, iAt_a, mPart_a, mIsi_b, tysO_some, List.any_cons, List.any_nil, Bool.or_false, Bool.false_or, Bool.or_true, Bool.true_or, Int.natCast_pos, gN_a, gTup_a, gCons_a, gNil_a, gSub_a, sFor_a, mLc_a, mDc_a, wSeq_a, sqO_tup, sqO_str, sqO_ref, wRng1_a, mRev_a, revO_ref, List.getD_cons_zero, List.getD_cons_succ, ite_self, List.set_cons_zero, List.set_cons_succ, List.getElem?_cons_zero, List.getElem?_cons_succ, oAdd_int, oAdd_str, oAdd_tup, oAdd_ref, oSub_int, oMul_int, oDiv_int, oMod_int, oPow_int, oLt_int, oLe_int, oGt_int, oGe_int, oIs_nn, oIs_bn, oIs_in, oIs_sn, oIs_tn, oIs_rn, oIs_bb, oIs_nb, oIs_ib, oIs_sb, oIs_tb, oIs_rb, oIsi_int, oIsi_str, oIsi_bool, oIsi_tuple, oIsi_list, oIsi_dict, tyO_some, tyD_non, tyD_bl, tyD_int, tyD_str, tyD_tup, isi_facts, oEq_int, oNe_int, oEq_str, oNe_str, oSl_tup, oSl_str, oSl_ref, oLen_tup, oLen_str, oLen_ref, oAbs_int, oInt_int, oInt_bl, oMax_int, oMin_int, oTuple_tup, oTuple_ref, oList_tup, oList_str, oList_ref, oIx_tupE, oIx_ref, oAppend_ref, oPop_ref, oExtend_tupE, oSet_ref, isL_ref, isS_str, vO_some, ixO_lst, ixO_dicI, ixO_dicS, ixO_rodI, ixO_rodS, lsO_lst, rdO_lst, rdO_rol, lenO_lst, lenO_dic, lenO_rol, addO_lst, setO_lst, setO_dicI, setO_dicS, atI_zero, atI_one, atI_two, atI_end, startE, wipeE, List.map_cons, List.map_nil, List.length_cons, List.length_nil, List.replicate, List.cons_append, List.nil_append, Nat.reduceAdd, Nat.reduceSub, List.replicate_succ, List.replicate_zero, put_same, Nat.zero_le, Int.reduceLT, Int.reduceLE, Nat.reduceLT, Nat.reduceLeDiff, and_true, true_and, Bool.false_eq_true, ↓reduceIte, Bool.not_true, Bool.not_false, decide_true, decide_false, *])
theorem range_map (g : Int → Option D) (k : Nat) : (rangeD 0 k).filterMap (onI g) = (List.range k).filterMap fun (i : Nat) => g (i : Int) := by
  unfold rangeD
  rw [List.filterMap_map]
  refine congrArg (fun f => (List.range k).filterMap f) ?_
  funext i
  show g (0 + (i : Int)) = g i
  rw [Int.zero_add]
theorem sortBy_map {α β : Type} {f : β → Str} {g : α → β} {h : α → Str} (e : ∀ a, f (g a) = h a) {l : List α} (nd : (l.map h).Nodup) : sortBy f (l.map g) = (sortBy h l).map g := by
  refine (sortBy_eq ((sortBy_perm h l).map g) ?_ fun x hx y hy exy => ?_).symm
  · rw [List.pairwise_map]
    exact (sortBy_sorted h l).imp fun hab => by rw [e, e]; exact hab
  · obtain ⟨a, ha, rfl⟩ := List.mem_map.mp hx
    obtain ⟨b, hb, rfl⟩ := List.mem_map.mp hy
    rw [e, e] at exy
    rw [nodup_inj nd ha hb exy]
theorem rows_pairs (F : Fil) : F.map rowD = (F.map fun r => (r.1, [termD r.2])).map pairD := by
  rw [List.map_map]; rfl
theorem rows_sorted {F : Fil} (nd : (keys F).Nodup) : (sortBy (·.1) (F.map fun r => (r.1, [termD r.2]))).map pairD = (sortBy (·.1) F).map rowD := by
  rw [sortBy_map (h := fun r : Row => r.1) (g := fun r : Row => (r.1, [termD r.2])) (fun _ => rfl) nd, ← rows_pairs]
/-- sorted rows -/
theorem oSorted_rows {a : Addr} {F : Fil} {st : Sto} {Q : DK} (h : st a = some (.lst (F.map rowD))) (nd : (keys F).Nodup) (k : ∀ p, Nf st p → Q (.ref p) (put st p (.lst ((sortBy (·.1) F).map rowD)))) : oSorted [.ref a] st Q := by
  refine .inr (.inr ⟨F.map fun r => (r.1, [termD r.2]), by rw [h, ← rows_pairs]; rfl, by rw [List.map_map]; exact nd, fun p hp => ?_⟩)
  rw [rows_sorted nd]
  exact k p hp
def S_law_ring : DSp := fun vs st Q => ∃ (n m : Addr) (y : D) (ys : List Str), vs = [.ref n, y] ∧ Deal st n m ∧ sq st n m y (ys.map D.str) ∧ 2 ≤ ys.length ∧ ys.length ≤ 30 ∧ ys.Nodup ∧ (∀ a ∈ ys, nmOk a) ∧
  ∀ F st', FillOk 1 F → F.length ≤ ys.length → F.Pairwise (fun p q => leS p.1 q.1 = true) → Up n m st st' → Q (fillD F) st'
theorem mod_inj {s i j n : Nat} (hi : i < n) (hj : j < n) (h : (s + i) % n = (s + j) % n) : i = j := by
  have h1 := Nat.div_add_mod (s + i) n
  have h2 := Nat.div_add_mod (s + j) n
  rw [h] at h1
  generalize (s + i) / n = a at *
  generalize (s + j) / n = b at *
  generalize (s + j) % n = r at *
  rcases Nat.lt_trichotomy a b with hab | rfl | hab
  · have : n * (a + 1) ≤ n * b := Nat.mul_le_mul_left n hab
    rw [Nat.mul_add, Nat.mul_one] at this
    omega
  · omega
  · have : n * (b + 1) ≤ n * a := Nat.mul_le_mul_left n hab
    rw [Nat.mul_add, Nat.mul_one] at this
    omega
/-- _law_ring(deal, letters): 0 deal 1 letters 2 many 3 start 4 some 5 turn -/
def t_law_ring : MS := sSeq (sAsg (mBin oAdd (mC (.int 2)) (mCall S_law_any (mCons (mVar 0) (mCons (mBin oSub (mCall oLen (mCons (mVar 1) (mNil))) (mC (.int 1))) (mNil))))) (gN 2))
    (sSeq (sAsg (mCall S_law_any (mCons (mVar 0) (mCons (mCall oLen (mCons (mVar 1) (mNil))) (mNil)))) (gN 3))
    (sSeq (sAsg (mLc (wRng1 (mVar 2)) (gN 5) (mYes) (mBin oIx (mVar 1) (mBin oMod (mCall oInt (mCons (mBin oAdd (mVar 3) (mVar 5)) (mNil))) (mCall oLen (mCons (mVar 1) (mNil))))) [5]) (gN 4))
    (sRet (mCall oTuple (mCons (mCall oSorted (mCons (mLc (wRng1 (mVar 2)) (gN 5) (mYes) (mTup (mCons (mBin oIx (mVar 4) (mVar 5)) (mCons (mTup (mCons (mTup (mCons (mBin oIx (mVar 4) (mBin oMod (mCall oInt (mCons (mBin oAdd (mVar 5) (mC (.int 1))) (mNil))) (mVar 2))) (mCons (mBin oSub (mC (.int 0)) (mC (.int 1))) (mNil)))) (mNil))) (mNil)))) [5]) (mNil))) (mNil))))))
theorem kp_law_ring : Keeps 2 6 S_law_ring t_law_ring := by
  refine ⟨fun ds st Q ⟨n, m, y, ys, e, _⟩ => by rw [e]; rfl, fun ds st Q ⟨n, m, y, ys, e, hd, hy, l0, l1, nd, hok, q⟩ => ?_⟩
  subst e
  have z1 : 1 ≤ sizeLine := by decide
  have z2 : 2 ≤ sizeLine := by decide
  unfold t_law_ring
  have y1 := fun Q => hy.len (Q := Q)
  walk_at "s"
  refine ⟨n, m, _, rfl, hd, by rw [List.length_map]; omega, by rw [List.length_map]; omega, fun c st1 c0 c1 u1 => ?_⟩
  rw [List.length_map] at c1
  clear y1
  have hy1 := hy.up u1
  have y1 := fun Q => hy1.len (Q := Q)
  obtain ⟨many, hmany, hm2, hml⟩ : ∃ many : Nat, 2 + c = many ∧ 2 ≤ many ∧ many ≤ ys.length := ⟨(2 + c).toNat, by omega, by omega, by omega⟩
  walk_at "s"
  refine ⟨n, m, _, rfl, u1.deal, by rw [List.length_map]; omega, by rw [List.length_map]; omega, fun s st2 s0 s1 u2 => ?_⟩
  rw [List.length_map] at s1
  obtain ⟨start, rfl⟩ : ∃ start : Nat, s = start := ⟨s.toNat, by omega⟩
  have hy2 := hy1.up u2
  have uu2 := u1.trans u2
  clear y1 hmany c0 c1 hy1 u1 u2
  walk_at "s"
  refine ⟨by omega, ?_⟩
  have hpos : 0 < ys.length := by omega
  have rg : ∀ t : Nat, ∃ h : (start + t) % ys.length < ys.length, True := fun t => ⟨Nat.mod_lt _ hpos, trivial⟩
  obtain ⟨ring, hring, hrm⟩ : ∃ ring : Nat → Str, (∀ t, ys[(start + t) % ys.length]? = some (ring t)) ∧ ∀ t, ring t ∈ ys :=
    ⟨fun t => ys[(start + t) % ys.length]'(Nat.mod_lt _ hpos), fun t => List.getElem?_eq_getElem _, fun t => List.getElem_mem _⟩
  have hinj : ∀ i j, i < ys.length → j < ys.length → ring i = ring j → i = j := fun i j hi hj e => by
    refine mod_inj (s := start) hi hj (get_inj nd (hring i) ?_)
    rw [e]; exact hring j
  refine lc_keep (onI fun t => some (.str (ring t.toNat))) (fun _ _ => trivial) (by simp [rangeD, szL]; omega) (fun w hw st3 u3 P N hP hN => ?_) fun p st3 hp u3 lp => ?_
  · obtain ⟨t, ht, rfl⟩ := List.mem_map.mp hw
    have hy3 := hy2.keep u3
    have y3 := fun Q => hy3.len (Q := Q)
    have y4 := fun i Q => hy3.ix (i := i) (Q := Q)
    have h1 := hP (.str (ring t)) st3 (by show some _ = some _; congr 3; omega) .refl
    clear hP hN
    have e1 : atI (ys.map D.str) ((start + (0 + (t : Int))) % ((ys.map D.str).length : Nat)) = some (.str (ring t)) := by
      rw [Int.zero_add, List.length_map]
      have : ((start : Int) + (t : Int)) % ((ys.length : Nat) : Int) = (((start + t) % ys.length : Nat) : Int) := by norm_cast
      rw [this, atI_ofNat, List.getElem?_map, hring t]
      rfl
    have e2 : (0 : Int) < ((ys.map D.str).length : Nat) := by rw [List.length_map]; omega
    walk_at "s"
  · rw [range_map, fm_some] at lp
    have lp' : st3 p = some (.lst ((List.range many).map fun t => D.str (ring t))) := by
      rw [lp]
      congr 2
    clear lp
    have uu3 := uu2.then u3
    have hp2 := hp.deal uu2.deal
    clear u3 hp uu2 hy2
    walk_at "s"
    refine ⟨by omega, ?_⟩
    refine lc_keep (onI fun t => some (rowD (ring t.toNat, [(ring ((t.toNat + 1) % many), -1)]))) (fun _ _ => trivial) (by simp [rangeD, szL]; omega) (fun w hw st4 u4 P N hP hN => ?_) fun p4 st4 hp4 u4 lp4 => ?_
    · obtain ⟨t, ht, rfl⟩ := List.mem_map.mp hw
      have ht2 : t < many := by simpa using ht
      have l4 := u4.l lp'
      have h1 := hP (rowD (ring t, [(ring ((t + 1) % many), -1)])) st4 (by show some _ = some _; congr 1; simp) .refl
      clear hP hN lp'
      have m0 : (0 : Int) < (many : Int) := by omega
      have m0' : 0 < many := by omega
      have e1 : atI ((List.range many).map fun t => D.str (ring t)) (0 + (t : Int)) = some (.str (ring t)) := by
        rw [Int.zero_add, atI_ofNat, List.getElem?_map, List.getElem?_range ht2]; rfl
      have hm : (t + 1) % many < many := Nat.mod_lt _ m0'
      have e2 : atI ((List.range many).map fun t => D.str (ring t)) ((0 + (t : Int) + 1) % (many : Int)) = some (.str (ring ((t + 1) % many))) := by
        have : ((0 : Int) + (t : Int) + 1) % (many : Int) = (((t + 1) % many : Nat) : Int) := by
          rw [Int.zero_add]; norm_cast
        rw [this, atI_ofNat, List.getElem?_map, List.getElem?_range hm]; rfl
      walk_at "s"
      exact h1
    · rw [range_map, fm_some] at lp4
      obtain ⟨R, hR⟩ : ∃ R : Fil, R = (List.range many).map fun t => (ring t, [(ring ((t + 1) % many), -1)]) := ⟨_, rfl⟩
      have lp5 : st4 p4 = some (.lst (R.map rowD)) := by
        rw [lp4, hR, List.map_map]
        congr 2
      have kR : keys R = (List.range many).map ring := by
        rw [hR]; unfold keys; rw [List.map_map]; rfl
      have ndR : (keys R).Nodup := by
        rw [kR, List.Nodup, List.pairwise_map]
        refine (List.nodup_range (n := many)).imp_of_mem fun {a b} ha hb hab e => hab (hinj a b ?_ ?_ e)
        · have := List.mem_range.mp ha; omega
        · have := List.mem_range.mp hb; omega
      have lenR : R.length = many := by rw [hR]; simp
      have okR : ∀ r ∈ R, nmOk r.1 ∧ TermOk 1 r.2 := by
        intro r hr
        rw [hR] at hr
        obtain ⟨t, _, rfl⟩ := List.mem_map.mp hr
        exact ⟨hok _ (hrm t), by simp, fun s hs => by rw [List.mem_singleton.mp hs]; exact hok _ (hrm _)⟩
      clear lp4 lp' hR
      refine oSorted_rows lp5 ndR fun p6 hp6 => ?_
      walk_at "s"
      refine endsOf_i (q _ _ ⟨?_, ?_, ?_⟩ (by rw [(sortBy_perm _ _).length_eq]; omega) (sortBy_sorted (·.1) R) ((uu3.then u4).then (Keep.put hp6)))
      · rw [(sortBy_perm _ _).length_eq]; omega
      · exact ((sortBy_perm (fun r : Row => r.1) R).map (fun r : Row => r.1)).nodup_iff.mpr ndR
      · intro r hr
        exact okR r ((sortBy_perm _ _).mem_iff.mp hr)
end L2.DL

namespace L2.DL
open PySem PySem.Spec PyProof.Rows
local macro_rules | `(tactic| walk_at "s") => `(tactic| try simp only [sqAsg_a, sqDrop_a, sqPar_a, sqPar3_a, sqRet_a, sqNext_a, sqSeq_a, sNext_a, sBreak_a, sCont_a, sDrop_a, sRet_a, sRetN_a, sIf_a, sAsg_a, sPar_a, sPar3_a, mVar_a, vAt_a, mC_a, mBin_a, mTest_a, bAt_a, mAnd_a, mOr_a, mNot_a, mYes_a, mAndV_a, mOrV_a, mNotV_a, mIf_a, mNil_a, mCons_a, mTup_a, mLst_a, mCall_a, mCallK_a, mMeth_a, mSl_a, mNoPart_a, iAt_a, mPart_a, mIsi_b, tysO_some, List.any_cons, List.any_nil, Bool.or_false, Bool.false_or, Bool.or_true, Bool.true_or, Int.natCast_pos, gN_a, gTup_a, gCons_a, gNil_a, gSub_a, sFor_a, mLc_a, mDc_a, wSeq_a, sqO_tup, sqO_str, sqO_ref, wRng1_a, wRng2_b, wRng3_b, wEnum_a, enO_tup, enO_ref, mRev_a, revO_ref, List.getD_cons_zero, List.getD_cons_succ, ite_self, List.set_cons_zero, List.set_cons_succ, List.getElem?_cons_zero, List.getElem?_cons_succ, oAdd_int, oAdd_str, oAdd_tup, oAdd_ref, oSub_int, oMul_int, oDiv_int, oMod_int, oPow_int, oLt_int, oLe_int, oGt_int, oGe_int, oIs_nn, oIs_bn, oIs_in, oIs_sn, oIs_tn, oIs_rn, oIs_bb, oIs_nb, oIs_ib, oIs_sb, oIs_tb, oIs_rb, oIsi_int, oIsi_str, oIsi_bool, oIsi_tuple, oIsi_list, oIsi_dict, tyO_some, tyD_non, tyD_bl, tyD_int, tyD_str, tyD_tup, isi_facts, oEq_int, oNe_int, oEq_str, oNe_str, oSl_tup, oSl_str, oSl_ref, oLen_tup, oLen_str, oLen_ref, oAbs_int, oInt_int, oInt_bl, oMax_int, oMin_int, oTuple_tup, oTuple_ref, oList_tup, oList_str, oList_ref, oIx_tupE, oIx_ref, oAppend_ref, oPop_ref, oExtend_tupE, oSet_ref, isL_ref, isS_str, vO_some, ixO_lst, ixO_dicI, ixO_dicS, ixO_rodI, ixO_rodS, lsO_lst, rdO_lst, rdO_rol, lenO_lst, lenO_dic, lenO_rol, addO_lst, setO_lst, setO_dicI, setO_dicS, atI_zero, atI_one, atI_two, atI_end, startE, wipeE, List.map_cons, List.map_nil, List.length_cons, List.length_nil, List.replicate, List.cons_append, List.nil_append, Nat.reduceAdd, Nat.reduceSub, List.replicate_succ, List.replicate_zero, put_same, Nat.zero_le, Int.reduceLT, Int.reduceLE, Nat.reduceLT, Nat.reduceLeDiff, and_true, true_and, Bool.false_eq_true, ↓reduceIte, Bool.not_true, Bool.not_false, decide_true, decide_false, *])
local macro_rules | `(tactic| walk_at "i") => `(tactic| try simp only [sqIf_a, sqAsg_a, sqDrop_a, sqPar_a, sqPar3_a, sqRet_a, sqNext_a, sqSeq_a, sNext_a, sBreak_a, sCont_a, sDrop_a, sRet_a, sRetN_a, sIf_a, sAsg_a, sPar_a, sPar3_a, mVar_a, vAt_a, mC_a, mBin_a, mTest_a, bAt_a, mAnd_a, mOr_a, mNot_a, mYes_a, mAndV_a, mOrV_a, mNotV_a, mIf_a, mNil_a, mCons_a, mTup_a, mLst_a, mCall_a, mCallK_a, mMeth_a, mSl_a, mNoPart_a, iAt_a, mPart_a, mIsi_b, tysO_some, List.any_cons, List.any_nil, Bool.or_false, Bool.false_or, Bool.or_true, Bool.true_or, Int.natCast_pos, gN_a, gTup_a, gCons_a, gNil_a, gSub_a, sFor_a, mLc_a, mDc_a, wSeq_a, sqO_tup, sqO_str, sqO_ref, wRng1_a, wRng2_b, wRng3_b, wEnum_a, enO_tup, enO_ref, mRev_a, revO_ref, List.getD_cons_zero, List.getD_cons_succ, ite_self, List.set_cons_zero, List.set_cons_succ, List.getElem?_cons_zero, List.getElem?_cons_succ, oAdd_int, oAdd_str, oAdd_tup, oAdd_ref, oSub_int, oMul_int, oDiv_int, oMod_int, oPow_int, oLt_int, oLe_int, oGt_int, oGe_int, oIs_nn, oIs_bn, oIs_in, oIs_sn, oIs_tn, oIs_rn, oIs_bb, oIs_nb, oIs_ib, oIs_sb, oIs_tb, oIs_rb, oIsi_int, oIsi_str, oIsi_bool, oIsi_tuple, oIsi_list, oIsi_dict, tyO_some, tyD_non, tyD_bl, tyD_int, tyD_str, tyD_tup, isi_facts, oEq_int, oNe_int, oEq_str, oNe_str, oSl_tup, oSl_str, oSl_ref, oLen_tup, oLen_str, oLen_ref, oAbs_int, oInt_int, oInt_bl, oMax_int, oMin_int, oTuple_tup, oTuple_ref, oList_tup, oList_str, oList_ref, oIx_tupE, oIx_ref, oAppend_ref, oPop_ref, oExtend_tupE, oSet_ref, isL_ref, isS_str, vO_some, ixO_lst, ixO_dicI, ixO_dicS, ixO_rodI, ixO_rodS, lsO_lst, rdO_lst, rdO_rol, lenO_lst, lenO_dic, lenO_rol, addO_lst, setO_lst, setO_dicI, setO_dicS, atI_zero, atI_one, atI_two, atI_end, startE, wipeE, List.map_cons, List.map_nil, List.length_cons, List.length_nil, List.replicate, List.cons_append, List.nil_append, Nat.reduceAdd, Nat.reduceSub, List.replicate_succ, List.replicate_zero, put_same, Nat.zero_le, Int.reduceLT, Int.reduceLE, Nat.reduceLT, Nat.reduceLeDiff, and_true, true_and, Bool.false_eq_true, ↓reduceIte, Bool.not_true, Bool.not_false, decide_true, decide_false, *])
/-! ### parts of terms: plain -/
def cuts : Term → List Term
  | [] => []
  | s :: t => (s :: ((cuts t).take (arity s)).flatten) :: (cuts t).drop (arity s)
theorem cuts_flat : ∀ t : Term, (cuts t).flatten = t
  | [] => rfl
  | s :: t => by
    rw [cuts, List.flatten_cons, List.cons_append, ← List.flatten_append, List.take_append_drop, cuts_flat t]
theorem Rd.app : ∀ {e d : Nat} {p b : Term}, Rd e p → Rd d b → Rd (e + d) (p ++ b)
  | e, d, [], b, h, k => by
    have h : e = 0 := h
    rw [h, Nat.zero_add]
    exact k
  | e, d, s :: p, b, h, k => by
    obtain ⟨h1, h2, h3⟩ := h
    have := Rd.app h3 k
    refine ⟨by omega, h2, ?_⟩
    rw [show e + d - 1 + arity s = e - 1 + arity s + d by omega]
    exact this
theorem Rd.flat : ∀ {cs : List Term}, (∀ c ∈ cs, Wf c) → Rd cs.length cs.flatten
  | [], _ => rfl
  | c :: cs, h => by
    have h1 := Rd.flat fun x hx => h x (List.mem_cons_of_mem _ hx)
    have h2 := (h c (List.mem_cons_self ..))
    have := Rd.app h2 h1
    rw [List.flatten_cons, List.length_cons, Nat.add_comm]
    exact this
theorem Rd.cuts : ∀ {d : Nat} {t : Term}, Rd d t → (L2.DL.cuts t).length = d ∧ ∀ c ∈ L2.DL.cuts t, Wf c
  | d, [], h => by
    have h : d = 0 := h
    exact ⟨by rw [h]; rfl, fun c hc => by cases hc⟩
  | d, s :: t, h => by
    obtain ⟨h1, h2, h3⟩ := h
    obtain ⟨i1, i2⟩ := Rd.cuts h3
    have hl : ((L2.DL.cuts t).take (arity s)).length = arity s := by rw [List.length_take]; omega
    refine ⟨by rw [L2.DL.cuts, List.length_cons, List.length_drop]; omega, fun c hc => ?_⟩
    rw [L2.DL.cuts] at hc
    rcases List.mem_cons.mp hc with rfl | hc
    · refine ⟨by omega, h2, ?_⟩
      have := Rd.flat (cs := (L2.DL.cuts t).take (arity s)) fun x hx => i2 x (List.mem_of_mem_take hx)
      rw [hl] at this
      rw [show 1 - 1 + arity s = arity s by omega]
      exact this
    · exact i2 c (List.mem_of_mem_drop hc)
theorem cuts_app : ∀ {e : Nat} {p : Term} (w : Term), Rd e p → cuts (p ++ w) = cuts p ++ cuts w
  | e, [], w, _ => rfl
  | e, s :: p, w, h => by
    obtain ⟨h1, h2, h3⟩ := h
    have ih := cuts_app w h3
    have hl := (Rd.cuts h3).1
    rw [List.cons_append, cuts, ih, cuts, List.take_append_of_le_length (by omega), List.drop_append_of_le_length (by omega)]
    rfl
theorem cuts_one {p : Term} (h : Wf p) : cuts p = [p] := by
  have h1 := (Rd.cuts h).1
  have h2 := cuts_flat p
  match hc : cuts p, h1 with
  | [c], _ =>
    rw [hc] at h2
    simp at h2
    rw [h2]
theorem cuts_wf {p : Term} (w : Term) (h : Wf p) : cuts (p ++ w) = p :: cuts w := by
  rw [cuts_app w h, cuts_one h]
  rfl
/-- the part that begins a term -/
def prt (u : Term) : Term := (cuts u).headD []
theorem Rd.prt {d : Nat} {u : Term} (h : Rd d u) (hd : 0 < d) : Wf (prt u) ∧ u = L2.DL.prt u ++ u.drop (L2.DL.prt u).length ∧ Rd (d - 1) (u.drop (L2.DL.prt u).length) := by
  obtain ⟨h1, h2⟩ := h.cuts
  have hf := cuts_flat u
  unfold L2.DL.prt
  match hc : L2.DL.cuts u, h1 with
  | [], h1 => simp at h1; omega
  | c :: cs, h1 =>
    rw [hc] at h2 hf
    rw [List.flatten_cons] at hf
    show Wf c ∧ u = c ++ u.drop c.length ∧ Rd (d - 1) (u.drop c.length)
    have e : u.drop c.length = cs.flatten := by rw [← hf, List.drop_left]
    rw [e]
    refine ⟨h2 c (List.mem_cons_self ..), hf.symm, ?_⟩
    have := Rd.flat fun x hx => h2 x (List.mem_cons_of_mem _ hx)
    rw [List.length_cons] at h1
    rw [show d - 1 = cs.length by omega]
    exact this
theorem prt_len (u : Term) : (prt u).length ≤ u.length := by
  have hf := cuts_flat u
  unfold prt
  match hc : cuts u with
  | [] => simp
  | c :: cs =>
    rw [hc, List.flatten_cons] at hf
    have := congrArg List.length hf
    rw [List.length_append] at this
    show c.length ≤ _
    omega
theorem prt_take (u : Term) : u.take (prt u).length = prt u := by
  have hf := cuts_flat u
  unfold prt
  match hc : cuts u with
  | [] => simp
  | c :: cs =>
    rw [hc, List.flatten_cons] at hf
    show u.take c.length = c
    rw [← hf, List.take_left]
/-- what stands behind a beginning may be exchanged -/
theorem Rd.split : ∀ {a u : Term} {d : Nat}, Rd d (a ++ u) → ∃ e, Rd e u ∧ ∀ u', Rd e u' → Rd d (a ++ u')
  | [], u, d, h => ⟨d, h, fun _ h => h⟩
  | s :: a, u, d, h => by
    obtain ⟨h1, h2, h3⟩ := h
    obtain ⟨e, h4, h5⟩ := Rd.split h3
    exact ⟨e, h4, fun u' h => ⟨h1, h2, h5 u' h⟩⟩
theorem Wf.part {t : Term} (h : Wf t) {i : Nat} (hi : i < t.length) : Wf (prt (t.drop i)) ∧ ∀ p, Wf p → Wf (t.take i ++ p ++ t.drop (i + (prt (t.drop i)).length)) := by
  have h0 : Rd 1 (t.take i ++ t.drop i) := by rw [List.take_append_drop]; exact h
  obtain ⟨e, h1, h2⟩ := h0.split
  have he : 0 < e := by
    cases hd : t.drop i with
    | nil =>
      have := congrArg List.length hd
      rw [List.length_drop, List.length_nil] at this
      omega
    | cons s u => rw [hd] at h1; exact h1.1
  obtain ⟨h3, h4, h5⟩ := h1.prt he
  refine ⟨h3, fun p hp => ?_⟩
  rw [List.append_assoc]
  refine h2 _ ?_
  rw [← List.drop_drop]
  have := Rd.app hp h5
  rw [show 1 + (e - 1) = e by omega] at this
  exact this
/-! ### fitting: plain -/
def fitA : Fil → Term → Term → Option Fil
  | T, [], _ => some T
  | T, s :: l, u => if s.2 ≠ -1 then (if u.head? = some s then fitA T l u.tail else none)
    else if s.1 ∈ keys T then (if led T s.1 = prt u then fitA T l (u.drop (prt u).length) else none)
    else fitA (T ++ [(s.1, prt u)]) l (u.drop (prt u).length)
def fitD (l u : Term) : D := match fitA [] l u with
  | none => .non
  | some T => fillD (sortBy (·.1) T)
def lets (t : Term) : List Str := (t.filter fun s => decide (s.2 = -1)).map (·.1)
theorem keys_app (T : Fil) (r : Row) : keys (T ++ [r]) = keys T ++ [r.1] := by unfold keys; rw [List.map_append]; rfl
theorem keys_snoc {T : Fil} {r : Row} (h : (keys T).Nodup) (k : r.1 ∉ keys T) : (keys (T ++ [r])).Nodup := by
  rw [keys_app, List.nodup_append]
  exact ⟨h, by simp, fun x hx y hy => by rw [List.mem_singleton.mp hy]; rintro rfl; exact k hx⟩
theorem led_in {F T : Fil} {x : Str} (nd : (keys F).Nodup) (sub : ∀ p ∈ T, p ∈ F) (h : x ∈ keys T) : led T x = led F x := by
  obtain ⟨p, hp, rfl, e⟩ := find_some h
  unfold led
  rw [e, find_mem nd (sub p hp)]
theorem led_row {F : Fil} {x : Str} (nd : (keys F).Nodup) (h : x ∈ keys F) : (x, led F x) ∈ F := by
  obtain ⟨p, hp, rfl, e⟩ := find_some h
  rw [led_mem nd hp]
  exact hp
theorem fit_fill {F : Fil} (nd : (keys F).Nodup) (wf : ∀ p ∈ F, Wf p.2) : ∀ (l : Term) (T : Fil) (d : Nat), Rd d l → (∀ x ∈ lets l, x ∈ keys F) → (keys T).Nodup → (∀ p ∈ T, p ∈ F) →
    ∃ T', fitA T l (fill F l) = some T' ∧ (keys T').Nodup ∧ (∀ p ∈ T', p ∈ F) ∧ ∀ x, x ∈ keys T' ↔ x ∈ keys T ∨ x ∈ lets l
  | [], T, d, _, _, hn, hs => ⟨T, rfl, hn, hs, fun x => by simp [lets]⟩
  | s :: l, T, d, h, hk, hn, hs => by
    obtain ⟨h1, h2, h3⟩ := h
    by_cases c : s.2 = -1
    · have hl : lets (s :: l) = s.1 :: lets l := by unfold lets; rw [List.filter_cons_of_pos (by simpa using c), List.map_cons]
      rw [hl] at hk
      have hx := hk s.1 (List.mem_cons_self ..)
      have hf : fill F (s :: l) = led F s.1 ++ fill F l := by
        have e : fill F (s :: l) = (if s.2 = -1 then led F s.1 else [s]) ++ fill F l := rfl
        rw [e, if_pos c]
      have hr := led_row nd hx
      have hw : Wf (led F s.1) := wf _ hr
      have hp : prt (led F s.1 ++ fill F l) = led F s.1 := by unfold prt; rw [cuts_wf _ hw]; rfl
      have hk' : ∀ x ∈ lets l, x ∈ keys F := fun x hx => hk x (List.mem_cons_of_mem _ hx)
      rw [fitA, if_neg (by simpa using c), hf, hp, List.drop_left]
      by_cases m : s.1 ∈ keys T
      · rw [if_pos m, if_pos (led_in nd hs m)]
        obtain ⟨T', a1, a2, a3, a4⟩ := fit_fill nd wf l T _ h3 hk' hn hs
        refine ⟨T', a1, a2, a3, fun x => ?_⟩
        rw [a4, hl, List.mem_cons]
        constructor
        · rintro (a | a)
          · exact .inl a
          · exact .inr (.inr a)
        · rintro (a | rfl | a)
          · exact .inl a
          · exact .inl m
          · exact .inr a
      · rw [if_neg m]
        obtain ⟨T', a1, a2, a3, a4⟩ := fit_fill nd wf l (T ++ [(s.1, led F s.1)]) _ h3 hk' (keys_snoc hn m) fun p hp => by
          rcases List.mem_append.mp hp with hp | hp
          · exact hs p hp
          · rw [List.mem_singleton.mp hp]; exact hr
        refine ⟨T', a1, a2, a3, fun x => ?_⟩
        rw [a4, hl, List.mem_cons, keys_app, List.mem_append, List.mem_singleton]
        constructor
        · rintro ((a | rfl) | a)
          · exact .inl a
          · exact .inr (.inl rfl)
          · exact .inr (.inr a)
        · rintro (a | rfl | a)
          · exact .inl (.inl a)
          · exact .inl (.inr rfl)
          · exact .inr a
    · have hl : lets (s :: l) = lets l := by unfold lets; rw [List.filter_cons_of_neg (by simpa using c)]
      rw [hl] at hk ⊢
      have hf : fill F (s :: l) = s :: fill F l := by
        have e : fill F (s :: l) = (if s.2 = -1 then led F s.1 else [s]) ++ fill F l := rfl
        rw [e, if_neg c]
        rfl
      rw [fitA, if_pos c, hf]
      show ∃ T', (if some s = some s then fitA T l (fill F l) else none) = _ ∧ _
      rw [if_pos rfl]
      exact fit_fill nd wf l T _ h3 hk hn hs
theorem fit_whole {F : Fil} {l : Term} (h : Wf l) (nd : (keys F).Nodup) (wf : ∀ p ∈ F, Wf p.2) (hk : ∀ x, x ∈ keys F ↔ x ∈ lets l) (hs : sortBy (·.1) F = F) : fitD l (fill F l) = fillD F := by
  obtain ⟨T, a1, a2, a3, a4⟩ := fit_fill nd wf l [] 1 h (fun x hx => (hk x).mpr hx) (by simp [keys]) (by simp)
  have hp : T.Perm F := by
    refine (List.perm_ext_iff_of_nodup (nodup_of_keys a2) (nodup_of_keys nd)).mpr fun p => ⟨a3 p, fun hp => ?_⟩
    have hx : p.1 ∈ keys T := by
      rw [a4]
      exact .inr ((hk p.1).mp (List.mem_map.mpr ⟨p, hp, rfl⟩))
    obtain ⟨r, hr, e, _⟩ := find_some hx
    have := nodup_inj nd (a3 r hr) hp e
    rw [← this]
    exact hr
  unfold fitD
  rw [a1]
  show fillD (sortBy (·.1) T) = _
  rw [sortBy_keys hp nd, hs]
theorem fit_len : ∀ {l : Term} {T u : Term} , True → True := fun _ => trivial
/-- one letter many times -/
theorem fit_row {y : Str} {p : Term} : ∀ {ps : List Term}, (∀ q ∈ ps, Wf q) → fitA [(y, p)] (List.replicate ps.length (y, -1)) ps.flatten = if ∀ q ∈ ps, q = p then some [(y, p)] else none
  | [], _ => by rw [if_pos (by simp)]; rfl
  | q :: ps, h => by
    have hq := h q (List.mem_cons_self ..)
    have ih := fit_row (y := y) (p := p) (ps := ps) fun x hx => h x (List.mem_cons_of_mem _ hx)
    have hp : prt (q ++ ps.flatten) = q := by unfold prt; rw [cuts_wf _ hq]; rfl
    rw [List.length_cons, List.replicate_succ, List.flatten_cons, fitA, if_neg (by simp), if_pos (by simp [keys]), hp, List.drop_left, ih]
    have hl : led [(y, p)] y = p := led_mem (F := [(y, p)]) (p := (y, p)) (by simp [keys]) (by simp)
    show (if led [(y, p)] y = q then _ else _) = _
    rw [hl]
    by_cases c : p = q
    · subst c
      rw [if_pos rfl]
      by_cases d : ∀ x ∈ ps, x = p
      · rw [if_pos d, if_pos (by intro x hx; rcases List.mem_cons.mp hx with rfl | hx; rfl; exact d x hx)]
      · rw [if_neg d, if_neg (fun e => d fun x hx => e x (List.mem_cons_of_mem _ hx))]
    · rw [if_neg c, if_neg (fun e => c (e q (List.mem_cons_self ..)).symm)]
end L2.DL

namespace L2.DL
open PySem PySem.Spec PyProof.Rows
local macro_rules | `(tactic| walk_at "s") => `(tactic| try simp only [sqAsg_a, sqDrop_a, sqPar_a, sqPar3_a, sqRet_a, sqNext_a, sqSeq_a, sNext_a, sBreak_a, sCont_a, sDrop_a, sRet_a, sRetN_a, sIf_a, sAsg_a, sPar_a, sPar3_a, mVar_a, vAt_a, mC_a, mBin_a, mTest_a, bAt_a, mAnd_a, mOr_a, mNot_a, mYes_a, mAndV_a, mOrV_a, mNotV_a, mIf_a, mNil_a, mCons_a, mTup_a, mLst_a, mCall_a, mCallK_a, mMeth_a, mSl_a, mNoPart_a, iAt_a, mPart_a, mIsi_b, tysO_some, List.any_cons, List.any_nil, Bool.or_false, Bool.false_or, Bool.or_true, Bool.true_or, Int.natCast_pos, gN_a, gTup_a, gCons_a, gNil_a, gSub_a, sFor_a, mLc_a, mDc_a, wSeq_a, sqO_tup, sqO_str, sqO_ref, wRng1_a, wRng2_b, wRng3_b, wEnum_a, enO_tup, enO_ref, mRev_a, revO_ref, List.getD_cons_zero, List.getD_cons_succ, ite_self, List.set_cons_zero, List.set_cons_succ, List.getElem?_cons_zero, List.getElem?_cons_succ, oAdd_int, oAdd_str, oAdd_tup, oAdd_ref, oSub_int, oMul_int, oDiv_int, oMod_int, oPow_int, oLt_int, oLe_int, oGt_int, oGe_int, oIs_nn, oIs_bn, oIs_in, oIs_sn, oIs_tn, oIs_rn, oIs_bb, oIs_nb, oIs_ib, oIs_sb, oIs_tb, oIs_rb, oIsi_int, oIsi_str, oIsi_bool, oIsi_tuple, oIsi_list, oIsi_dict, tyO_some, tyD_non, tyD_bl, tyD_int, tyD_str, tyD_tup, isi_facts, oEq_int, oNe_int, oEq_str, oNe_str, oSl_tup, oSl_str, oSl_ref, oLen_tup, oLen_str, oLen_ref, oAbs_int, oInt_int, oInt_bl, oMax_int, oMin_int, oTuple_tup, oTuple_ref, oList_tup, oList_str, oList_ref, oIx_tupE, oIx_ref, oAppend_ref, oPop_ref, oExtend_tupE, oSet_ref, isL_ref, isS_str, vO_some, ixO_lst, ixO_dicI, ixO_dicS, ixO_rodI, ixO_rodS, lsO_lst, rdO_lst, rdO_rol, lenO_lst, lenO_dic, lenO_rol, addO_lst, setO_lst, setO_dicI, setO_dicS, atI_zero, atI_one, atI_two, atI_end, startE, wipeE, List.map_cons, List.map_nil, List.length_cons, List.length_nil, List.replicate, List.cons_append, List.nil_append, Nat.reduceAdd, Nat.reduceSub, List.replicate_succ, List.replicate_zero, put_same, Nat.zero_le, Int.reduceLT, Int.reduceLE, Nat.reduceLT, Nat.reduceLeDiff, and_true, true_and, Bool.false_eq_true, ↓reduceIte, Bool.not_true, Bool.not_false, decide_true, decide_false, *])
local macro_rules | `(tactic| walk_at "i") => `(tactic| try simp only [sqIf_a, sqAsg_a, sqDrop_a, sqPar_a, sqPar3_a, sqRet_a, sqNext_a, sqSeq_a, sNext_a, sBreak_a, sCont_a, sDrop_a, sRet_a, sRetN_a, sIf_a, sAsg_a, sPar_a, sPar3_a, mVar_a, vAt_a, mC_a, mBin_a, mTest_a, bAt_a, mAnd_a, mOr_a, mNot_a, mYes_a, mAndV_a, mOrV_a, mNotV_a, mIf_a, mNil_a, mCons_a, mTup_a, mLst_a, mCall_a, mCallK_a, mMeth_a, mSl_a, mNoPart_a, iAt_a, mPart_a, mIsi_b, tysO_some, List.any_cons, List.any_nil, Bool.or_false, Bool.false_or, Bool.or_true, Bool.true_or, Int.natCast_pos, gN_a, gTup_a, gCons_a, gNil_a, gSub_a, sFor_a, mLc_a, mDc_a, wSeq_a, sqO_tup, sqO_str, sqO_ref, wRng1_a, wRng2_b, wRng3_b, wEnum_a, enO_tup, enO_ref, mRev_a, revO_ref, List.getD_cons_zero, List.getD_cons_succ, ite_self, List.set_cons_zero, List.set_cons_succ, List.getElem?_cons_zero, List.getElem?_cons_succ, oAdd_int, oAdd_str, oAdd_tup, oAdd_ref, oSub_int, oMul_int, oDiv_int, oMod_int, oPow_int, oLt_int, oLe_int, oGt_int, oGe_int, oIs_nn, oIs_bn, oIs_in, oIs_sn, oIs_tn, oIs_rn, oIs_bb, oIs_nb, oIs_ib, oIs_sb, oIs_tb, oIs_rb, oIsi_int, oIsi_str, oIsi_bool, oIsi_tuple, oIsi_list, oIsi_dict, tyO_some, tyD_non, tyD_bl, tyD_int, tyD_str, tyD_tup, isi_facts, oEq_int, oNe_int, oEq_str, oNe_str, oSl_tup, oSl_str, oSl_ref, oLen_tup, oLen_str, oLen_ref, oAbs_int, oInt_int, oInt_bl, oMax_int, oMin_int, oTuple_tup, oTuple_ref, oList_tup, oList_str, oList_ref, oIx_tupE, oIx_ref, oAppend_ref, oPop_ref, oExtend_tupE, oSet_ref, isL_ref, isS_str, vO_some, ixO_lst, ixO_dicI, ixO_dicS, ixO_rodI, ixO_rodS, lsO_lst, rdO_lst, rdO_rol, lenO_lst, lenO_dic, lenO_rol, addO_lst, setO_lst, setO_dicI, setO_dicS, atI_zero, atI_one, atI_two, atI_end, startE, wipeE, List.map_cons, List.map_nil, List.length_cons, List.length_nil, List.replicate, List.cons_append, List.nil_append, Nat.reduceAdd, Nat.reduceSub, List.replicate_succ, List.replicate_zero, put_same, Nat.zero_le, Int.reduceLT, Int.reduceLE, Nat.reduceLT, Nat.reduceLeDiff, and_true, true_and, Bool.false_eq_true, ↓reduceIte, Bool.not_true, Bool.not_false, decide_true, decide_false, *])
/-- a fact that a walk is not to use -/
def Hid (p : Prop) : Prop := p
namespace Tk05
theorem rangeD_get {i : Int} {n k : Nat} {x : D} (h : (rangeD i n)[k]? = some x) : k < n ∧ x = .int (i + k) := by
  unfold rangeD at h
  obtain ⟨j, hj, rfl⟩ := Option.map_eq_some_iff.mp (by rw [← List.getElem?_map]; exact h)
  obtain ⟨h1, h2⟩ := List.getElem?_eq_some_iff.mp hj
  simp at h1 h2
  subst h2
  exact ⟨h1, rfl⟩
theorem rangeD_len {i : Int} {n : Nat} : (rangeD i n).length = n := by simp [rangeD]
theorem cuts_len : ∀ t : Term, (cuts t).length ≤ t.length
  | [] => Nat.le_refl _
  | s :: t => by
    have := cuts_len t
    rw [cuts, List.length_cons, List.length_cons, List.length_drop]
    omega
def S_many_of : DSp := fun vs st Q => ∃ s : Sign, vs = [signD s] ∧ -1 ≤ s.2 ∧ ∀ st', Keep st st' → Q (.int (arity s : Nat)) st'
/-- many_of(sign): 0 sign -/
def t_many_of : MS := sRet (mIf (mTest (mBin oEq (mBin oIx (mVar 0) (mC (.int 1))) (mC (.int (-1))))) (mC (.int 0)) (mBin oIx (mVar 0) (mC (.int 1))))
theorem kp_many_of : Keeps 1 1 S_many_of t_many_of := by
  refine ⟨fun ds st Q ⟨s, e, _⟩ => by rw [e]; rfl, fun ds st Q ⟨s, e, h, q⟩ => ?_⟩
  subst e
  have q1 := q st .refl
  unfold arity at q1
  clear q
  have e1 := fun Q => sign_ix1 (s := s) (st := st) (Q := Q)
  unfold t_many_of
  by_cases c : s.2 = -1
  · rw [if_pos c] at q1
    walk_at "s"
    exact endsOf_i q1
  · rw [if_neg c] at q1
    have e2 : ((s.2.toNat : Nat) : Int) = s.2 := by omega
    rw [e2] at q1
    clear e2
    walk_at "s"
    exact endsOf_i q1
/-- the ends of parts, one behind another -/
def ab : Nat → List Term → List Int
  | _, [] => []
  | i, c :: cs => ((i + c.length : Nat) : Int) :: ab (i + c.length) cs
theorem ab_drop : ∀ (m i : Nat) (cs : List Term), (ab i cs).drop m = ab (i + (cs.take m).flatten.length) (cs.drop m)
  | 0, i, cs => by simp
  | m + 1, i, [] => by simp [ab]
  | m + 1, i, c :: cs => by
    rw [ab, List.drop_succ_cons, ab_drop m, List.take_succ_cons, List.flatten_cons, List.length_append, List.drop_succ_cons, Nat.add_assoc]
def endsL (t : Term) : List Int := (List.range t.length).map fun i => ((i + (prt (t.drop i)).length : Nat) : Int)
theorem endsL_get {t : Term} {i : Nat} (h : i < t.length) : (endsL t)[i]? = some ((i + (prt (t.drop i)).length : Nat) : Int) := by
  unfold endsL
  rw [List.getElem?_map, List.getElem?_range h]
  rfl
theorem endsL_len (t : Term) : (endsL t).length = t.length := by simp [endsL]
def S_ends_of : DSp := fun vs st Q => ∃ t : Term, vs = [termD t] ∧ TermOk 1000 t ∧ Wf t ∧ ∀ p st', Nf st p → Keep st st' → st' p = some (.lst ((endsL t).map D.int)) → Q (.ref p) st'
/-- ends_of(term): 0 term 1 ends 2 behind 3 at 4 end 5 _ -/
def t_ends_of : MS := sSeq (sAsg (mLc (wSeq (mVar 0)) (gN 5) (mYes) (mC (.int 0)) [5]) (gN 1))
    (sSeq (sAsg (mLst (mNil)) (gN 2))
    (sSeq (sFor (wRng3 (mBin oSub (mCall oLen (mCons (mVar 0) (mNil))) (mC (.int 1))) (mC (.int (-1))) (mC (.int (-1)))) (gN 3) (sSeq (sAsg (mBin oAdd (mVar 3) (mC (.int 1))) (gN 4))
    (sSeq (sFor (wRng1 (mCall S_many_of (mCons (mBin oIx (mVar 0) (mVar 3)) (mNil)))) (gN 5) (sAsg (mMeth isL oPop (mVar 2) mNil) (gN 4)))
    (sSeq (sAsg (mVar 4) (gSub (mVar 1) (mVar 3) oSet))
    (sDrop (mMeth isL oAppend (mVar 2) (mCons (mVar 4) (mNil))))))))
    (sRet (mVar 1))))
theorem ixN_nat {n j : Nat} (h : j < n) : ixN n (j : Int) = some j := by
  unfold ixN
  rw [if_pos (by omega), if_pos (by omega)]
  simp
theorem wf_drop {t : Term} (h : Wf t) (i : Nat) : ∃ e, Rd e (t.drop i) := by
  have h0 : Rd 1 (t.take i ++ t.drop i) := by rw [List.take_append_drop]; exact h
  obtain ⟨e, h1, _⟩ := h0.split
  exact ⟨e, h1⟩
theorem kp_ends_of : Keeps 1 6 S_ends_of t_ends_of := by
  refine ⟨fun ds st Q ⟨s, e, _⟩ => by rw [e]; rfl, fun ds st Q ⟨t, e, ht, hw, q⟩ => ?_⟩
  subst e
  have z0 : 0 ≤ sizeLine := by decide
  have hl := ht.1
  unfold t_ends_of
  refine sSeq_t fun T hT => ?_
  unfold termD
  walk_at "s"
  refine lc_keep (fun _ => some (.int 0)) (fun _ _ => trivial) (xs := t.map signD) (by rw [List.length_map, szL]; omega) (fun y hy st2 u2 P N hP hN => ?_) fun p1 st1 hp1 u1 l1 => ?_
  · have h1 := hP _ st2 rfl .refl
    clear hP hN
    walk_at "s"
  have e0 : (t.map signD).filterMap (fun _ => some (D.int 0)) = List.replicate t.length (D.int 0) := by
    rw [fm_some, List.map_const', List.length_map]
  rw [e0] at l1
  subst hT
  refine sSeq_t fun T hT => ?_
  walk_at "s"
  intro p2 hp2
  have n12 : p2 ≠ p1 := hp2.ne l1
  have l1' := (Keep.put (o := .lst []) hp2).l l1
  have l2 : put st1 p2 (.lst []) p2 = some (.lst []) := put_same
  have u2 := u1.new (o := .lst []) hp2
  have hp2' := hp2.backK u1
  generalize put st1 p2 (.lst []) = st2 at *
  clear hp2 l1 u1
  subst hT
  refine sSeq_i (fun env st' => ∃ g2 g3 g4 g5, env = [some (.tup (t.map signD)), some (.ref p1), g2, g3, g4, g5] ∧ Keep st st' ∧ st' p1 = some (.lst ((endsL t).map D.int))) (fun nx hnx => ?_) ?_
  · walk_at "s"
    rw [List.length_map]
    refine ⟨t.length, ?_, ?_⟩
    · have := RgC.neg (i := (t.length : Int) - 1) (j := -1) (by omega) (by omega) (by omega) (by omega)
      rw [show ((t.length : Int) - 1 - -1).toNat = t.length by omega] at this
      exact this
    refine ⟨fun k env st' => ∃ g3 g4 g5, env = [some (.tup (t.map signD)), some (.ref p1), some (.ref p2), g3, g4, g5] ∧ Keep st st' ∧ st' p1 = some (.lst ((List.replicate (t.length - k) 0 ++ (endsL t).drop (t.length - k)).map D.int)) ∧ st' p2 = some (.lst ((ab (t.length - k) (cuts (t.drop (t.length - k)))).reverse.map D.int)), ⟨none, none, none, rfl, u2, ?_, ?_⟩, fun _ _ _ _ _ => trivial, ?_, ?_⟩
    · rw [l1', Nat.sub_zero, List.drop_of_length_le (by rw [endsL_len]; omega), List.append_nil, List.map_replicate]
    · rw [l2, Nat.sub_zero, List.drop_length]
      rfl
    · rintro k x env st3 hx ⟨g3, g4, g5, rfl, u3, l3, l4⟩
      clear hnx q l1' l2 u2
      unfold stepD at hx
      rw [List.getElem?_map, Option.map_eq_some_iff] at hx
      obtain ⟨k', hk', rfl⟩ := hx
      obtain ⟨hk, hk2⟩ := List.getElem?_eq_some_iff.mp hk'
      rw [List.length_range] at hk
      rw [List.getElem_range] at hk2
      subst hk2
      have ej : (t.length : Int) - 1 + (k : Int) * -1 = ((t.length - k - 1 : Nat) : Int) := by omega
      rw [ej]
      clear hk' ej
      obtain ⟨j, hj⟩ : ∃ j, t.length - k - 1 = j := ⟨_, rfl⟩
      have hi : t.length - k = j + 1 := by omega
      have hi2 : t.length - (k + 1) = j := by omega
      rw [hi] at l3 l4
      rw [hj]
      simp only [hi2]
      have hjl : j < t.length := by omega
      have hs := List.getElem?_eq_getElem hjl
      have hd := List.drop_eq_getElem_cons hjl
      have hsm := ht.2 _ (List.getElem_mem hjl)
      generalize t[j] = s at *
      obtain ⟨e, hrd⟩ := wf_drop hw j
      rw [hd] at hrd
      obtain ⟨h1, h2, h3⟩ := hrd
      have hcl := (Rd.cuts h3).1
      have hcl2 := cuts_len (t.drop (j + 1))
      rw [List.length_drop] at hcl2
      have hprt : prt (t.drop j) = s :: ((cuts (t.drop (j + 1))).take (arity s)).flatten := by unfold prt; rw [hd, cuts]; rfl
      have hcut : cuts (t.drop j) = prt (t.drop j) :: (cuts (t.drop (j + 1))).drop (arity s) := by rw [hprt, hd, cuts]
      generalize cuts (t.drop (j + 1)) = cs at *
      have a1 : atI (t.map signD) (j : Int) = some (signD s) := by rw [atI_ofNat, List.getElem?_map, hs]; rfl
      rw [gN_a]
      have hh : Hid (prt (t.drop j) = s :: (cs.take (arity s)).flatten ∧ cuts (t.drop j) = prt (t.drop j) :: cs.drop (arity s)) := ⟨hprt, hcut⟩
      clear hprt hcut hd
      refine sSeq_t fun T hT => ?_
      walk_at "s"
      subst hT
      refine sSeq_i (fun env st' => ∃ g5, env = [some (.tup (t.map signD)), some (.ref p1), some (.ref p2), some (.int (j : Nat)), some (.int (((j + 1 + (cs.take (arity s)).flatten.length : Nat)) : Int)), g5] ∧ Keep st st' ∧ st' p1 = some (.lst ((List.replicate (j + 1) 0 ++ (endsL t).drop (j + 1)).map D.int)) ∧ st' p2 = some (.lst (((ab (j + 1) cs).drop (arity s)).reverse.map D.int))) (fun nx2 hnx2 => ?_) ?_
      · walk_at "s"
        refine ⟨s, rfl, h2, fun st4 u4 => ?_⟩
        have l5 := u4.l l3
        have l6 := u4.l l4
        have u5 := u3.trans u4
        clear l3 l4 u3 u4
        walk_at "s"
        refine ⟨by omega, fun m env st' => ∃ g5, env = [some (.tup (t.map signD)), some (.ref p1), some (.ref p2), some (.int (j : Nat)), some (.int (((j + 1 + (cs.take m).flatten.length : Nat)) : Int)), g5] ∧ Keep st st' ∧ st' p1 = some (.lst ((List.replicate (j + 1) 0 ++ (endsL t).drop (j + 1)).map D.int)) ∧ st' p2 = some (.lst (((ab (j + 1) cs).drop m).reverse.map D.int)), ⟨g5, by simp, u5, l5, by rw [l6, List.drop_zero]⟩, fun _ _ _ _ _ => trivial, ?_, ?_⟩
        · rintro m x env st5 hx ⟨g5, rfl, u6, l7, l8⟩
          obtain ⟨hm, rfl⟩ := rangeD_get hx
          rw [Int.toNat_natCast] at hm
          clear hnx2 hx l5 l6 u5
          have hmc : m < cs.length := by omega
          have hdm : (ab (j + 1) cs).drop m = ((j + 1 + (cs.take (m + 1)).flatten.length : Nat) : Int) :: (ab (j + 1) cs).drop (m + 1) := by
            rw [ab_drop, ab_drop, List.drop_eq_getElem_cons hmc, ab, take_snoc (List.getElem?_eq_getElem hmc), List.flatten_append, List.length_append]
            simp only [List.flatten_cons, List.flatten_nil, List.append_nil, Nat.add_assoc]
          rw [hdm, List.reverse_cons, List.map_append] at l8
          have gl : (((ab (j + 1) cs).drop (m + 1)).reverse.map D.int ++ [D.int ((j + 1 + (cs.take (m + 1)).flatten.length : Nat) : Int)]).getLast? = some (.int ((j + 1 + (cs.take (m + 1)).flatten.length : Nat) : Int)) := by simp
          have dl : (((ab (j + 1) cs).drop (m + 1)).reverse.map D.int ++ [D.int ((j + 1 + (cs.take (m + 1)).flatten.length : Nat) : Int)]).dropLast = ((ab (j + 1) cs).drop (m + 1)).reverse.map D.int := by simp
          clear hdm
          walk_at "s"
          exact ⟨_, rfl, u6.mut hp2', by rw [put_ne n12.symm]; exact l7⟩
        · rintro env st5 ⟨g5, rfl, u6, l7, l8⟩
          rw [rangeD_len, Int.toNat_natCast] at l8 ⊢
          exact hnx2 _ _ ⟨g5, rfl, u6, l7, l8⟩
      · rintro env st4 ⟨g5, rfl, u4, l5, l6⟩
        clear l3 l4 u3
        obtain ⟨hprt, hcut⟩ : prt (t.drop j) = s :: (cs.take (arity s)).flatten ∧ cuts (t.drop j) = prt (t.drop j) :: cs.drop (arity s) := hh
        have hpl : j + 1 + (cs.take (arity s)).flatten.length = j + (prt (t.drop j)).length := by rw [hprt, List.length_cons]; omega
        rw [hpl]
        have hz : (((ab (j + 1) cs).drop (arity s)).reverse.map D.int).length < sizeLine := by
          rw [List.length_map, List.length_reverse, ab_drop]
          have : ∀ (cs : List Term) i, (ab i cs).length = cs.length := by
            intro cs
            induction cs with
            | nil => intro i; rfl
            | cons c cs ih => intro i; rw [ab, List.length_cons, ih, List.length_cons]
          rw [this, List.length_drop, szL]
          omega
        have hset : (D.int 0 :: (List.replicate j 0 ++ (endsL t).drop (j + 1)).map D.int).set j (.int ((j + (prt (t.drop j)).length : Nat) : Int)) = (List.replicate j 0 ++ (endsL t).drop j).map D.int := by
          show ((List.replicate (j + 1) 0 ++ (endsL t).drop (j + 1)).map D.int).set j (D.int ((j + (prt (t.drop j)).length : Nat) : Int)) = _
          rw [← List.map_set]
          congr 1
          rw [List.replicate_succ', List.append_assoc, List.set_append_right _ _ (by rw [List.length_replicate]; omega), List.length_replicate, Nat.sub_self]
          congr 1
          have hjl' : j < (endsL t).length := by rw [endsL_len]; exact hjl
          rw [List.drop_eq_getElem_cons hjl']
          have := endsL_get hjl
          rw [List.getElem?_eq_getElem hjl'] at this
          rw [Option.some.inj this]
          rfl
        have hab : ab j (cuts (t.drop j)) = ((j + (prt (t.drop j)).length : Nat) : Int) :: (ab (j + 1) cs).drop (arity s) := by rw [hcut, ab, ab_drop, hpl]
        generalize ((j + (prt (t.drop j)).length : Nat) : Int) = E at *
        clear hpl hprt hcut hs hcl hcl2 h3
        refine sSeq_t fun T hT => ?_
        walk_at "s"
        refine ⟨j, ixN_nat (by simp; omega), ?_⟩
        rw [hset]
        have l7 : put st4 p1 (.lst ((List.replicate j 0 ++ (endsL t).drop j).map D.int)) p2 = some (.lst (((ab (j + 1) cs).drop (arity s)).reverse.map D.int)) := by rw [put_ne n12]; exact l6
        have l8 : put st4 p1 (.lst ((List.replicate j 0 ++ (endsL t).drop j).map D.int)) p1 = some (.lst ((List.replicate j 0 ++ (endsL t).drop j).map D.int)) := put_same
        have u5 := u4.mut (o := .lst ((List.replicate j 0 ++ (endsL t).drop j).map D.int)) hp1
        generalize put st4 p1 (.lst ((List.replicate j 0 ++ (endsL t).drop j).map D.int)) = st5 at *
        clear hset l5 l6 u4
        subst hT
        walk_at "s"
        refine ⟨_, _, _, rfl, u5.mut hp2', by rw [put_ne n12.symm]; exact l8, ?_⟩
        rw [List.reverse_cons, List.map_append]
        rfl
    · rintro env st3 ⟨g3, g4, g5, rfl, u3, l3, l4⟩
      have e0 : (stepD ((t.length : Int) - 1) (-1) t.length).length = t.length := by simp [stepD]
      rw [e0, Nat.sub_self] at l3
      exact hnx _ _ ⟨_, g3, g4, g5, rfl, u3, by simpa using l3⟩
  · rintro env st3 ⟨g2, g3, g4, g5, rfl, u3, l3⟩
    walk_at "s"
    exact endsOf_i (q p1 st3 hp1 u3 l3)
end Tk05
end L2.DL

namespace L2.DL
open PySem PySem.Spec PyProof.Rows
local macro_rules | `(tactic| walk_at "s") => `(tactic| try simp only [sqAsg_a, sqDrop_a, sqPar_a, sqPar3_a, sqRet_a, sqNext_a, sqSeq_a, sNext_a, sBreak_a, sCont_a, sDrop_a, sRet_a, sRetN_a, sIf_a, sAsg_a, sPar_a, sPar3_a, mVar_a, vAt_a, mC_a, mBin_a, mTest_a, bAt_a, mAnd_a, mOr_a, mNot_a, mYes_a, mAndV_a, mOrV_a, mNotV_a, mIf_a, mNil_a, mCons_a, mTup_a, mLst_a, mCall_a, mCallK_a, mMeth_a, mSl_a, mNoPart_a, iAt_a, mPart_a, mIsi_b, tysO_some, List.any_cons, List.any_nil, Bool.or_false, Bool.false_or, Bool.or_true, Bool.true_or, Int.natCast_pos, gN_a, gTup_a, gCons_a, gNil_a, gSub_a, sFor_a, mLc_a, mDc_a, wSeq_a, sqO_tup, sqO_str, sqO_ref, wRng1_a, wRng2_b, wRng3_b, wEnum_a, enO_tup, enO_ref, mRev_a, revO_ref, List.getD_cons_zero, List.getD_cons_succ, ite_self, List.set_cons_zero, List.set_cons_succ, List.getElem?_cons_zero, List.getElem?_cons_succ, oAdd_int, oAdd_str, oAdd_tup, oAdd_ref, oSub_int, oMul_int, oDiv_int, oMod_int, oPow_int, oLt_int, oLe_int, oGt_int, oGe_int, oIs_nn, oIs_bn, oIs_in, oIs_sn, oIs_tn, oIs_rn, oIs_bb, oIs_nb, oIs_ib, oIs_sb, oIs_tb, oIs_rb, oIsi_int, oIsi_str, oIsi_bool, oIsi_tuple, oIsi_list, oIsi_dict, tyO_some, tyD_non, tyD_bl, tyD_int, tyD_str, tyD_tup, isi_facts, oEq_int, oNe_int, oEq_str, oNe_str, oSl_tup, oSl_str, oSl_ref, oLen_tup, oLen_str, oLen_ref, oAbs_int, oInt_int, oInt_bl, oMax_int, oMin_int, oTuple_tup, oTuple_ref, oList_tup, oList_str, oList_ref, oIx_tupE, oIx_ref, oAppend_ref, oPop_ref, oExtend_tupE, oSet_ref, isL_ref, isS_str, vO_some, ixO_lst, ixO_dicI, ixO_dicS, ixO_rodI, ixO_rodS, lsO_lst, rdO_lst, rdO_rol, lenO_lst, lenO_dic, lenO_rol, addO_lst, setO_lst, setO_dicI, setO_dicS, atI_zero, atI_one, atI_two, atI_end, startE, wipeE, List.map_cons, List.map_nil, List.length_cons, List.length_nil, List.replicate, List.cons_append, List.nil_append, Nat.reduceAdd, Nat.reduceSub, List.replicate_succ, List.replicate_zero, put_same, Nat.zero_le, Int.reduceLT, Int.reduceLE, Nat.reduceLT, Nat.reduceLeDiff, and_true, true_and, Bool.false_eq_true, ↓reduceIte, Bool.not_true, Bool.not_false, decide_true, decide_false, *])
local macro_rules | `(tactic| walk_at "i") => `(tactic| try simp only [sqIf_a, sqAsg_a, sqDrop_a, sqPar_a, sqPar3_a, sqRet_a, sqNext_a, sqSeq_a, sNext_a, sBreak_a, sCont_a, sDrop_a, sRet_a, sRetN_a, sIf_a, sAsg_a, sPar_a, sPar3_a, mVar_a, vAt_a, mC_a, mBin_a, mTest_a, bAt_a, mAnd_a, mOr_a, mNot_a, mYes_a, mAndV_a, mOrV_a, mNotV_a, mIf_a, mNil_a, mCons_a, mTup_a, mLst_a, mCall_a, mCallK_a, mMeth_a, mSl_a, mNoPart_a, iAt_a, mPart_a, mIsi_b, tysO_some, List.any_cons, List.any_nil, Bool.or_false, Bool.false_or, Bool.or_true, Bool.true_or, Int.natCast_pos, gN_a, gTup_a, gCons_a, gNil_a, gSub_a, sFor_a, mLc_a, mDc_a, wSeq_a, sqO_tup, sqO_str, sqO_ref, wRng1_a, wRng2_b, wRng3_b, wEnum_a, enO_tup, enO_ref, mRev_a, revO_ref, List.getD_cons_zero, List.getD_cons_succ, ite_self, List.set_cons_zero, List.set_cons_succ, List.getElem?_cons_zero, List.getElem?_cons_succ, oAdd_int, oAdd_str, oAdd_tup, oAdd_ref, oSub_int, oMul_int, oDiv_int, oMod_int, oPow_int, oLt_int, oLe_int, oGt_int, oGe_int, oIs_nn, oIs_bn, oIs_in, oIs_sn, oIs_tn, oIs_rn, oIs_bb, oIs_nb, oIs_ib, oIs_sb, oIs_tb, oIs_rb, oIsi_int, oIsi_str, oIsi_bool, oIsi_tuple, oIsi_list, oIsi_dict, tyO_some, tyD_non, tyD_bl, tyD_int, tyD_str, tyD_tup, isi_facts, oEq_int, oNe_int, oEq_str, oNe_str, oSl_tup, oSl_str, oSl_ref, oLen_tup, oLen_str, oLen_ref, oAbs_int, oInt_int, oInt_bl, oMax_int, oMin_int, oTuple_tup, oTuple_ref, oList_tup, oList_str, oList_ref, oIx_tupE, oIx_ref, oAppend_ref, oPop_ref, oExtend_tupE, oSet_ref, isL_ref, isS_str, vO_some, ixO_lst, ixO_dicI, ixO_dicS, ixO_rodI, ixO_rodS, lsO_lst, rdO_lst, rdO_rol, lenO_lst, lenO_dic, lenO_rol, addO_lst, setO_lst, setO_dicI, setO_dicS, atI_zero, atI_one, atI_two, atI_end, startE, wipeE, List.map_cons, List.map_nil, List.length_cons, List.length_nil, List.replicate, List.cons_append, List.nil_append, Nat.reduceAdd, Nat.reduceSub, List.replicate_succ, List.replicate_zero, put_same, Nat.zero_le, Int.reduceLT, Int.reduceLE, Nat.reduceLT, Nat.reduceLeDiff, and_true, true_and, Bool.false_eq_true, ↓reduceIte, Bool.not_true, Bool.not_false, decide_true, decide_false, *])
namespace Tk05
theorem okC_sign {s : Sign} (h : nmOk s.1) : okC (signD s) = true ∧ depC (signD s) ≤ 2 := by
  have h1 := okC_term (t := [s]) (fun x hx => by rw [List.mem_singleton.mp hx]; exact h)
  have e : termD [s] = .tup [signD s] := rfl
  rw [e] at h1
  obtain ⟨a, b⟩ := h1
  simp only [okC, okC.okCs, Bool.and_true] at a
  simp only [depC, depC.depCs] at b
  exact ⟨a, by omega⟩
theorem oNe_sign {a b : Sign} {st : Sto} {Q : DK} (ha : nmOk a.1) (hb : nmOk b.1) (q : Q (.bl (decide (a ≠ b))) st) : oNe (signD a) (signD b) st Q := by
  have h1 := okC_sign ha
  have h2 := okC_sign hb
  refine oNe_dat h1.1 h2.1 (by omega) (by omega) ?_
  by_cases e : a = b
  · subst e
    simpa using q
  · have : signD a ≠ signD b := fun c => e (signD_inj c)
    simp only [this, decide_false, Bool.not_false]
    simpa [e] using q
theorem cutL_mid' {α : Type} (xs : List α) (a b : Nat) : cutL xs (some (a : Int)) (some (b : Int)) = (xs.drop a).take (b - a) := by
  unfold cutL
  rw [HT.sIx_nat, HT.sIx_nat]
  by_cases h : a ≤ xs.length
  · rw [Nat.min_eq_left h, List.take_eq_take_min (i := b - a), List.length_drop]
    congr 1
    omega
  · rw [List.drop_of_length_le (by omega), List.drop_of_length_le (by omega)]
    simp
def S_fitting : DSp := fun vs st Q => ∃ l t : Term, vs = [termD l, termD t] ∧ TermOk 60 l ∧ TermOk 1000 t ∧ Wf l ∧ Wf t ∧ ∀ st', Keep st st' → Q (fitD l t) st'
/-- fitting(left, term): 0 left 1 term 2 ends 3 table 4 at 5 sign 6 part -/
def t_fitting : MS := sSeq (sAsg (mCall S_ends_of (mCons (mVar 1) (mNil))) (gN 2))
    (sSeq (sAsg (mDict0) (gN 3))
    (sSeq (sAsg (mC (.int 0)) (gN 4))
    (sSeq (sFor (wSeq (mVar 0)) (gN 5) (sSeq (sIf (mTest (mBin oNe (mBin oIx (mVar 5) (mC (.int 1))) (mC (.int (-1))))) (sSeq (sIf (mTest (mBin oNe (mBin oIx (mVar 1) (mVar 4)) (mVar 5))) (sRet (mC .non)) (sNext))
    (sSeq (sAug 4 (mC (.int 1)) oIAdd)
    (sCont))) (sNext))
    (sSeq (sAsg (mSl (mVar 1) (mPart (mVar 4)) (mPart (mBin oIx (mVar 2) (mVar 4)))) (gN 6))
    (sSeq (sIf (mTest (mBin oNe (mSetd (mVar 3) (mBin oIx (mVar 5) (mC (.int 0))) (mVar 6)) (mVar 6))) (sRet (mC .non)) (sNext))
    (sAsg (mBin oIx (mVar 2) (mVar 4)) (gN 4))))))
    (sRet (mCall S_lot_of (mCons (mVar 3) (mNil)))))))
theorem putD_snoc {T : Fil} {x : Str} {p : Term} (h : x ∉ keys T) : putD (tabD T) (.inr x) (termD p) = tabD (T ++ [(x, p)]) := by
  have := putD_tab T (x, p)
  rw [this]
  unfold setF
  rw [if_neg h]
theorem kp_fitting : Keeps 2 7 S_fitting t_fitting := by
  refine ⟨fun ds st Q ⟨l, t, e, _⟩ => by rw [e]; rfl, fun ds st Q ⟨l, t, e, hl, ht, wl, wt, q⟩ => ?_⟩
  subst e
  have hl1 := hl.1
  have ht1 := ht.1
  unfold t_fitting
  refine sSeq_t fun T hT => ?_
  walk_at "s"
  refine ⟨t, rfl, ht, wt, fun pe st1 hpe u1 le => ?_⟩
  subst hT
  refine sSeq_t fun T hT => ?_
  rw [sqAsg_a]
  show mDict0 _ _ _
  unfold mDict0
  intro pt hpt
  rw [gN_a]
  have nte : pt ≠ pe := hpt.ne le
  have le2 := (Keep.put (o := .dic []) hpt).l le
  have lt : put st1 pt (.dic []) pt = some (.dic (tabD [])) := put_same
  have u2 := u1.new (o := .dic []) hpt
  have hpt' := hpt.backK u1
  generalize put st1 pt (.dic []) = st2 at *
  clear u1 hpt le hpe
  subst hT
  refine sSeq_t fun T hT => ?_
  walk_at "s"
  subst hT
  rw [sSeq_a]
  walk_at "s"
  unfold termD
  rw [sqO_tup]
  refine ⟨fun i env st' => ∃ (T : Fil) (at_ : Nat) (d : Nat) (g5 g6 : Option D), env = [some (.tup (l.map signD)), some (.tup (t.map signD)), some (.ref pe), some (.ref pt), some (.int (at_ : Nat)), g5, g6] ∧ Keep st st' ∧ st' pe = some (.lst ((endsL t).map D.int)) ∧ st' pt = some (.dic (tabD T)) ∧ (keys T).Nodup ∧ T.length ≤ i ∧ Rd d (l.drop i) ∧ Rd d (t.drop at_) ∧ at_ ≤ t.length ∧ (∀ p ∈ T, nmOk p.1 ∧ TermOk 1000 p.2) ∧ fitA T (l.drop i) (t.drop at_) = fitA [] l t, ⟨[], 0, 1, none, none, rfl, u2, le2, lt, by simp [keys], by simp, wl, wt, by omega, by simp, rfl⟩, fun _ _ _ _ _ => trivial, ?_, ?_⟩
  · rintro i x env st3 hx ⟨T, at_, d, g5, g6, rfl, u3, l3, l4, hn, hT, hd1, hd2, hat, hok, hf⟩
    clear le2 lt u2
    rw [List.getElem?_map, Option.map_eq_some_iff] at hx
    obtain ⟨s, hs, rfl⟩ := hx
    obtain ⟨hil, hsx⟩ := List.getElem?_eq_some_iff.mp hs
    have hdl := List.drop_eq_getElem_cons hil
    rw [hsx] at hdl
    have hsm := hl.2 s (List.mem_of_getElem? hs)
    rw [hdl] at hd1 hf
    obtain ⟨d0, s0, hd3⟩ := hd1
    have hal : at_ < t.length := by
      rcases Nat.lt_or_ge at_ t.length with h | h
      · exact h
      · rw [List.drop_of_length_le h] at hd2
        have : d = 0 := hd2
        omega
    have hdt := List.drop_eq_getElem_cons hal
    have hty := List.getElem?_eq_getElem hal
    have htm := ht.2 _ (List.getElem_mem hal)
    have ie : atI ((endsL t).map D.int) (at_ : Int) = some (.int ((at_ + (prt (t.drop at_)).length : Nat) : Int)) := by rw [atI_ofNat, List.getElem?_map, endsL_get hal]; rfl
    have it : atI (t.map signD) (at_ : Int) = some (signD (t[at_])) := by rw [atI_ofNat, List.getElem?_map, hty]; rfl
    have e0 := fun Q => sign_ix0 (s := s) (st := st3) (Q := Q)
    have e1 := fun Q => sign_ix1 (s := s) (st := st3) (Q := Q)
    have q0 : fitA [] l t = none → (endsOf Q).rt .non st3 := fun h => by
      have := q st3 u3
      unfold fitD at this
      rw [h] at this
      exact endsOf_i this
    rw [gN_a]
    by_cases c : s.2 = -1
    · have hp := hd2.prt d0
      have h0 : arity s = 0 := by unfold arity; rw [if_pos c]
      rw [h0] at hd3
      have hpl := prt_len (t.drop at_)
      rw [List.length_drop] at hpl
      have hct : cutL (t.map signD) (some (at_ : Int)) (some ((at_ + (prt (t.drop at_)).length : Nat) : Int)) = (prt (t.drop at_)).map signD := by
        rw [cutL_mid', ← List.map_drop, ← List.map_take, show at_ + (prt (t.drop at_)).length - at_ = (prt (t.drop at_)).length by omega, prt_take]
      have hpok : TermOk 1000 (prt (t.drop at_)) := ⟨by omega, fun x hx => ht.2 x (List.mem_of_mem_drop (List.mem_of_mem_take (by rw [← prt_take (t.drop at_)] at hx; exact hx)))⟩
      rw [fitA, if_neg (by simpa using c)] at hf
      have hdd : (t.drop at_).drop (prt (t.drop at_)).length = t.drop (at_ + (prt (t.drop at_)).length) := by rw [List.drop_drop]
      rw [hdd] at hf
      have hd5 := hp.2.2
      rw [hdd] at hd5
      have hh : Hid (Rd (d - 1 + 0) (l.drop (i + 1)) ∧ Rd (d - 1) (t.drop (at_ + (prt (t.drop at_)).length)) ∧ at_ + (prt (t.drop at_)).length ≤ t.length) := ⟨hd3, hd5, by omega⟩
      have hpo := fun Q => oIx_ref (a := pe) (y := .int (at_ : Int)) (st := st3) (Q := Q)
      generalize hpp : prt (t.drop at_) = p at *
      clear hpp hp hd3 hd5 hd2 hdl hdd hdt hty it htm hsx hs hpl
      refine sSeq_t fun U hU => ?_
      walk_at "i"
      subst hU
      refine sSeq_t fun U hU => ?_
      walk_at "s"
      subst hU
      refine sSeq_t fun U hU => ?_
      rw [sqIf_a]
      walk_at "s"
      unfold mSetd
      walk_at "s"
      refine ⟨pt, tabD T, rfl, by rw [l4]; rfl, ?_⟩
      walk_at "s"
      have hgt := tab_get T s.1
      refine ⟨tabD T, .inr s.1, rfl, rfl, by unfold tabD; rw [List.length_map, szL]; omega, fun v hv => ?_, fun hv => ?_⟩
      · rw [hgt] at hv
        cases hfd : T.find? (fun p => decide (p.1 = s.1)) with
        | none => rw [hfd] at hv; cases hv
        | some r =>
          rw [hfd] at hv
          cases hv
          have hrm := List.mem_of_find?_eq_some hfd
          have hre : r.1 = s.1 := by simpa using List.find?_some hfd
          have hmk : s.1 ∈ keys T := List.mem_map.mpr ⟨r, hrm, hre⟩
          have hle : led T s.1 = r.2 := by rw [← hre, led_mem hn hrm]
          rw [if_pos hmk, hle] at hf
          show oNe (termD r.2) (termD p) st3 _
          refine oNe_term (fun x hx => (hok r hrm).2.2 x hx) (fun x hx => hpok.2 x hx) ?_
          rw [bAt_a]
          by_cases ce : r.2 = p
          · rw [if_pos ce] at hf
            subst hU
            obtain ⟨hA, hB, hC⟩ : Rd (d - 1 + 0) (l.drop (i + 1)) ∧ Rd (d - 1) (t.drop (at_ + p.length)) ∧ at_ + p.length ≤ t.length := hh
            rw [if_neg (by simpa using ce)]
            clear hct hgt hfd
            walk_at "s"
            refine ⟨T, at_ + p.length, d - 1, some (signD s), some (.tup (p.map signD)), ?_⟩
            and_intros
            all_goals first | rfl | assumption | exact hA | omega
          · rw [if_neg ce] at hf
            rw [if_pos (by simpa using ce)]
            exact q0 hf.symm
      · rw [hgt] at hv
        have hmk : s.1 ∉ keys T := fun h => by
          obtain ⟨r, _, _, e⟩ := find_some h
          rw [e] at hv; cases hv
        rw [if_neg hmk] at hf
        have hps := putD_snoc (p := p) hmk
        show oNe (termD p) (termD p) (put st3 pt (.dic (putD (tabD T) (.inr s.1) (termD p)))) _
        rw [hps]
        refine oNe_term (fun x hx => hpok.2 x hx) (fun x hx => hpok.2 x hx) ?_
        rw [bAt_a]
        subst hU
        obtain ⟨hA, hB, hC⟩ : Rd (d - 1 + 0) (l.drop (i + 1)) ∧ Rd (d - 1) (t.drop (at_ + p.length)) ∧ at_ + p.length ≤ t.length := hh
        rw [if_neg (by simp)]
        have l3' : put st3 pt (.dic (tabD (T ++ [(s.1, p)]))) pe = some (.lst ((endsL t).map D.int)) := by rw [put_ne nte.symm]; exact l3
        have l4' : put st3 pt (.dic (tabD (T ++ [(s.1, p)]))) pt = some (.dic (tabD (T ++ [(s.1, p)]))) := put_same
        have u4 := u3.mut (o := .dic (tabD (T ++ [(s.1, p)]))) hpt'
        generalize put st3 pt (.dic (tabD (T ++ [(s.1, p)]))) = st4 at *
        clear hct hv hgt hps l3 l4 u3
        walk_at "s"
        have hok2 : ∀ r ∈ T ++ [(s.1, p)], nmOk r.1 ∧ TermOk 1000 r.2 := fun r hr => by
          rcases List.mem_append.mp hr with hr | hr
          · exact hok r hr
          · rw [List.mem_singleton.mp hr]; exact ⟨hsm, hpok⟩
        have hks := keys_snoc (r := (s.1, p)) hn hmk
        have hln : (T ++ [(s.1, p)]).length ≤ i + 1 := by rw [List.length_append, List.length_singleton]; omega
        refine ⟨T ++ [(s.1, p)], at_ + p.length, d - 1, some (signD s), some (.tup (p.map signD)), ?_⟩
        and_intros
        all_goals first | rfl | assumption | exact hA | omega
    · rw [fitA, if_pos c] at hf
      generalize hyy : t[at_] = y at *
      rw [hdt] at hf hd2
      have hf : (if some y = some s then fitA T (l.drop (i + 1)) (t.drop (at_ + 1)) else none) = fitA [] l t := hf
      obtain ⟨_, _, hd6⟩ := hd2
      have hh : Hid (Rd (d - 1 + arity s) (l.drop (i + 1)) ∧ Rd (d - 1 + arity y) (t.drop (at_ + 1))) := ⟨hd3, hd6⟩
      clear hd3 hd6 hdl hdt hty hyy hsx hs ie
      refine sSeq_t fun U hU => ?_
      walk_at "i"
      refine oNe_sign htm hsm ?_
      rw [bAt_a]
      by_cases ce : y = s
      · rw [if_pos (by rw [ce])] at hf
        rw [if_neg (by simpa using ce)]
        obtain ⟨hA, hB⟩ : Rd (d - 1 + arity s) (l.drop (i + 1)) ∧ Rd (d - 1 + arity y) (t.drop (at_ + 1)) := hh
        rw [ce] at hB
        walk_at "s"
        rw [sSeq_a, sAug_a rfl]
        walk_at "s"
        refine ⟨T, at_ + 1, d - 1 + arity s, some (signD s), g6, ?_⟩
        and_intros
        all_goals first | rfl | assumption | omega
      · rw [if_neg (fun h => ce (Option.some.inj h))] at hf
        rw [if_pos (by simpa using ce)]
        exact q0 hf.symm
  · rintro env st3 ⟨T, at_, d, g5, g6, rfl, u3, l3, l4, hn, hT, hd1, hd2, hat, hok, hf⟩
    rw [List.length_map] at hT hf
    rw [List.drop_length, fitA] at hf
    clear le2 lt
    walk_at "s"
    refine ⟨pt, T, rfl, l4, by omega, hn, fun st4 u4 => ?_⟩
    have := q st4 (u3.trans u4)
    unfold fitD at this
    rw [← hf] at this
    exact endsOf_i this
end Tk05
end L2.DL

namespace L2.DL
open PySem PySem.Spec PyProof.Rows
local macro_rules | `(tactic| walk_at "s") => `(tactic| try simp only [sqAsg_a, sqDrop_a, sqPar_a, sqPar3_a, sqRet_a, sqNext_a, sqSeq_a, sNext_a, sBreak_a, sCont_a, sDrop_a, sRet_a, sRetN_a, sIf_a, sAsg_a, sPar_a, sPar3_a, mVar_a, vAt_a, mC_a, mBin_a, mTest_a, bAt_a, mAnd_a, mOr_a, mNot_a, mYes_a, mAndV_a, mOrV_a, mNotV_a, mIf_a, mNil_a, mCons_a, mTup_a, mLst_a, mCall_a, mCallK_a, mMeth_a, mSl_a, mNoPart_a, iAt_a, mPart_a, mIsi_b, tysO_some, List.any_cons, List.any_nil, Bool.or_false, Bool.false_or, Bool.or_true, Bool.true_or, Int.natCast_pos, gN_a, gTup_a, gCons_a, gNil_a, gSub_a, sFor_a, mLc_a, mDc_a, wSeq_a, sqO_tup, sqO_str, sqO_ref, wRng1_a, wRng2_b, wRng3_b, wEnum_a, enO_tup, enO_ref, mRev_a, revO_ref, List.getD_cons_zero, List.getD_cons_succ, ite_self, List.set_cons_zero, List.set_cons_succ, List.getElem?_cons_zero, List.getElem?_cons_succ, oAdd_int, oAdd_str, oAdd_tup, oAdd_ref, oSub_int, oMul_int, oDiv_int, oMod_int, oPow_int, oLt_int, oLe_int, oGt_int, oGe_int, oIs_nn, oIs_bn, oIs_in, oIs_sn, oIs_tn, oIs_rn, oIs_bb, oIs_nb, oIs_ib, oIs_sb, oIs_tb, oIs_rb, oIsi_int, oIsi_str, oIsi_bool, oIsi_tuple, oIsi_list, oIsi_dict, tyO_some, tyD_non, tyD_bl, tyD_int, tyD_str, tyD_tup, isi_facts, oEq_int, oNe_int, oEq_str, oNe_str, oSl_tup, oSl_str, oSl_ref, oLen_tup, oLen_str, oLen_ref, oAbs_int, oInt_int, oInt_bl, oMax_int, oMin_int, oTuple_tup, oTuple_ref, oList_tup, oList_str, oList_ref, oIx_tupE, oIx_ref, oAppend_ref, oPop_ref, oExtend_tupE, oSet_ref, isL_ref, isS_str, vO_some, ixO_lst, ixO_dicI, ixO_dicS, ixO_rodI, ixO_rodS, lsO_lst, rdO_lst, rdO_rol, lenO_lst, lenO_dic, lenO_rol, addO_lst, setO_lst, setO_dicI, setO_dicS, atI_zero, atI_one, atI_two, atI_end, startE, wipeE, List.map_cons, List.map_nil, List.length_cons, List.length_nil, List.replicate, List.cons_append, List.nil_append, Nat.reduceAdd, Nat.reduceSub, List.replicate_succ, List.replicate_zero, put_same, Nat.zero_le, Int.reduceLT, Int.reduceLE, Nat.reduceLT, Nat.reduceLeDiff, and_true, true_and, Bool.false_eq_true, ↓reduceIte, Bool.not_true, Bool.not_false, decide_true, decide_false, *])
local macro_rules | `(tactic| walk_at "i") => `(tactic| try simp only [sqIf_a, sqAsg_a, sqDrop_a, sqPar_a, sqPar3_a, sqRet_a, sqNext_a, sqSeq_a, sNext_a, sBreak_a, sCont_a, sDrop_a, sRet_a, sRetN_a, sIf_a, sAsg_a, sPar_a, sPar3_a, mVar_a, vAt_a, mC_a, mBin_a, mTest_a, bAt_a, mAnd_a, mOr_a, mNot_a, mYes_a, mAndV_a, mOrV_a, mNotV_a, mIf_a, mNil_a, mCons_a, mTup_a, mLst_a, mCall_a, mCallK_a, mMeth_a, mSl_a, mNoPart_a, iAt_a, mPart_a, mIsi_b, tysO_some, List.any_cons, List.any_nil, Bool.or_false, Bool.false_or, Bool.or_true, Bool.true_or, Int.natCast_pos, gN_a, gTup_a, gCons_a, gNil_a, gSub_a, sFor_a, mLc_a, mDc_a, wSeq_a, sqO_tup, sqO_str, sqO_ref, wRng1_a, wRng2_b, wRng3_b, wEnum_a, enO_tup, enO_ref, mRev_a, revO_ref, List.getD_cons_zero, List.getD_cons_succ, ite_self, List.set_cons_zero, List.set_cons_succ, List.getElem?_cons_zero, List.getElem?_cons_succ, oAdd_int, oAdd_str, oAdd_tup, oAdd_ref, oSub_int, oMul_int, oDiv_int, oMod_int, oPow_int, oLt_int, oLe_int, oGt_int, oGe_int, oIs_nn, oIs_bn, oIs_in, oIs_sn, oIs_tn, oIs_rn, oIs_bb, oIs_nb, oIs_ib, oIs_sb, oIs_tb, oIs_rb, oIsi_int, oIsi_str, oIsi_bool, oIsi_tuple, oIsi_list, oIsi_dict, tyO_some, tyD_non, tyD_bl, tyD_int, tyD_str, tyD_tup, isi_facts, oEq_int, oNe_int, oEq_str, oNe_str, oSl_tup, oSl_str, oSl_ref, oLen_tup, oLen_str, oLen_ref, oAbs_int, oInt_int, oInt_bl, oMax_int, oMin_int, oTuple_tup, oTuple_ref, oList_tup, oList_str, oList_ref, oIx_tupE, oIx_ref, oAppend_ref, oPop_ref, oExtend_tupE, oSet_ref, isL_ref, isS_str, vO_some, ixO_lst, ixO_dicI, ixO_dicS, ixO_rodI, ixO_rodS, lsO_lst, rdO_lst, rdO_rol, lenO_lst, lenO_dic, lenO_rol, addO_lst, setO_lst, setO_dicI, setO_dicS, atI_zero, atI_one, atI_two, atI_end, startE, wipeE, List.map_cons, List.map_nil, List.length_cons, List.length_nil, List.replicate, List.cons_append, List.nil_append, Nat.reduceAdd, Nat.reduceSub, List.replicate_succ, List.replicate_zero, put_same, Nat.zero_le, Int.reduceLT, Int.reduceLE, Nat.reduceLT, Nat.reduceLeDiff, and_true, true_and, Bool.false_eq_true, ↓reduceIte, Bool.not_true, Bool.not_false, decide_true, decide_false, *])
namespace Tk05
def S_law_some_term : DSp := fun vs st Q => ∃ (n m : Addr) (x y : D) (xs ys : List Str), vs = [.ref n, x, y] ∧ Deal st n m ∧ sq st n m x (xs.map D.str) ∧ sq st n m y (ys.map D.str) ∧
  0 < xs.length ∧ xs.length ≤ 1000 ∧ ys.length ≤ 1000 ∧ (∀ a ∈ xs ++ ys, nmOk a) ∧ ∀ t st', TermOk 24 t → Wf t → Up n m st st' → Q (termD t) st'
/-- _law_some_term(deal, names, letters): 0 deal 1 names 2 letters -/
def t_law_some_term : MS := sRet (mCall S_law_term (mCons (mVar 0) (mCons (mVar 1) (mCons (mVar 2) (mCons (mCall S_law_of (mCons (mVar 0) (mCons (mLst (mCons (mC (.int 1)) (mCons (mC (.int 2)) (mCons (mC (.int 4)) (mCons (mC (.int 8)) (mCons (mC (.int 12)) (mCons (mC (.int 24)) (mCons (mC (.int 24)) (mNil))))))))) (mNil)))) (mNil))))))
theorem kp_law_some_term : Keeps 3 3 S_law_some_term t_law_some_term := by
  refine ⟨fun ds st Q ⟨n, m, x, y, xs, ys, e, _⟩ => by rw [e]; rfl, fun ds st Q ⟨n, m, x, y, xs, ys, e, hd, hx, hy, l0, l1, l2, hok, q⟩ => ?_⟩
  subst e
  have z7 : 0 + 1 + 1 + 1 + 1 + 1 + 1 + 1 ≤ sizeLine := by decide
  unfold t_law_some_term
  walk_at "s"
  intro p hp
  obtain ⟨pn, pm⟩ := hp.deal hd
  refine ⟨n, m, .ref p, _, rfl, hd.put pn pm, ⟨pn, pm, put_same⟩, by simp, by simp, fun d st2 hdm u2 => ?_⟩
  have u3 := (Up.of hd (Keep.put hp)).trans u2
  obtain ⟨k, rfl, k0, k1⟩ : ∃ k : Nat, d = .int k ∧ 0 < k ∧ k ≤ 24 := by
    simp only [List.mem_cons, List.not_mem_nil, or_false] at hdm
    rcases hdm with rfl | rfl | rfl | rfl | rfl | rfl | rfl
    · exact ⟨1, rfl, by omega, by omega⟩
    · exact ⟨2, rfl, by omega, by omega⟩
    · exact ⟨4, rfl, by omega, by omega⟩
    · exact ⟨8, rfl, by omega, by omega⟩
    · exact ⟨12, rfl, by omega, by omega⟩
    · exact ⟨24, rfl, by omega, by omega⟩
    · exact ⟨24, rfl, by omega, by omega⟩
  exact ⟨n, m, x, y, xs, ys, k, rfl, u3.deal, hx.up u3, hy.up u3, l0, l1, l2, hok, k0, by omega, fun t st4 ht hw u4 => endsOf_i (q t st4 ⟨by have := ht.1; omega, ht.2⟩ hw (u3.trans u4))⟩
/-- leaves, one behind another -/
theorem rd_leaves : ∀ {l : Term}, (∀ s ∈ l, -1 ≤ s.2 ∧ arity s = 0) → Rd l.length l
  | [], _ => rfl
  | s :: l, h => by
    have h1 := h s (List.mem_cons_self ..)
    refine ⟨by simp, h1.1, ?_⟩
    rw [h1.2, List.length_cons, Nat.add_sub_cancel, Nat.add_zero]
    exact rd_leaves fun x hx => h x (List.mem_cons_of_mem _ hx)
theorem rd_chain : ∀ {l : Term} {b : Term}, (∀ s ∈ l, -1 ≤ s.2 ∧ arity s = 1) → Wf b → Wf (l ++ b)
  | [], _, _, h => h
  | s :: l, b, h, hb => by
    have h1 := h s (List.mem_cons_self ..)
    refine ⟨by omega, h1.1, ?_⟩
    rw [h1.2]
    exact rd_chain (fun x hx => h x (List.mem_cons_of_mem _ hx)) hb
theorem fm_gen {α : Type} {P : α → Prop} {g : α → D} {xs ys : List D} (h : Fm (fun _ o => ∃ s, o = some (g s) ∧ P s) xs ys) : ∃ cs : List α, ys = cs.map g ∧ cs.length = xs.length ∧ ∀ s ∈ cs, P s := by
  induction h with
  | nil => exact ⟨[], rfl, rfl, fun _ h => by cases h⟩
  | yes a _ ih =>
    obtain ⟨cs, rfl, h1, h2⟩ := ih
    obtain ⟨s, e, p⟩ := a
    cases e
    refine ⟨s :: cs, rfl, by simp [h1], fun t ht => ?_⟩
    rcases List.mem_cons.mp ht with rfl | ht
    · exact p
    · exact h2 t ht
  | no a _ _ =>
    obtain ⟨s, e, _⟩ := a
    cases e
def S_law_shaped : DSp := fun vs st Q => ∃ (n m b c : Addr) (xs ys : List Str), vs = [.ref n, .ref b, .ref c] ∧ Deal st n m ∧ sq st n m (.ref b) (xs.map D.str) ∧ sq st n m (.ref c) (ys.map D.str) ∧
  0 < xs.length ∧ xs.length ≤ 1000 ∧ 0 < ys.length ∧ ys.length ≤ 1000 ∧ (∀ a ∈ xs ++ ys, nmOk a) ∧ ∀ t st', TermOk 24 t → Wf t → Up n m st st' → Q (termD t) st'
/-- _law_shaped(deal, names, letters): 0 deal 1 names 2 letters 3 sort 4 size 5 last 6 turn -/
def t_law_shaped : MS := sSeq (sPar 3 4 (mCons (mCall S_law_any (mCons (mVar 0) (mCons (mC (.int 8)) (mNil)))) (mCons (mCall S_law_of (mCons (mVar 0) (mCons (mLst (mCons (mC (.int 2)) (mCons (mC (.int 5)) (mCons (mC (.int 12)) (mCons (mC (.int 23)) (mCons (mC (.int 24)) (mNil))))))) (mNil)))) (mNil))))
    (sSeq (sAsg (mIf (mTest (mBin oEq (mCall S_law_any (mCons (mVar 0) (mCons (mC (.int 2)) (mNil)))) (mC (.int 0)))) (mTup (mCons (mCall S_law_of (mCons (mVar 0) (mCons (mVar 2) (mNil)))) (mCons (mBin oSub (mC (.int 0)) (mC (.int 1))) (mNil)))) (mTup (mCons (mCall S_law_of (mCons (mVar 0) (mCons (mVar 1) (mNil)))) (mCons (mC (.int 0)) (mNil))))) (gN 5))
    (sSeq (sIf (mTest (mBin oEq (mVar 3) (mC (.int 0)))) (sRet (mBin oAdd (mCall oTuple (mCons (mLc (wRng1 (mBin oSub (mVar 4) (mC (.int 1)))) (gN 6) (mYes) (mTup (mCons (mCall S_law_of (mCons (mVar 0) (mCons (mVar 1) (mNil)))) (mCons (mC (.int 1)) (mNil)))) [6]) (mNil))) (mTup (mCons (mVar 5) (mNil))))) (sNext))
    (sSeq (sIf (mTest (mBin oEq (mVar 3) (mC (.int 1)))) (sRet (mBin oAdd (mTup (mCons (mTup (mCons (mCall S_law_of (mCons (mVar 0) (mCons (mVar 1) (mNil)))) (mCons (mBin oSub (mVar 4) (mC (.int 1))) (mNil)))) (mNil))) (mCall oTuple (mCons (mLc (wRng1 (mBin oSub (mVar 4) (mC (.int 1)))) (gN 6) (mYes) (mCall S_law_of (mCons (mVar 0) (mCons (mLst (mCons (mVar 5) (mCons (mTup (mCons (mCall S_law_of (mCons (mVar 0) (mCons (mVar 2) (mNil)))) (mCons (mBin oSub (mC (.int 0)) (mC (.int 1))) (mNil)))) (mCons (mTup (mCons (mBin oIx (mVar 1) (mC (.int 0))) (mCons (mC (.int 0)) (mNil)))) (mNil))))) (mNil)))) [6]) (mNil))))) (sNext))
    (sRet (mCall S_law_some_term (mCons (mVar 0) (mCons (mVar 1) (mCons (mVar 2) (mNil)))))))))
theorem kp_law_shaped : Keeps 3 7 S_law_shaped t_law_shaped := by
  refine ⟨fun ds st Q ⟨n, m, b, c, xs, ys, e, _⟩ => by rw [e]; rfl, fun ds st Q ⟨n, m, b, c, xs, ys, e, hd, hx, hy, l0, l1, y0, l2, hok, q⟩ => ?_⟩
  subst e
  have z5 : 0 + 1 + 1 + 1 + 1 + 1 ≤ sizeLine := by decide
  have z3 : 0 + 1 + 1 + 1 ≤ sizeLine := by decide
  have z2 : 0 + 1 + 1 ≤ sizeLine := by decide
  have z1 : 0 + 1 ≤ sizeLine := by decide
  unfold t_law_shaped
  refine sSeq_t fun T hT => ?_
  walk_at "s"
  refine ⟨n, m, 8, rfl, hd, by omega, by omega, fun sort st1 _ _ u1 => ?_⟩
  intro p hp
  obtain ⟨pn, pm⟩ := hp.deal u1.deal
  refine ⟨n, m, .ref p, _, rfl, u1.deal.put pn pm, ⟨pn, pm, put_same⟩, by simp, by simp, fun d st2 hdm u2 => ?_⟩
  have v := (u1.then (Keep.put hp)).trans u2
  clear hp u1 u2
  obtain ⟨k, rfl, k0, k1⟩ : ∃ k : Nat, d = .int k ∧ 2 ≤ k ∧ k ≤ 24 := by
    simp only [List.mem_cons, List.not_mem_nil, or_false] at hdm
    rcases hdm with rfl | rfl | rfl | rfl | rfl
    · exact ⟨2, rfl, by omega, by omega⟩
    · exact ⟨5, rfl, by omega, by omega⟩
    · exact ⟨12, rfl, by omega, by omega⟩
    · exact ⟨23, rfl, by omega, by omega⟩
    · exact ⟨24, rfl, by omega, by omega⟩
  clear hdm
  subst hT
  refine sSeq_i (fun env st' => ∃ last : Sign, env = [some (.ref n), some (.ref b), some (.ref c), some (.int sort), some (.int (k : Nat)), some (signD last), none] ∧ nmOk last.1 ∧ -1 ≤ last.2 ∧ arity last = 0 ∧ Up n m st st') (fun nx hnx => ?_) ?_
  · walk_at "s"
    refine ⟨n, m, 2, rfl, v.deal, by omega, by omega, fun w st3 _ _ u3 => ?_⟩
    have v3 := v.trans u3
    clear v u3
    walk_at "s"
    by_cases hw : w = 0
    · rw [if_pos (by simpa using hw)]
      refine ⟨n, m, .ref c, _, rfl, v3.deal, hy.up v3, by rw [List.length_map]; omega, by rw [List.length_map]; omega, fun d st4 hd4 u4 => ?_⟩
      obtain ⟨a, ha, rfl⟩ := List.mem_map.mp hd4
      exact hnx _ _ ⟨(a, -1), rfl, hok a (List.mem_append_right _ ha), by omega, rfl, v3.trans u4⟩
    · rw [if_neg (by simpa using hw)]
      refine ⟨n, m, .ref b, _, rfl, v3.deal, hx.up v3, by rw [List.length_map]; omega, by rw [List.length_map]; omega, fun d st4 hd4 u4 => ?_⟩
      obtain ⟨a, ha, rfl⟩ := List.mem_map.mp hd4
      exact hnx _ _ ⟨(a, 0), rfl, hok a (List.mem_append_left _ ha), by show (-1 : Int) ≤ 0; omega, rfl, v3.trans u4⟩
  · rintro env st3 ⟨last, rfl, hn, h1, h0, v3⟩
    clear v
    by_cases s0 : sort = 0
    · refine sSeq_t fun T hT => ?_
      walk_at "i"
      clear hT T
      refine ⟨by omega, lc_up (n := n) (m := m) (fun _ o => ∃ s : Sign, o = some (signD s) ∧ nmOk s.1 ∧ -1 ≤ s.2 ∧ arity s = 1) v3.deal (fun _ _ => trivial) (by rw [rangeD_len, szL]; omega) (fun y hy7 st7 u7 P N hP hN => ?_) fun p3 cs st6 hp3 hF u3 lp3 => ?_⟩
      · clear hN hy7
        walk_at "s"
        refine ⟨n, m, .ref b, _, rfl, u7.deal, hx.up (v3.trans u7), by rw [List.length_map]; omega, by rw [List.length_map]; omega, fun d st8 hd8 u8 => ?_⟩
        obtain ⟨a, ha, rfl⟩ := List.mem_map.mp hd8
        exact hP _ st8 ⟨(a, 1), rfl, hok a (List.mem_append_left _ ha), by show (-1 : Int) ≤ 1; omega, rfl⟩ u8
      · obtain ⟨cs, rfl, hl, hc⟩ := fm_gen hF
        rw [rangeD_len] at hl
        have hs : (cs.map signD).length + (0 + 1) ≤ sizeLine := by rw [List.length_map, hl, szL]; omega
        walk_at "s"
        have e : D.tup (cs.map signD ++ [signD last]) = termD (cs ++ [last]) := by unfold termD; rw [List.map_append]; rfl
        rw [e]
        refine endsOf_i (q (cs ++ [last]) st6 ⟨by rw [List.length_append, hl, List.length_singleton]; omega, fun s hs => ?_⟩ (rd_chain (fun s hs => (hc s hs).2) ⟨by omega, h1, by rw [h0]; rfl⟩) (v3.trans u3))
        rcases List.mem_append.mp hs with hs | hs
        · exact (hc s hs).1
        · rw [List.mem_singleton.mp hs]; exact hn
    · refine sSeq_t fun T hT => ?_
      walk_at "i"
      subst hT
      by_cases s1 : sort = 1
      · refine sSeq_t fun T hT => ?_
        have hx3 := hx.up v3
        walk_at "i"
        clear hT T
        refine ⟨n, m, .ref b, _, rfl, v3.deal, hx3, by rw [List.length_map]; omega, by rw [List.length_map]; omega, fun d st4 hd4 u4 => ?_⟩
        obtain ⟨a, ha, rfl⟩ := List.mem_map.mp hd4
        have v4 := v3.trans u4
        clear v3 u4 hx3 hd4
        walk_at "s"
        refine ⟨by omega, lc_up (n := n) (m := m) (fun _ o => ∃ s : Sign, o = some (signD s) ∧ nmOk s.1 ∧ -1 ≤ s.2 ∧ arity s = 0) v4.deal (fun _ _ => trivial) (by rw [rangeD_len, szL]; omega) (fun y hy7 st7 u7 P N hP hN => ?_) fun p3 cs st6 hp3 hF u3 lp3 => ?_⟩
        · clear hN hy7
          have hx7 := hx.up (v4.trans u7)
          have lb := hx7.2.2
          walk_at "s"
          refine ⟨n, m, .ref c, _, rfl, u7.deal, hy.up (v4.trans u7), by rw [List.length_map]; omega, by rw [List.length_map]; omega, fun d st8 hd8 u8 => ?_⟩
          obtain ⟨a2, ha2, rfl⟩ := List.mem_map.mp hd8
          have lb8 := (hx7.up u8).2.2
          obtain ⟨x0, xr, rfl⟩ : ∃ x0 xr, xs = x0 :: xr := by cases xs with
            | nil => simp at l0
            | cons x0 xr => exact ⟨x0, xr, rfl⟩
          clear lb hx7
          walk_at "s"
          intro p5 hp5
          obtain ⟨pn5, pm5⟩ := hp5.deal u8.deal
          refine ⟨n, m, .ref p5, _, rfl, u8.deal.put pn5 pm5, ⟨pn5, pm5, put_same⟩, by simp, by simp, fun d st9 hd9 u9 => ?_⟩
          have u10 := (u8.then (Keep.put hp5)).trans u9
          have hx0 := hok x0 (by simp)
          have ha2' := hok a2 (List.mem_append_right _ ha2)
          simp only [List.mem_cons, List.not_mem_nil, or_false] at hd9
          rcases hd9 with rfl | rfl | rfl
          · exact hP _ st9 ⟨last, rfl, hn, h1, h0⟩ u10
          · exact hP _ st9 ⟨(a2, -1), rfl, ha2', by omega, rfl⟩ u10
          · exact hP _ st9 ⟨(x0, 0), rfl, hx0, by show (-1 : Int) ≤ 0; omega, rfl⟩ u10
        · obtain ⟨cs, rfl, hl, hc⟩ := fm_gen hF
          rw [rangeD_len] at hl
          have hs : 0 + 1 + (cs.map signD).length ≤ sizeLine := by rw [List.length_map, hl, szL]; omega
          walk_at "s"
          have e : D.tup (.tup [.str a, .int ((k : Int) - 1)] :: cs.map signD) = termD ((a, (k : Int) - 1) :: cs) := rfl
          rw [e]
          have hak : arity (a, (k : Int) - 1) = cs.length := by
            unfold arity
            rw [if_neg (by show ¬ ((k : Int) - 1 = -1); omega), hl]
          refine endsOf_i (q _ st6 ⟨by rw [List.length_cons, hl]; omega, fun s hs => ?_⟩ ⟨by omega, by show (-1 : Int) ≤ (k : Int) - 1; omega, ?_⟩ (v4.trans u3))
          · rcases List.mem_cons.mp hs with rfl | hs
            · exact hok a (List.mem_append_left _ ha)
            · exact (hc s hs).1
          · rw [hak]
            simpa using rd_leaves fun s hs => (hc s hs).2
      · refine sSeq_t fun T hT => ?_
        walk_at "i"
        subst hT
        walk_at "s"
        exact ⟨n, m, .ref b, .ref c, xs, ys, rfl, v3.deal, hx.up v3, hy.up v3, l0, l1, l2, hok, fun t st4 ht hw u4 => endsOf_i (q t st4 ht hw (v3.trans u4))⟩
end Tk05
end L2.DL

namespace L2.DL
open PySem PySem.Spec PyProof.Rows
local macro_rules | `(tactic| walk_at "s") => `(tactic| try simp only [sqAsg_a, sqDrop_a, sqPar_a, sqPar3_a, sqRet_a, sqNext_a, sqSeq_a, sNext_a, sBreak_a, sCont_a, sDrop_a, sRet_a, sRetN_a, sIf_a, sAsg_a, sPar_a, sPar3_a, mVar_a, vAt_a, mC_a, mBin_a, mTest_a, bAt_a, mAnd_a, mOr_a, mNot_a, mYes_a, mAndV_a, mOrV_a, mNotV_a, mIf_a, mNil_a, mCons_a, mTup_a, mLst_a, mCall_a, mCallK_a, mMeth_a, mSl_a, mNoPart_a, iAt_a, mPart_a, mIsi_b, tysO_some, List.any_cons, List.any_nil, Bool.or_false, Bool.false_or, Bool.or_true, Bool.true_or, Int.natCast_pos, gN_a, gTup_a, gCons_a, gNil_a, gSub_a, sFor_a, mLc_a, mDc_a, wSeq_a, sqO_tup, sqO_str, sqO_ref, wRng1_a, wRng2_b, wRng3_b, wEnum_a, enO_tup, enO_ref, mRev_a, revO_ref, List.getD_cons_zero, List.getD_cons_succ, ite_self, List.set_cons_zero, List.set_cons_succ, List.getElem?_cons_zero, List.getElem?_cons_succ, oAdd_int, oAdd_str, oAdd_tup, oAdd_ref, oSub_int, oMul_int, oDiv_int, oMod_int, oPow_int, oLt_int, oLe_int, oGt_int, oGe_int, oIs_nn, oIs_bn, oIs_in, oIs_sn, oIs_tn, oIs_rn, oIs_bb, oIs_nb, oIs_ib, oIs_sb, oIs_tb, oIs_rb, oIsi_int, oIsi_str, oIsi_bool, oIsi_tuple, oIsi_list, oIsi_dict, tyO_some, tyD_non, tyD_bl, tyD_int, tyD_str, tyD_tup, isi_facts, oEq_int, oNe_int, oEq_str, oNe_str, oSl_tup, oSl_str, oSl_ref, oLen_tup, oLen_str, oLen_ref, oAbs_int, oInt_int, oInt_bl, oMax_int, oMin_int, oTuple_tup, oTuple_ref, oList_tup, oList_str, oList_ref, oIx_tupE, oIx_ref, oAppend_ref, oPop_ref, oExtend_tupE, oSet_ref, isL_ref, isS_str, vO_some, ixO_lst, ixO_dicI, ixO_dicS, ixO_rodI, ixO_rodS, lsO_lst, rdO_lst, rdO_rol, lenO_lst, lenO_dic, lenO_rol, addO_lst, setO_lst, setO_dicI, setO_dicS, atI_zero, atI_one, atI_two, atI_end, startE, wipeE, List.map_cons, List.map_nil, List.length_cons, List.length_nil, List.replicate, List.cons_append, List.nil_append, Nat.reduceAdd, Nat.reduceSub, List.replicate_succ, List.replicate_zero, put_same, Nat.zero_le, Int.reduceLT, Int.reduceLE, Nat.reduceLT, Nat.reduceLeDiff, and_true, true_and, Bool.false_eq_true, ↓reduceIte, Bool.not_true, Bool.not_false, decide_true, decide_false, *])
local macro_rules | `(tactic| walk_at "i") => `(tactic| try simp only [sqIf_a, sqAsg_a, sqDrop_a, sqPar_a, sqPar3_a, sqRet_a, sqNext_a, sqSeq_a, sNext_a, sBreak_a, sCont_a, sDrop_a, sRet_a, sRetN_a, sIf_a, sAsg_a, sPar_a, sPar3_a, mVar_a, vAt_a, mC_a, mBin_a, mTest_a, bAt_a, mAnd_a, mOr_a, mNot_a, mYes_a, mAndV_a, mOrV_a, mNotV_a, mIf_a, mNil_a, mCons_a, mTup_a, mLst_a, mCall_a, mCallK_a, mMeth_a, mSl_a, mNoPart_a, iAt_a, mPart_a, mIsi_b, tysO_some, List.any_cons, List.any_nil, Bool.or_false, Bool.false_or, Bool.or_true, Bool.true_or, Int.natCast_pos, gN_a, gTup_a, gCons_a, gNil_a, gSub_a, sFor_a, mLc_a, mDc_a, wSeq_a, sqO_tup, sqO_str, sqO_ref, wRng1_a, wRng2_b, wRng3_b, wEnum_a, enO_tup, enO_ref, mRev_a, revO_ref, List.getD_cons_zero, List.getD_cons_succ, ite_self, List.set_cons_zero, List.set_cons_succ, List.getElem?_cons_zero, List.getElem?_cons_succ, oAdd_int, oAdd_str, oAdd_tup, oAdd_ref, oSub_int, oMul_int, oDiv_int, oMod_int, oPow_int, oLt_int, oLe_int, oGt_int, oGe_int, oIs_nn, oIs_bn, oIs_in, oIs_sn, oIs_tn, oIs_rn, oIs_bb, oIs_nb, oIs_ib, oIs_sb, oIs_tb, oIs_rb, oIsi_int, oIsi_str, oIsi_bool, oIsi_tuple, oIsi_list, oIsi_dict, tyO_some, tyD_non, tyD_bl, tyD_int, tyD_str, tyD_tup, isi_facts, oEq_int, oNe_int, oEq_str, oNe_str, oSl_tup, oSl_str, oSl_ref, oLen_tup, oLen_str, oLen_ref, oAbs_int, oInt_int, oInt_bl, oMax_int, oMin_int, oTuple_tup, oTuple_ref, oList_tup, oList_str, oList_ref, oIx_tupE, oIx_ref, oAppend_ref, oPop_ref, oExtend_tupE, oSet_ref, isL_ref, isS_str, vO_some, ixO_lst, ixO_dicI, ixO_dicS, ixO_rodI, ixO_rodS, lsO_lst, rdO_lst, rdO_rol, lenO_lst, lenO_dic, lenO_rol, addO_lst, setO_lst, setO_dicI, setO_dicS, atI_zero, atI_one, atI_two, atI_end, startE, wipeE, List.map_cons, List.map_nil, List.length_cons, List.length_nil, List.replicate, List.cons_append, List.nil_append, Nat.reduceAdd, Nat.reduceSub, List.replicate_succ, List.replicate_zero, put_same, Nat.zero_le, Int.reduceLT, Int.reduceLE, Nat.reduceLT, Nat.reduceLeDiff, and_true, true_and, Bool.false_eq_true, ↓reduceIte, Bool.not_true, Bool.not_false, decide_true, decide_false, *])
namespace Tk05
def S_law_many : DSp := fun vs st Q => ∃ s : Sign, vs = [signD s] ∧ -1 ≤ s.2 ∧ ∀ st', Keep st st' → Q (.int (arity s : Nat)) st'
/-- _law_many(sign): 0 sign -/
def t_law_many : MS := sRet (mCall oMax (mCons (mC (.int 0)) (mCons (mBin oIx (mVar 0) (mC (.int 1))) (mNil))))
theorem kp_law_many : Keeps 1 1 S_law_many t_law_many := by
  refine ⟨fun ds st Q ⟨s, e, _⟩ => by rw [e]; rfl, fun ds st Q ⟨s, e, h, q⟩ => ?_⟩
  subst e
  have q1 := q st .refl
  have e2 : (if s.2 > 0 then s.2 else 0) = ((arity s : Nat) : Int) := by
    unfold arity
    by_cases c : s.2 = -1
    · rw [if_pos c, if_neg (by omega)]; rfl
    · rw [if_neg c]
      split <;> omega
  clear q
  have e1 := fun Q => sign_ix1 (s := s) (st := st) (Q := Q)
  unfold t_law_many
  walk_at "s"
  exact endsOf_i q1
def spansL (t : Term) : List Term := (List.range t.length).map fun i => prt (t.drop i)
theorem spansL_get {t : Term} {i : Nat} (h : i < t.length) : (spansL t)[i]? = some (prt (t.drop i)) := by
  unfold spansL
  rw [List.getElem?_map, List.getElem?_range h]
  rfl
theorem spansL_len (t : Term) : (spansL t).length = t.length := by simp [spansL]
def S_law_spans : DSp := fun vs st Q => ∃ t : Term, vs = [termD t] ∧ TermOk 1000 t ∧ Wf t ∧ ∀ p st', Nf st p → Keep st st' → st' p = some (.lst ((spansL t).map termD)) → Q (.ref p) st'
/-- _law_spans(term): 0 term 1 found 2 behind 3 at 4 sign 5 part 6 number -/
def t_law_spans : MS := sSeq (sPar 1 2 (mCons (mLst (mNil)) (mCons (mLst (mNil)) (mNil))))
    (sSeq (sFor (wRng1 (mCall oLen (mCons (mVar 0) (mNil)))) (gN 3) (sSeq (sAsg (mBin oIx (mVar 0) (mBin oSub (mBin oSub (mCall oLen (mCons (mVar 0) (mNil))) (mC (.int 1))) (mVar 3))) (gN 4))
    (sSeq (sAsg (mTup (mCons (mVar 4) (mNil))) (gN 5))
    (sSeq (sFor (wRng1 (mCall S_law_many (mCons (mVar 4) (mNil)))) (gN 6) (sAsg (mBin oAdd (mVar 5) (mMeth isL oPop (mVar 2) mNil)) (gN 5)))
    (sSeq (sDrop (mMeth isL oAppend (mVar 2) (mCons (mVar 5) (mNil))))
    (sDrop (mMeth isL oAppend (mVar 1) (mCons (mVar 5) (mNil)))))))))
    (sRet (mRev (mVar 1))))
theorem flat_len {t : Term} (j : Nat) (m : Nat) : ((cuts (t.drop j)).take m).flatten.length ≤ t.length - j := by
  have h := cuts_flat (t.drop j)
  have h2 := congrArg List.length h
  rw [← List.take_append_drop m (cuts (t.drop j)), List.flatten_append, List.length_append, List.length_drop] at h2
  omega
theorem kp_law_spans : Keeps 1 7 S_law_spans t_law_spans := by
  refine ⟨fun ds st Q ⟨s, e, _⟩ => by rw [e]; rfl, fun ds st Q ⟨t, e, ht, hw, q⟩ => ?_⟩
  subst e
  have z0 : 0 ≤ sizeLine := by decide
  have z1 : 0 + 1 ≤ sizeLine := by decide
  have hl := ht.1
  unfold t_law_spans
  refine sSeq_t fun T hT => ?_
  unfold termD
  walk_at "s"
  intro p1 hp1 p2 hp2
  have n12 : p2 ≠ p1 := hp2.ne put_same
  have l1 : put (put st p1 (.lst [])) p2 (.lst []) p1 = some (.lst []) := by rw [put_ne n12.symm]; exact put_same
  have l2 : put (put st p1 (.lst [])) p2 (.lst []) p2 = some (.lst []) := put_same
  have u2 := (Keep.put (o := .lst []) hp1).new (o := .lst []) hp2
  have hp2' := hp2.backK (Keep.put hp1)
  generalize put (put st p1 (.lst [])) p2 (.lst []) = st2 at *
  clear hp2
  subst hT
  refine sSeq_i (fun env st' => ∃ g2 g3 g4 g5 g6, env = [some (.tup (t.map signD)), some (.ref p1), g2, g3, g4, g5, g6] ∧ Keep st st' ∧ st' p1 = some (.lst ((spansL t).reverse.map termD))) (fun nx hnx => ?_) ?_
  · walk_at "s"
    rw [List.length_map]
    refine ⟨by omega, fun k env st' => ∃ g3 g4 g5 g6, env = [some (.tup (t.map signD)), some (.ref p1), some (.ref p2), g3, g4, g5, g6] ∧ Keep st st' ∧ st' p1 = some (.lst (((spansL t).drop (t.length - k)).reverse.map termD)) ∧ st' p2 = some (.lst ((cuts (t.drop (t.length - k))).reverse.map termD)), ⟨none, none, none, none, rfl, u2, ?_, ?_⟩, fun _ _ _ _ _ => trivial, ?_, ?_⟩
    · rw [l1, Nat.sub_zero, List.drop_of_length_le (by rw [spansL_len]; omega)]
      rfl
    · rw [l2, Nat.sub_zero, List.drop_length]
      rfl
    · rintro k x env st3 hx ⟨g3, g4, g5, g6, rfl, u3, l3, l4⟩
      obtain ⟨hk, rfl⟩ := rangeD_get hx
      rw [Int.toNat_natCast] at hk
      clear hnx q l1 l2 u2 hx
      obtain ⟨j, hj⟩ : ∃ j, t.length - k - 1 = j := ⟨_, rfl⟩
      have hi : t.length - k = j + 1 := by omega
      have hi2 : t.length - (k + 1) = j := by omega
      rw [hi] at l3 l4
      simp only [hi2]
      have hjl : j < t.length := by omega
      have hs := List.getElem?_eq_getElem hjl
      have hd := List.drop_eq_getElem_cons hjl
      have hsm := ht.2 _ (List.getElem_mem hjl)
      generalize t[j] = s at *
      obtain ⟨e, hrd⟩ := wf_drop hw j
      rw [hd] at hrd
      obtain ⟨h1, h2, h3⟩ := hrd
      have hcl := (Rd.cuts h3).1
      have hcl2 := cuts_len (t.drop (j + 1))
      rw [List.length_drop] at hcl2
      have hfl := fun m => flat_len (t := t) (j + 1) m
      have hprt : prt (t.drop j) = s :: ((cuts (t.drop (j + 1))).take (arity s)).flatten := by unfold prt; rw [hd, cuts]; rfl
      have hcut : cuts (t.drop j) = prt (t.drop j) :: (cuts (t.drop (j + 1))).drop (arity s) := by rw [hprt, hd, cuts]
      have hsp : (spansL t).drop j = prt (t.drop j) :: (spansL t).drop (j + 1) := by
        have hjl' : j < (spansL t).length := by rw [spansL_len]; exact hjl
        rw [List.drop_eq_getElem_cons hjl']
        have := spansL_get hjl
        rw [List.getElem?_eq_getElem hjl'] at this
        rw [Option.some.inj this]
      generalize cuts (t.drop (j + 1)) = cs at *
      have hh : Hid (prt (t.drop j) = s :: (cs.take (arity s)).flatten ∧ cuts (t.drop j) = prt (t.drop j) :: cs.drop (arity s) ∧ (spansL t).drop j = prt (t.drop j) :: (spansL t).drop (j + 1)) := ⟨hprt, hcut, hsp⟩
      have a1 : atI (t.map signD) (((t.map signD).length : Int) - 1 - (0 + (k : Int))) = some (signD s) := by
        rw [List.length_map, show (t.length : Int) - 1 - (0 + (k : Int)) = ((j : Nat) : Int) by omega, atI_ofNat, List.getElem?_map, hs]; rfl
      clear hprt hcut hd hsp hs
      rw [gN_a]
      refine sSeq_t fun T hT => ?_
      walk_at "s"
      subst hT
      refine sSeq_t fun T hT => ?_
      walk_at "s"
      subst hT
      refine sSeq_i (fun env st' => ∃ g6, env = [some (.tup (t.map signD)), some (.ref p1), some (.ref p2), some (.int (0 + (k : Int))), some (signD s), some (.tup ((s :: (cs.take (arity s)).flatten).map signD)), g6] ∧ Keep st st' ∧ st' p1 = some (.lst (((spansL t).drop (j + 1)).reverse.map termD)) ∧ st' p2 = some (.lst ((cs.drop (arity s)).reverse.map termD))) (fun nx2 hnx2 => ?_) ?_
      · walk_at "s"
        refine ⟨s, rfl, h2, fun st4 u4 => ?_⟩
        have l5 := u4.l l3
        have l6 := u4.l l4
        have u5 := u3.trans u4
        clear l3 l4 u3 u4
        walk_at "s"
        refine ⟨by omega, fun m env st' => ∃ g6, env = [some (.tup (t.map signD)), some (.ref p1), some (.ref p2), some (.int (0 + (k : Int))), some (signD s), some (.tup ((s :: (cs.take m).flatten).map signD)), g6] ∧ Keep st st' ∧ st' p1 = some (.lst (((spansL t).drop (j + 1)).reverse.map termD)) ∧ st' p2 = some (.lst ((cs.drop m).reverse.map termD)), ⟨g6, by simp, u5, l5, by rw [l6, List.drop_zero]⟩, fun _ _ _ _ _ => trivial, ?_, ?_⟩
        · rintro m x env st5 hx ⟨g6, rfl, u6, l7, l8⟩
          obtain ⟨hm, rfl⟩ := rangeD_get hx
          rw [Int.toNat_natCast] at hm
          clear hnx2 hx l5 l6 u5
          have hmc : m < cs.length := by omega
          have hdm := List.drop_eq_getElem_cons hmc
          have htm : (cs.take (m + 1)).flatten = (cs.take m).flatten ++ cs[m] := by rw [take_snoc (List.getElem?_eq_getElem hmc), List.flatten_append]; simp
          have hf2 := hfl (m + 1)
          simp only [htm]
          rw [htm, List.length_append] at hf2
          generalize cs[m] = c at *
          rw [hdm, List.reverse_cons, List.map_append] at l8
          have gl : ((cs.drop (m + 1)).reverse.map termD ++ [termD c]).getLast? = some (.tup (c.map signD)) := by simp [termD]
          have dl : ((cs.drop (m + 1)).reverse.map termD ++ [termD c]).dropLast = (cs.drop (m + 1)).reverse.map termD := by simp
          have hz : (signD s :: (cs.take m).flatten.map signD).length + (c.map signD).length ≤ sizeLine := by rw [List.length_cons, List.length_map, List.length_map, szL]; omega
          have hz2 : (List.map signD (List.take m cs).flatten).length + 1 + (c.map signD).length ≤ sizeLine := by rw [List.length_map, List.length_map, szL]; omega
          clear hdm htm hf2 hfl
          walk_at "s"
          refine ⟨some (.int (0 + (m : Int))), ?_, u6.mut hp2', by rw [put_ne n12.symm]; exact l7⟩
          rw [List.map_append]
        · rintro env st5 ⟨g6, rfl, u6, l7, l8⟩
          rw [rangeD_len, Int.toNat_natCast] at l8 ⊢
          exact hnx2 _ _ ⟨g6, rfl, u6, l7, l8⟩
      · rintro env st4 ⟨g6, rfl, u4, l5, l6⟩
        clear l3 l4 u3
        obtain ⟨hprt, hcut, hsp⟩ : prt (t.drop j) = s :: (cs.take (arity s)).flatten ∧ cuts (t.drop j) = prt (t.drop j) :: cs.drop (arity s) ∧ (spansL t).drop j = prt (t.drop j) :: (spansL t).drop (j + 1) := hh
        rw [← hprt]
        have hz : ((cs.drop (arity s)).reverse.map termD).length < sizeLine := by
          rw [List.length_map, List.length_reverse, List.length_drop, szL]
          omega
        have hz2 : (((spansL t).drop (j + 1)).reverse.map termD).length < sizeLine := by
          rw [List.length_map, List.length_reverse, List.length_drop, spansL_len, szL]
          omega
        have hc2 : (cuts (t.drop j)).reverse.map termD = (cs.drop (arity s)).reverse.map termD ++ [.tup ((prt (t.drop j)).map signD)] := by rw [hcut, List.reverse_cons, List.map_append]; rfl
        have hs2 : ((spansL t).drop j).reverse.map termD = ((spansL t).drop (j + 1)).reverse.map termD ++ [.tup ((prt (t.drop j)).map signD)] := by rw [hsp, List.reverse_cons, List.map_append]; rfl
        simp only [hc2, hs2]
        generalize (prt (t.drop j)) = P at *
        clear hprt hcut hsp hcl hcl2 h3 hc2 hs2
        refine sSeq_t fun T hT => ?_
        walk_at "s"
        have l7 : put st4 p2 (.lst ((cs.drop (arity s)).reverse.map termD ++ [.tup (P.map signD)])) p1 = some (.lst (((spansL t).drop (j + 1)).reverse.map termD)) := by rw [put_ne n12.symm]; exact l5
        have l8 : put st4 p2 (.lst ((cs.drop (arity s)).reverse.map termD ++ [.tup (P.map signD)])) p2 = some (.lst ((cs.drop (arity s)).reverse.map termD ++ [.tup (P.map signD)])) := put_same
        have u5 := u4.mut (o := .lst ((cs.drop (arity s)).reverse.map termD ++ [.tup (P.map signD)])) hp2'
        generalize put st4 p2 (.lst ((cs.drop (arity s)).reverse.map termD ++ [.tup (P.map signD)])) = st5 at *
        clear l5 l6 u4
        subst hT
        walk_at "s"
        exact ⟨_, _, _, _, rfl, u5.mut hp1, by rw [put_ne n12]; exact l8⟩
    · rintro env st3 ⟨g3, g4, g5, g6, rfl, u3, l3, l4⟩
      rw [rangeD_len, Int.toNat_natCast, Nat.sub_self] at l3
      exact hnx _ _ ⟨_, g3, g4, g5, g6, rfl, u3, by simpa using l3⟩
  · rintro env st3 ⟨g2, g3, g4, g5, g6, rfl, u3, l3⟩
    walk_at "s"
    intro p hp
    refine endsOf_i (q p _ (hp.backK u3) (u3.new hp) ?_)
    rw [put_same, List.map_reverse, List.reverse_reverse]
/-! ### a term's letters -/
def letL (t : Term) : List Str := sortBy id (TxS.met [] (lets t))
theorem letL_mem {t : Term} {x : Str} : x ∈ letL t ↔ x ∈ lets t := by
  unfold letL
  rw [(sortBy_perm id _).mem_iff, TxS.met_mem]
  simp
theorem letL_nd (t : Term) : (letL t).Nodup := (sortBy_perm id _).nodup_iff.mpr (TxS.met_nd _ _ List.nodup_nil)
theorem lets_len (t : Term) : (lets t).length ≤ t.length := by
  unfold lets
  rw [List.length_map]
  exact List.length_filter_le ..
theorem letL_len (t : Term) : (letL t).length ≤ t.length := by
  unfold letL
  rw [(sortBy_perm id _).length_eq]
  have h1 := TxS.met_len (lets t) []
  have h2 := lets_len t
  rw [List.length_nil] at h1
  omega
theorem lets_ok {k : Nat} {t : Term} (h : TermOk k t) : ∀ x ∈ lets t, nmOk x := fun x hx => by
  obtain ⟨s, hs, rfl⟩ := List.mem_map.mp hx
  exact h.2 s (List.mem_filter.mp hs).1
def onLet : D → Option D
  | .tup [.str x, .int i] => if i = -1 then some (.str x) else none
  | _ => none
theorem onLet_sign (s : Sign) : onLet (signD s) = if s.2 = -1 then some (.str s.1) else none := rfl
theorem onLet_map : ∀ t : Term, (t.map signD).filterMap onLet = (lets t).map D.str
  | [] => rfl
  | s :: t => by
    have ih := onLet_map t
    by_cases c : s.2 = -1
    · have e : lets (s :: t) = s.1 :: lets t := by unfold lets; rw [List.filter_cons_of_pos (by simpa using c), List.map_cons]
      rw [List.map_cons, List.filterMap_cons_some (b := .str s.1) (by rw [onLet_sign, if_pos c]), ih, e, List.map_cons]
    · have e : lets (s :: t) = lets t := by unfold lets; rw [List.filter_cons_of_neg (by simpa using c)]
      rw [List.map_cons, List.filterMap_cons_none (by rw [onLet_sign, if_neg c]), ih, e]
def S_law_letters : DSp := fun vs st Q => ∃ t : Term, vs = [termD t] ∧ TermOk 60 t ∧ ∀ st', Keep st st' → Q (.tup ((letL t).map D.str)) st'
/-- _law_letters(term): 0 term 1 name 2 many -/
def t_law_letters : MS := sRet (mCall oTuple (mCons (mSortSet (mLc (wSeq (mVar 0)) (gTup 2 (gCons (gN 1) (gCons (gN 2) (gNil)))) (mTest (mBin oEq (mVar 2) (mBin oSub (mC (.int 0)) (mC (.int 1))))) (mVar 1) [1, 2])) (mNil)))
theorem kp_law_letters : Keeps 1 3 S_law_letters t_law_letters := by
  refine ⟨fun ds st Q ⟨s, e, _⟩ => by rw [e]; rfl, fun ds st Q ⟨t, e, ht, q⟩ => ?_⟩
  subst e
  have hl := ht.1
  unfold t_law_letters
  unfold termD
  walk_at "s"
  rw [mSortSet_a]
  walk_at "s"
  refine lc_keep onLet (fun _ _ => trivial) (by rw [List.length_map, szL]; omega) (fun y hy st2 u2 P N hP hN => ?_) fun p st1 hp u1 l1 => ?_
  · obtain ⟨s, hs, rfl⟩ := List.mem_map.mp hy
    rw [onLet_sign] at hP hN
    have e1 : (-1 : Int) = 0 - 1 := rfl
    unfold signD
    by_cases c : s.2 = -1
    · rw [if_pos c] at hP
      have h1 := hP _ st2 rfl .refl
      have c' : s.2 = 0 - 1 := c
      clear hP hN c e1
      walk_at "s"
    · rw [if_neg c] at hN
      have h1 := hN st2 rfl .refl
      have c' : ¬ s.2 = 0 - 1 := c
      clear hP hN c e1
      walk_at "s"
  · rw [onLet_map] at l1
    show srO (st1 p) st1 _
    rw [l1]
    refine ⟨lets t, rfl, by have := lets_len t; omega, by have := lets_len t; have := TxS.met_len (lets t) []; rw [List.length_nil] at this; omega, fun p2 hp2 => ?_⟩
    have l2 : put st1 p2 (.lst ((sortBy id (TxS.met [] (lets t))).map D.str)) p2 = some (.lst ((letL t).map D.str)) := put_same
    have u2 := u1.new (o := .lst ((sortBy id (TxS.met [] (lets t))).map D.str)) hp2
    generalize put st1 p2 (.lst ((sortBy id (TxS.met [] (lets t))).map D.str)) = st2 at *
    clear l1
    walk_at "s"
    exact endsOf_i (q st2 u2)
end Tk05
end L2.DL

namespace L2.DL
open PySem PySem.Spec PyProof.Rows
local macro_rules | `(tactic| walk_at "s") => `(tactic| try simp only [sqAsg_a, sqDrop_a, sqPar_a, sqPar3_a, sqRet_a, sqNext_a, sqSeq_a, sNext_a, sBreak_a, sCont_a, sDrop_a, sRet_a, sRetN_a, sIf_a, sAsg_a, sPar_a, sPar3_a, mVar_a, vAt_a, mC_a, mBin_a, mTest_a, bAt_a, mAnd_a, mOr_a, mNot_a, mYes_a, mAndV_a, mOrV_a, mNotV_a, mIf_a, mNil_a, mCons_a, mTup_a, mLst_a, mCall_a, mCallK_a, mMeth_a, mSl_a, mNoPart_a, iAt_a, mPart_a, mIsi_b, tysO_some, List.any_cons, List.any_nil, Bool.or_false, Bool.false_or, Bool.or_true, Bool.true_or, Int.natCast_pos, gN_a, gTup_a, gCons_a, gNil_a, gSub_a, sFor_a, mLc_a, mDc_a, wSeq_a, sqO_tup, sqO_str, sqO_ref, wRng1_a, wRng2_b, wRng3_b, wEnum_a, enO_tup, enO_ref, mRev_a, revO_ref, List.getD_cons_zero, List.getD_cons_succ, ite_self, List.set_cons_zero, List.set_cons_succ, List.getElem?_cons_zero, List.getElem?_cons_succ, oAdd_int, oAdd_str, oAdd_tup, oAdd_ref, oSub_int, oMul_int, oDiv_int, oMod_int, oPow_int, oLt_int, oLe_int, oGt_int, oGe_int, oIs_nn, oIs_bn, oIs_in, oIs_sn, oIs_tn, oIs_rn, oIs_bb, oIs_nb, oIs_ib, oIs_sb, oIs_tb, oIs_rb, oIsi_int, oIsi_str, oIsi_bool, oIsi_tuple, oIsi_list, oIsi_dict, tyO_some, tyD_non, tyD_bl, tyD_int, tyD_str, tyD_tup, isi_facts, oEq_int, oNe_int, oEq_str, oNe_str, oSl_tup, oSl_str, oSl_ref, oLen_tup, oLen_str, oLen_ref, oAbs_int, oInt_int, oInt_bl, oMax_int, oMin_int, oTuple_tup, oTuple_ref, oList_tup, oList_str, oList_ref, oIx_tupE, oIx_ref, oAppend_ref, oPop_ref, oExtend_tupE, oSet_ref, isL_ref, isS_str, vO_some, ixO_lst, ixO_dicI, ixO_dicS, ixO_rodI, ixO_rodS, lsO_lst, rdO_lst, rdO_rol, lenO_lst, lenO_dic, lenO_rol, addO_lst, setO_lst, setO_dicI, setO_dicS, atI_zero, atI_one, atI_two, atI_end, startE, wipeE, List.map_cons, List.map_nil, List.length_cons, List.length_nil, List.replicate, List.cons_append, List.nil_append, Nat.reduceAdd, Nat.reduceSub, List.replicate_succ, List.replicate_zero, put_same, Nat.zero_le, Int.reduceLT, Int.reduceLE, Nat.reduceLT, Nat.reduceLeDiff, and_true, true_and, Bool.false_eq_true, ↓reduceIte, Bool.not_true, Bool.not_false, decide_true, decide_false, *])
local macro_rules | `(tactic| walk_at "i") => `(tactic| try simp only [sqIf_a, sqAsg_a, sqDrop_a, sqPar_a, sqPar3_a, sqRet_a, sqNext_a, sqSeq_a, sNext_a, sBreak_a, sCont_a, sDrop_a, sRet_a, sRetN_a, sIf_a, sAsg_a, sPar_a, sPar3_a, mVar_a, vAt_a, mC_a, mBin_a, mTest_a, bAt_a, mAnd_a, mOr_a, mNot_a, mYes_a, mAndV_a, mOrV_a, mNotV_a, mIf_a, mNil_a, mCons_a, mTup_a, mLst_a, mCall_a, mCallK_a, mMeth_a, mSl_a, mNoPart_a, iAt_a, mPart_a, mIsi_b, tysO_some, List.any_cons, List.any_nil, Bool.or_false, Bool.false_or, Bool.or_true, Bool.true_or, Int.natCast_pos, gN_a, gTup_a, gCons_a, gNil_a, gSub_a, sFor_a, mLc_a, mDc_a, wSeq_a, sqO_tup, sqO_str, sqO_ref, wRng1_a, wRng2_b, wRng3_b, wEnum_a, enO_tup, enO_ref, mRev_a, revO_ref, List.getD_cons_zero, List.getD_cons_succ, ite_self, List.set_cons_zero, List.set_cons_succ, List.getElem?_cons_zero, List.getElem?_cons_succ, oAdd_int, oAdd_str, oAdd_tup, oAdd_ref, oSub_int, oMul_int, oDiv_int, oMod_int, oPow_int, oLt_int, oLe_int, oGt_int, oGe_int, oIs_nn, oIs_bn, oIs_in, oIs_sn, oIs_tn, oIs_rn, oIs_bb, oIs_nb, oIs_ib, oIs_sb, oIs_tb, oIs_rb, oIsi_int, oIsi_str, oIsi_bool, oIsi_tuple, oIsi_list, oIsi_dict, tyO_some, tyD_non, tyD_bl, tyD_int, tyD_str, tyD_tup, isi_facts, oEq_int, oNe_int, oEq_str, oNe_str, oSl_tup, oSl_str, oSl_ref, oLen_tup, oLen_str, oLen_ref, oAbs_int, oInt_int, oInt_bl, oMax_int, oMin_int, oTuple_tup, oTuple_ref, oList_tup, oList_str, oList_ref, oIx_tupE, oIx_ref, oAppend_ref, oPop_ref, oExtend_tupE, oSet_ref, isL_ref, isS_str, vO_some, ixO_lst, ixO_dicI, ixO_dicS, ixO_rodI, ixO_rodS, lsO_lst, rdO_lst, rdO_rol, lenO_lst, lenO_dic, lenO_rol, addO_lst, setO_lst, setO_dicI, setO_dicS, atI_zero, atI_one, atI_two, atI_end, startE, wipeE, List.map_cons, List.map_nil, List.length_cons, List.length_nil, List.replicate, List.cons_append, List.nil_append, Nat.reduceAdd, Nat.reduceSub, List.replicate_succ, List.replicate_zero, put_same, Nat.zero_le, Int.reduceLT, Int.reduceLE, Nat.reduceLT, Nat.reduceLeDiff, and_true, true_and, Bool.false_eq_true, ↓reduceIte, Bool.not_true, Bool.not_false, decide_true, decide_false, *])
namespace Tk02
open Tk05
/-- a list or a tuple of terms -/
def SqT (st : Sto) (x : D) (ps : List Term) : Prop := x = .tup (ps.map termD) ∨ ∃ a, x = .ref a ∧ st a = some (.lst (ps.map termD))
theorem SqT.keep {st st' : Sto} {x : D} {ps : List Term} (h : SqT st x ps) (u : Keep st st') : SqT st' x ps := by
  rcases h with h | ⟨a, h, l⟩
  · exact .inl h
  · exact .inr ⟨a, h, u.l l⟩
theorem SqT.sq {st st1 : Sto} {x : D} {ps : List Term} {Q : List D → (Sto → Prop) → Sto → Prop} (h : SqT st x ps) (u : Keep st st1) (q : ∀ ok : Sto → Prop, (∀ st', Keep st st' → ok st') → Q (ps.map termD) ok st1) : sqO x st1 Q := by
  rcases h with rfl | ⟨a, rfl, l⟩
  · exact q _ fun _ _ => trivial
  · rw [sqO_ref, u.l l]
    exact q _ fun st' u => by rw [u.l l]; rfl
theorem SqT.len {st : Sto} {x : D} {ps : List Term} {Q : DK} (h : SqT st x ps) (q : Q (.int (ps.length : Nat)) st) : oLen [x] st Q := by
  rcases h with rfl | ⟨a, rfl, l⟩
  · rw [oLen_tup, List.length_map]
    exact q
  · rw [oLen_ref, l, lenO_lst, List.length_map]
    exact q
theorem cuts_flatten : ∀ {cs : List Term}, (∀ c ∈ cs, Wf c) → cuts cs.flatten = cs
  | [], _ => rfl
  | c :: cs, h => by
    rw [List.flatten_cons, cuts_wf _ (h c (List.mem_cons_self ..)), cuts_flatten fun x hx => h x (List.mem_cons_of_mem _ hx)]
theorem flat_take {cs : List Term} {i : Nat} {c : Term} (h : cs[i]? = some c) : (cs.take (i + 1)).flatten.length = (cs.take i).flatten.length + c.length := by
  rw [take_snoc h, List.flatten_append, List.length_append, List.flatten_cons, List.flatten_nil, List.append_nil]
theorem flat_take_le (cs : List Term) (i : Nat) : (cs.take i).flatten.length ≤ cs.flatten.length := by
  conv => rhs; rw [← List.take_append_drop i cs, List.flatten_append, List.length_append]
  omega
def S_built : DSp := fun vs st Q => ∃ (x : Str) (y : D) (ps : List Term), vs = [.str x, y] ∧ SqT st y ps ∧ ps.flatten.length ≤ 1000 ∧ ∀ st', Keep st st' → Q (termD ((x, (ps.length : Int)) :: ps.flatten)) st'
/-- built(name, parts): 0 name 1 parts 2 found 3 part -/
def t_built : MS := sSeq (sAsg (mLst (mCons (mTup (mCons (mVar 0) (mCons (mCall oLen (mCons (mVar 1) (mNil))) (mNil)))) (mNil))) (gN 2))
    (sSeq (sFor (wSeq (mVar 1)) (gN 3) (sDrop (mMeth isL oExtend (mVar 2) (mCons (mVar 3) (mNil)))))
    (sRet (mCall oTuple (mCons (mVar 2) (mNil)))))
theorem kp_built : Keeps 2 4 S_built t_built := by
  refine ⟨fun ds st Q ⟨x, y, ps, e, _⟩ => by rw [e]; rfl, fun ds st Q ⟨x, y, ps, e, hy, hl, q⟩ => ?_⟩
  subst e
  have z1 : 0 + 1 ≤ sizeLine := by decide
  have z2 : 0 + 1 + 1 ≤ sizeLine := by decide
  unfold t_built
  refine sSeq_t fun T hT => ?_
  walk_at "s"
  refine hy.len ?_
  walk_at "s"
  intro p hp
  subst hT
  rw [sSeq_a]
  walk_at "s"
  refine hy.sq (Keep.put hp) fun ok hok => ?_
  refine ⟨fun i env st' => ∃ g3, env = [some (.str x), some y, some (.ref p), g3] ∧ Keep st st' ∧ st' p = some (.lst ((((x, (ps.length : Int)) :: (ps.take i).flatten : Term)).map signD)) , ⟨none, rfl, Keep.put hp, put_same⟩, fun i env st' _ ⟨_, _, u, _⟩ => hok st' u, ?_, ?_⟩
  · rintro i z env st1 hz ⟨g3, rfl, u1, l1⟩
    rw [List.getElem?_map, Option.map_eq_some_iff] at hz
    obtain ⟨c, hc, rfl⟩ := hz
    have h1 := flat_take hc
    have h2 := flat_take_le ps (i + 1)
    have hsz : (((x, (ps.length : Int)) :: (ps.take i).flatten : Term).map signD).length + (c.map signD).length ≤ sizeLine := by
      rw [List.length_map, List.length_map, List.length_cons, szL]
      omega
    have ea : ((x, (ps.length : Int)) :: (ps.take i).flatten : Term).map signD ++ c.map signD = ((x, (ps.length : Int)) :: (ps.take (i + 1)).flatten : Term).map signD := by
      rw [take_snoc hc, List.flatten_append, ← List.map_append, List.cons_append, List.flatten_cons, List.flatten_nil, List.append_nil]
    generalize ((x, (ps.length : Int)) :: (ps.take i).flatten : Term).map signD = xs at *
    clear hy hok q
    rw [gN_a]
    unfold termD
    walk_at "s"
    exact ⟨_, rfl, u1.mut hp⟩
  · rintro env st1 ⟨g3, rfl, u1, l1⟩
    rw [List.length_map, List.take_length] at l1
    clear hy hok hp
    walk_at "s"
    exact endsOf_i (q st1 u1)
end Tk02
end L2.DL

namespace L2.DL
open PySem PySem.Spec PyProof.Rows
local macro_rules | `(tactic| walk_at "s") => `(tactic| try simp only [sqAsg_a, sqDrop_a, sqPar_a, sqPar3_a, sqRet_a, sqNext_a, sqSeq_a, sNext_a, sBreak_a, sCont_a, sDrop_a, sRet_a, sRetN_a, sIf_a, sAsg_a, sPar_a, sPar3_a, mVar_a, vAt_a, mC_a, mBin_a, mTest_a, bAt_a, mAnd_a, mOr_a, mNot_a, mYes_a, mAndV_a, mOrV_a, mNotV_a, mIf_a, mNil_a, mCons_a, mTup_a, mLst_a, mCall_a, mCallK_a, mMeth_a, mSl_a, mNoPart_a, iAt_a, mPart_a, mIsi_b, tysO_some, List.any_cons, List.any_nil, Bool.or_false, Bool.false_or, Bool.or_true, Bool.true_or, Int.natCast_pos, gN_a, gTup_a, gCons_a, gNil_a, gSub_a, sFor_a, mLc_a, mDc_a, wSeq_a, sqO_tup, sqO_str, sqO_ref, wRng1_a, wRng2_b, wRng3_b, wEnum_a, enO_tup, enO_ref, mRev_a, revO_ref, List.getD_cons_zero, List.getD_cons_succ, ite_self, List.set_cons_zero, List.set_cons_succ, List.getElem?_cons_zero, List.getElem?_cons_succ, oAdd_int, oAdd_str, oAdd_tup, oAdd_ref, oSub_int, oMul_int, oDiv_int, oMod_int, oPow_int, oLt_int, oLe_int, oGt_int, oGe_int, oIs_nn, oIs_bn, oIs_in, oIs_sn, oIs_tn, oIs_rn, oIs_bb, oIs_nb, oIs_ib, oIs_sb, oIs_tb, oIs_rb, oIsi_int, oIsi_str, oIsi_bool, oIsi_tuple, oIsi_list, oIsi_dict, tyO_some, tyD_non, tyD_bl, tyD_int, tyD_str, tyD_tup, isi_facts, oEq_int, oNe_int, oEq_str, oNe_str, oSl_tup, oSl_str, oSl_ref, oLen_tup, oLen_str, oLen_ref, oAbs_int, oInt_int, oInt_bl, oMax_int, oMin_int, oTuple_tup, oTuple_ref, oList_tup, oList_str, oList_ref, oIx_tupE, oIx_ref, oAppend_ref, oPop_ref, oExtend_tupE, oSet_ref, isL_ref, isS_str, vO_some, ixO_lst, ixO_dicI, ixO_dicS, ixO_rodI, ixO_rodS, lsO_lst, rdO_lst, rdO_rol, lenO_lst, lenO_dic, lenO_rol, addO_lst, setO_lst, setO_dicI, setO_dicS, atI_zero, atI_one, atI_two, atI_end, startE, wipeE, List.map_cons, List.map_nil, List.length_cons, List.length_nil, List.replicate, List.cons_append, List.nil_append, Nat.reduceAdd, Nat.reduceSub, List.replicate_succ, List.replicate_zero, put_same, Nat.zero_le, Int.reduceLT, Int.reduceLE, Nat.reduceLT, Nat.reduceLeDiff, and_true, true_and, Bool.false_eq_true, ↓reduceIte, Bool.not_true, Bool.not_false, decide_true, decide_false, *])
local macro_rules | `(tactic| walk_at "i") => `(tactic| try simp only [sqIf_a, sqAsg_a, sqDrop_a, sqPar_a, sqPar3_a, sqRet_a, sqNext_a, sqSeq_a, sNext_a, sBreak_a, sCont_a, sDrop_a, sRet_a, sRetN_a, sIf_a, sAsg_a, sPar_a, sPar3_a, mVar_a, vAt_a, mC_a, mBin_a, mTest_a, bAt_a, mAnd_a, mOr_a, mNot_a, mYes_a, mAndV_a, mOrV_a, mNotV_a, mIf_a, mNil_a, mCons_a, mTup_a, mLst_a, mCall_a, mCallK_a, mMeth_a, mSl_a, mNoPart_a, iAt_a, mPart_a, mIsi_b, tysO_some, List.any_cons, List.any_nil, Bool.or_false, Bool.false_or, Bool.or_true, Bool.true_or, Int.natCast_pos, gN_a, gTup_a, gCons_a, gNil_a, gSub_a, sFor_a, mLc_a, mDc_a, wSeq_a, sqO_tup, sqO_str, sqO_ref, wRng1_a, wRng2_b, wRng3_b, wEnum_a, enO_tup, enO_ref, mRev_a, revO_ref, List.getD_cons_zero, List.getD_cons_succ, ite_self, List.set_cons_zero, List.set_cons_succ, List.getElem?_cons_zero, List.getElem?_cons_succ, oAdd_int, oAdd_str, oAdd_tup, oAdd_ref, oSub_int, oMul_int, oDiv_int, oMod_int, oPow_int, oLt_int, oLe_int, oGt_int, oGe_int, oIs_nn, oIs_bn, oIs_in, oIs_sn, oIs_tn, oIs_rn, oIs_bb, oIs_nb, oIs_ib, oIs_sb, oIs_tb, oIs_rb, oIsi_int, oIsi_str, oIsi_bool, oIsi_tuple, oIsi_list, oIsi_dict, tyO_some, tyD_non, tyD_bl, tyD_int, tyD_str, tyD_tup, isi_facts, oEq_int, oNe_int, oEq_str, oNe_str, oSl_tup, oSl_str, oSl_ref, oLen_tup, oLen_str, oLen_ref, oAbs_int, oInt_int, oInt_bl, oMax_int, oMin_int, oTuple_tup, oTuple_ref, oList_tup, oList_str, oList_ref, oIx_tupE, oIx_ref, oAppend_ref, oPop_ref, oExtend_tupE, oSet_ref, isL_ref, isS_str, vO_some, ixO_lst, ixO_dicI, ixO_dicS, ixO_rodI, ixO_rodS, lsO_lst, rdO_lst, rdO_rol, lenO_lst, lenO_dic, lenO_rol, addO_lst, setO_lst, setO_dicI, setO_dicS, atI_zero, atI_one, atI_two, atI_end, startE, wipeE, List.map_cons, List.map_nil, List.length_cons, List.length_nil, List.replicate, List.cons_append, List.nil_append, Nat.reduceAdd, Nat.reduceSub, List.replicate_succ, List.replicate_zero, put_same, Nat.zero_le, Int.reduceLT, Int.reduceLE, Nat.reduceLT, Nat.reduceLeDiff, and_true, true_and, Bool.false_eq_true, ↓reduceIte, Bool.not_true, Bool.not_false, decide_true, decide_false, *])
namespace Tk02
open Tk05
def S_head_of : DSp := fun vs st Q => ∃ (s : Sign) (u : Term), vs = [termD (s :: u)] ∧ ∀ st', Keep st st' → Q (signD s) st'
/-- head_of(term): 0 term -/
def t_head_of : MS := sRet (mBin oIx (mVar 0) (mC (.int 0)))
theorem kp_head_of : Keeps 1 1 S_head_of t_head_of := by
  refine ⟨fun ds st Q ⟨s, u, e, _⟩ => by rw [e]; rfl, fun ds st Q ⟨s, u, e, q⟩ => ?_⟩
  subst e
  unfold t_head_of termD
  walk_at "s"
  exact endsOf_i (q st .refl)
def S_size_of : DSp := fun vs st Q => ∃ t : Term, vs = [termD t] ∧ ∀ st', Keep st st' → Q (.int (t.length : Nat)) st'
/-- size_of(term): 0 term -/
def t_size_of : MS := sRet (mCall oLen (mCons (mVar 0) (mNil)))
theorem kp_size_of : Keeps 1 1 S_size_of t_size_of := by
  refine ⟨fun ds st Q ⟨t, e, _⟩ => by rw [e]; rfl, fun ds st Q ⟨t, e, q⟩ => ?_⟩
  subst e
  unfold t_size_of termD
  walk_at "s"
  rw [List.length_map]
  exact endsOf_i (q st .refl)
def placesL (cs : List Term) : List Int := (List.range cs.length).map fun i => ((1 + (cs.take i).flatten.length : Nat) : Int)
theorem cuts_drop {s : Sign} {u : Term} (h : Wf (s :: u)) {i : Nat} : (s :: u).drop (1 + ((cuts u).take i).flatten.length) = ((cuts u).drop i).flatten ∧ cuts ((cuts u).drop i).flatten = (cuts u).drop i := by
  obtain ⟨h1, h2, h3⟩ := h
  have hc := (Rd.cuts h3).2
  refine ⟨?_, cuts_flatten fun c h => hc c (List.mem_of_mem_drop h)⟩
  rw [Nat.add_comm, List.drop_succ_cons]
  have e : u = ((cuts u).take i).flatten ++ ((cuts u).drop i).flatten := by rw [← List.flatten_append, List.take_append_drop, cuts_flat]
  generalize cuts u = cs at *
  rw [e, List.drop_left]
theorem ends_at {s : Sign} {u : Term} (h : Wf (s :: u)) {i : Nat} {c : Term} (hc : (cuts u)[i]? = some c) :
    1 + ((cuts u).take i).flatten.length < (s :: u).length ∧ (endsL (s :: u))[1 + ((cuts u).take i).flatten.length]? = some ((1 + ((cuts u).take (i + 1)).flatten.length : Nat) : Int) ∧ (((s :: u).drop (1 + ((cuts u).take i).flatten.length)).take c.length) = c := by
  obtain ⟨d1, d2⟩ := cuts_drop h (i := i)
  obtain ⟨hi, hc2⟩ := List.getElem?_eq_some_iff.mp hc
  have hd := List.drop_eq_getElem_cons hi
  rw [hc2] at hd
  have hcw : Wf c := by
    obtain ⟨h1, h2, h3⟩ := h
    exact (Rd.cuts h3).2 c (List.mem_of_getElem? hc)
  have hne : 0 < c.length := by
    cases c with
    | nil => exact absurd hcw (by show ¬ (1 = 0); omega)
    | cons a b => simp
  have hp : prt ((s :: u).drop (1 + ((cuts u).take i).flatten.length)) = c := by
    unfold prt
    rw [d1, d2, hd]
    rfl
  have hlt : 1 + ((cuts u).take i).flatten.length < (s :: u).length := by
    have := flat_take hc
    have h2 := flat_take_le (cuts u) (i + 1)
    rw [cuts_flat] at h2
    rw [List.length_cons]
    omega
  refine ⟨hlt, ?_, ?_⟩
  · rw [endsL_get hlt, hp, flat_take hc, Nat.add_assoc]
  · rw [d1, hd, List.flatten_cons, List.take_left]
def S_part_places : DSp := fun vs st Q => ∃ (s : Sign) (u : Term) (a : Addr), vs = [termD (s :: u), .ref a, .int 0] ∧ st a = some (.lst ((endsL (s :: u)).map D.int)) ∧ TermOk 1000 (s :: u) ∧ Wf (s :: u) ∧ ∀ p st', Nf st p → Keep st st' → st' p = some (.lst ((placesL (cuts u)).map D.int)) → Q (.ref p) st'
/-- part_places(term, ends, at): 0 term 1 ends 2 at 3 places 4 spot 5 _ -/
def t_part_places : MS := sSeq (sAsg (mLst (mNil)) (gN 3))
    (sSeq (sAsg (mBin oAdd (mVar 2) (mC (.int 1))) (gN 4))
    (sSeq (sFor (wRng1 (mCall S_many_of (mCons (mBin oIx (mVar 0) (mVar 2)) (mNil)))) (gN 5) (sSeq (sDrop (mMeth isL oAppend (mVar 3) (mCons (mVar 4) (mNil))))
    (sAsg (mBin oIx (mVar 1) (mVar 4)) (gN 4))))
    (sRet (mVar 3))))
theorem kp_part_places : Keeps 3 6 S_part_places t_part_places := by
  refine ⟨fun ds st Q ⟨s, u, a, e, _⟩ => by rw [e]; rfl, fun ds st Q ⟨s, u, a, e, la, ht, hw, q⟩ => ?_⟩
  subst e
  have z0 : 0 ≤ sizeLine := by decide
  have hn : (cuts u).length = arity s := by have := (Rd.cuts hw.2.2).1; omega
  have hl := ht.1
  have hul : (cuts u).length ≤ u.length := cuts_len u
  rw [List.length_cons] at hl
  unfold t_part_places
  refine sSeq_t fun T hT => ?_
  walk_at "s"
  intro p hp
  have la2 := (Keep.put (o := .lst []) hp).l la
  have lp : put st p (.lst []) p = some (.lst []) := put_same
  have u1 := Keep.put (o := .lst []) hp
  have hpa : p ≠ a := hp.ne la
  generalize put st p (.lst []) = st1 at *
  subst hT
  refine sSeq_t fun T hT => ?_
  walk_at "s"
  subst hT
  refine sSeq_i (fun env st' => (∃ g4 g5, env = [some (termD (s :: u)), some (.ref a), some (.int 0), some (.ref p), g4, g5]) ∧ Keep st st' ∧ st' p = some (.lst ((placesL (cuts u)).map D.int))) (fun nx hnx => ?_) ?_
  · have a0 : atI ((s :: u).map signD) 0 = some (signD s) := by rw [List.map_cons, atI_zero]
    unfold termD at *
    walk_at "s"
    refine ⟨s, rfl, hw.2.1, fun st4 u4 => ?_⟩
    have la3 := u4.l la2
    have lp3 := u4.l lp
    have u5 := u1.trans u4
    clear la2 lp u1 u4 la a0
    walk_at "s"
    refine ⟨by omega, fun i env st' => ∃ g5, env = [some (.tup ((s :: u).map signD)), some (.ref a), some (.int 0), some (.ref p), some (.int ((1 + ((cuts u).take i).flatten.length : Nat) : Int)), g5] ∧ Keep st st' ∧ st' a = some (.lst ((endsL (s :: u)).map D.int)) ∧ st' p = some (.lst (((placesL (cuts u)).take i).map D.int)), ⟨none, by simp, u5, la3, by rw [lp3]; simp⟩, fun _ _ _ _ _ => trivial, ?_, ?_⟩
    · rintro i x env st5 hx ⟨g5, rfl, u6, la4, lp4⟩
      obtain ⟨hi, rfl⟩ := rangeD_get hx
      rw [Int.toNat_natCast, ← hn] at hi
      obtain ⟨c, hc⟩ : ∃ c, (cuts u)[i]? = some c := ⟨_, List.getElem?_eq_getElem hi⟩
      obtain ⟨e1, e2, _⟩ := ends_at hw hc
      have e3 : atI ((endsL (s :: u)).map D.int) ((1 + ((cuts u).take i).flatten.length : Nat) : Int) = some (.int ((1 + ((cuts u).take (i + 1)).flatten.length : Nat) : Int)) := by rw [atI_ofNat, List.getElem?_map, e2]; rfl
      have hpl : (placesL (cuts u))[i]? = some ((1 + ((cuts u).take i).flatten.length : Nat) : Int) := by unfold placesL; rw [List.getElem?_map, List.getElem?_range hi]; rfl
      have e4 : ((placesL (cuts u)).take i).map D.int ++ [D.int ((1 + ((cuts u).take i).flatten.length : Nat) : Int)] = ((placesL (cuts u)).take (i + 1)).map D.int := by rw [take_snoc hpl, List.map_append]; rfl
      have hsz : (((placesL (cuts u)).take i).map D.int).length < sizeLine := by rw [List.length_map, List.length_take, szL]; omega
      generalize 1 + ((cuts u).take i).flatten.length = v at *
      generalize hv2 : 1 + ((cuts u).take (i + 1)).flatten.length = v2 at *
      generalize ((placesL (cuts u)).take i).map D.int = xs at *
      generalize hxs2 : ((placesL (cuts u)).take (i + 1)).map D.int = xs2 at *
      generalize (endsL (s :: u)).map D.int = es at *
      have la5 : put st5 p (.lst xs2) a = some (.lst es) := by rw [put_ne hpa.symm]; exact la4
      clear hx hnx q la3 lp3 u5 hc e1 e2 hpl
      rw [gN_a]
      walk_at "s"
      exact ⟨_, rfl, u6.mut hp⟩
    · rintro env st5 ⟨g5, rfl, u6, la4, lp4⟩
      rw [rangeD_len, Int.toNat_natCast, ← hn, List.take_of_length_le (by simp [placesL])] at lp4
      exact hnx _ _ ⟨⟨_, _, rfl⟩, u6, lp4⟩
  · rintro env st5 ⟨⟨g4, g5, rfl⟩, u6, lp4⟩
    walk_at "s"
    exact endsOf_i (q p st5 hp u6 lp4)
end Tk02
end L2.DL

namespace L2.DL
open PySem PySem.Spec PyProof.Rows
local macro_rules | `(tactic| walk_at "s") => `(tactic| try simp only [sqAsg_a, sqDrop_a, sqPar_a, sqPar3_a, sqRet_a, sqNext_a, sqSeq_a, sNext_a, sBreak_a, sCont_a, sDrop_a, sRet_a, sRetN_a, sIf_a, sAsg_a, sPar_a, sPar3_a, mVar_a, vAt_a, mC_a, mBin_a, mTest_a, bAt_a, mAnd_a, mOr_a, mNot_a, mYes_a, mAndV_a, mOrV_a, mNotV_a, mIf_a, mNil_a, mCons_a, mTup_a, mLst_a, mCall_a, mCallK_a, mMeth_a, mSl_a, mNoPart_a, iAt_a, mPart_a, mIsi_b, tysO_some, List.any_cons, List.any_nil, Bool.or_false, Bool.false_or, Bool.or_true, Bool.true_or, Int.natCast_pos, gN_a, gTup_a, gCons_a, gNil_a, gSub_a, sFor_a, mLc_a, mDc_a, wSeq_a, sqO_tup, sqO_str, sqO_ref, wRng1_a, wRng2_b, wRng3_b, wEnum_a, enO_tup, enO_ref, mRev_a, revO_ref, List.getD_cons_zero, List.getD_cons_succ, ite_self, List.set_cons_zero, List.set_cons_succ, List.getElem?_cons_zero, List.getElem?_cons_succ, oAdd_int, oAdd_str, oAdd_tup, oAdd_ref, oSub_int, oMul_int, oDiv_int, oMod_int, oPow_int, oLt_int, oLe_int, oGt_int, oGe_int, oIs_nn, oIs_bn, oIs_in, oIs_sn, oIs_tn, oIs_rn, oIs_bb, oIs_nb, oIs_ib, oIs_sb, oIs_tb, oIs_rb, oIsi_int, oIsi_str, oIsi_bool, oIsi_tuple, oIsi_list, oIsi_dict, tyO_some, tyD_non, tyD_bl, tyD_int, tyD_str, tyD_tup, isi_facts, oEq_int, oNe_int, oEq_str, oNe_str, oSl_tup, oSl_str, oSl_ref, oLen_tup, oLen_str, oLen_ref, oAbs_int, oInt_int, oInt_bl, oMax_int, oMin_int, oTuple_tup, oTuple_ref, oList_tup, oList_str, oList_ref, oIx_tupE, oIx_ref, oAppend_ref, oPop_ref, oExtend_tupE, oSet_ref, isL_ref, isS_str, vO_some, ixO_lst, ixO_dicI, ixO_dicS, ixO_rodI, ixO_rodS, lsO_lst, rdO_lst, rdO_rol, lenO_lst, lenO_dic, lenO_rol, addO_lst, setO_lst, setO_dicI, setO_dicS, atI_zero, atI_one, atI_two, atI_end, startE, wipeE, List.map_cons, List.map_nil, List.length_cons, List.length_nil, List.replicate, List.cons_append, List.nil_append, Nat.reduceAdd, Nat.reduceSub, List.replicate_succ, List.replicate_zero, put_same, Nat.zero_le, Int.reduceLT, Int.reduceLE, Nat.reduceLT, Nat.reduceLeDiff, and_true, true_and, Bool.false_eq_true, ↓reduceIte, Bool.not_true, Bool.not_false, decide_true, decide_false, *])
local macro_rules | `(tactic| walk_at "i") => `(tactic| try simp only [sqIf_a, sqAsg_a, sqDrop_a, sqPar_a, sqPar3_a, sqRet_a, sqNext_a, sqSeq_a, sNext_a, sBreak_a, sCont_a, sDrop_a, sRet_a, sRetN_a, sIf_a, sAsg_a, sPar_a, sPar3_a, mVar_a, vAt_a, mC_a, mBin_a, mTest_a, bAt_a, mAnd_a, mOr_a, mNot_a, mYes_a, mAndV_a, mOrV_a, mNotV_a, mIf_a, mNil_a, mCons_a, mTup_a, mLst_a, mCall_a, mCallK_a, mMeth_a, mSl_a, mNoPart_a, iAt_a, mPart_a, mIsi_b, tysO_some, List.any_cons, List.any_nil, Bool.or_false, Bool.false_or, Bool.or_true, Bool.true_or, Int.natCast_pos, gN_a, gTup_a, gCons_a, gNil_a, gSub_a, sFor_a, mLc_a, mDc_a, wSeq_a, sqO_tup, sqO_str, sqO_ref, wRng1_a, wRng2_b, wRng3_b, wEnum_a, enO_tup, enO_ref, mRev_a, revO_ref, List.getD_cons_zero, List.getD_cons_succ, ite_self, List.set_cons_zero, List.set_cons_succ, List.getElem?_cons_zero, List.getElem?_cons_succ, oAdd_int, oAdd_str, oAdd_tup, oAdd_ref, oSub_int, oMul_int, oDiv_int, oMod_int, oPow_int, oLt_int, oLe_int, oGt_int, oGe_int, oIs_nn, oIs_bn, oIs_in, oIs_sn, oIs_tn, oIs_rn, oIs_bb, oIs_nb, oIs_ib, oIs_sb, oIs_tb, oIs_rb, oIsi_int, oIsi_str, oIsi_bool, oIsi_tuple, oIsi_list, oIsi_dict, tyO_some, tyD_non, tyD_bl, tyD_int, tyD_str, tyD_tup, isi_facts, oEq_int, oNe_int, oEq_str, oNe_str, oSl_tup, oSl_str, oSl_ref, oLen_tup, oLen_str, oLen_ref, oAbs_int, oInt_int, oInt_bl, oMax_int, oMin_int, oTuple_tup, oTuple_ref, oList_tup, oList_str, oList_ref, oIx_tupE, oIx_ref, oAppend_ref, oPop_ref, oExtend_tupE, oSet_ref, isL_ref, isS_str, vO_some, ixO_lst, ixO_dicI, ixO_dicS, ixO_rodI, ixO_rodS, lsO_lst, rdO_lst, rdO_rol, lenO_lst, lenO_dic, lenO_rol, addO_lst, setO_lst, setO_dicI, setO_dicS, atI_zero, atI_one, atI_two, atI_end, startE, wipeE, List.map_cons, List.map_nil, List.length_cons, List.length_nil, List.replicate, List.cons_append, List.nil_append, Nat.reduceAdd, Nat.reduceSub, List.replicate_succ, List.replicate_zero, put_same, Nat.zero_le, Int.reduceLT, Int.reduceLE, Nat.reduceLT, Nat.reduceLeDiff, and_true, true_and, Bool.false_eq_true, ↓reduceIte, Bool.not_true, Bool.not_false, decide_true, decide_false, *])
namespace Tk02
open Tk05
def toN : D → Nat
  | .int v => v.toNat
  | _ => 0
theorem parts_map {s : Sign} {u : Term} (h : Wf (s :: u)) : ((placesL (cuts u)).map D.int).map (fun d => termD (prt ((s :: u).drop (toN d)))) = (cuts u).map termD := by
  unfold placesL
  rw [List.map_map, List.map_map]
  refine List.ext_getElem (by simp) fun i h1 h2 => ?_
  rw [List.length_map] at h2
  rw [List.getElem_map, List.getElem_map, List.getElem_range]
  show termD (prt ((s :: u).drop ((1 + ((cuts u).take i).flatten.length : Nat) : Int).toNat)) = _
  rw [Int.toNat_natCast]
  obtain ⟨d1, d2⟩ := cuts_drop h (i := i)
  have hd := List.drop_eq_getElem_cons h2
  unfold prt
  rw [d1, d2, hd]
  rfl
def S_parts_of : DSp := fun vs st Q => ∃ (s : Sign) (u : Term), vs = [termD (s :: u)] ∧ TermOk 1000 (s :: u) ∧ Wf (s :: u) ∧ ∀ st', Keep st st' → Q (.tup ((cuts u).map termD)) st'
/-- parts_of(term): 0 term 1 ends 2 spot -/
def t_parts_of : MS := sSeq (sAsg (mCall S_ends_of (mCons (mVar 0) (mNil))) (gN 1))
    (sRet (mCall oTuple (mCons (mLc (wSeq (mCall S_part_places (mCons (mVar 0) (mCons (mVar 1) (mCons (mC (.int 0)) (mNil)))))) (gN 2) (mYes) (mSl (mVar 0) (mPart (mVar 2)) (mPart (mBin oIx (mVar 1) (mVar 2)))) [2]) (mNil))))
theorem kp_parts_of : Keeps 1 3 S_parts_of t_parts_of := by
  refine ⟨fun ds st Q ⟨s, u, e, _⟩ => by rw [e]; rfl, fun ds st Q ⟨s, u, e, ht, hw, q⟩ => ?_⟩
  subst e
  have z0 : 0 ≤ sizeLine := by decide
  have hl := ht.1
  have hul : (cuts u).length ≤ u.length := cuts_len u
  rw [List.length_cons] at hl
  unfold t_parts_of
  refine sSeq_t fun T hT => ?_
  walk_at "s"
  refine ⟨s :: u, rfl, ht, hw, fun p st1 hp u1 l1 => ?_⟩
  subst hT
  walk_at "s"
  refine ⟨s, u, p, rfl, l1, ht, hw, fun p2 st2 hp2 u2 l2 => ?_⟩
  have l1' := u2.l l1
  have v2 := u1.trans u2
  have hpp : p2 ≠ p := hp2.ne l1
  clear l1 u1 u2
  walk_at "s"
  refine lc_keep (fun d => some (termD (prt ((s :: u).drop (toN d))))) (fun st3 u3 => by rw [u3.l l2]; rfl) (xs := (placesL (cuts u)).map D.int) (by rw [List.length_map, szL]; simp [placesL]; omega) (fun y hy st3 u3 P N hP hN => ?_) fun p3 st3 hp3 u3 l3 => ?_
  · have h1 := hP _ st3 rfl .refl
    obtain ⟨z, hz, rfl⟩ := List.mem_map.mp hy
    obtain ⟨i, hi, rfl⟩ := List.mem_map.mp hz
    rw [List.mem_range] at hi
    have hc := List.getElem?_eq_getElem hi
    obtain ⟨e1, e2, e3⟩ := ends_at hw hc
    have e5 := flat_take hc
    obtain ⟨d1, d2⟩ := cuts_drop hw (i := i)
    have hd := List.drop_eq_getElem_cons hi
    have hp : prt ((s :: u).drop (1 + ((cuts u).take i).flatten.length)) = (cuts u)[i] := by
      unfold prt
      rw [d1, d2, hd]
      rfl
    have e4 : atI ((endsL (s :: u)).map D.int) ((1 + ((cuts u).take i).flatten.length : Nat) : Int) = some (.int ((1 + ((cuts u).take (i + 1)).flatten.length : Nat) : Int)) := by rw [atI_ofNat, List.getElem?_map, e2]; rfl
    have e6 : cutL ((s :: u).map signD) (some ((1 + ((cuts u).take i).flatten.length : Nat) : Int)) (some ((1 + ((cuts u).take (i + 1)).flatten.length : Nat) : Int)) = ((cuts u)[i]).map signD := by
      rw [cutL_mid', e5, show 1 + (((cuts u).take i).flatten.length + ((cuts u)[i]).length) - (1 + ((cuts u).take i).flatten.length) = ((cuts u)[i]).length by omega, ← List.map_drop, ← List.map_take, e3]
    have l4 := u3.l l1'
    have eN : toN (D.int ((1 + ((cuts u).take i).flatten.length : Nat) : Int)) = 1 + ((cuts u).take i).flatten.length := Int.toNat_natCast _
    rw [eN, hp] at h1
    clear eN
    unfold termD at *
    generalize ((1 + ((cuts u).take i).flatten.length : Nat) : Int) = v at *
    generalize ((1 + ((cuts u).take (i + 1)).flatten.length : Nat) : Int) = w at *
    generalize (cuts u)[i] = c at *
    generalize (s :: u).map signD = xs at *
    clear hP hN hy hz e1 e2 e3 e5 d1 d2 hd hp hc l1' l2 q ht hw
    rw [gN_a]
    walk_at "s"
  · rw [fm_some, parts_map hw] at l3
    have hs : ((cuts u).map termD).length ≤ sizeLine := by rw [List.length_map, szL]; omega
    clear l1' l2
    walk_at "s"
    exact endsOf_i (q st3 (v2.trans u3))
def onLetS : D → Option Str
  | .tup [.str x, .int i] => if i = -1 then some x else none
  | _ => none
theorem onLetS_sign (s : Sign) : onLetS (signD s) = if s.2 = -1 then some s.1 else none := rfl
theorem onLetS_map : ∀ t : Term, (t.map signD).filterMap onLetS = lets t
  | [] => rfl
  | s :: t => by
    have ih := onLetS_map t
    by_cases c : s.2 = -1
    · have e : lets (s :: t) = s.1 :: lets t := by unfold lets; rw [List.filter_cons_of_pos (by simpa using c), List.map_cons]
      rw [List.map_cons, List.filterMap_cons_some (b := s.1) (by rw [onLetS_sign, if_pos c]), ih, e]
    · have e : lets (s :: t) = lets t := by unfold lets; rw [List.filter_cons_of_neg (by simpa using c)]
      rw [List.map_cons, List.filterMap_cons_none (by rw [onLetS_sign, if_neg c]), ih, e]
theorem letL_met (t : Term) : (letL t).length = (TxS.met [] (lets t)).length := by
  unfold letL
  exact (sortBy_perm id _).length_eq
def S_letters_of : DSp := fun vs st Q => ∃ t : Term, vs = [termD t] ∧ t.length ≤ 1000 ∧ (letL t).length ≤ 60 ∧ ∀ st', Keep st st' → Q (.tup ((letL t).map D.str)) st'
/-- letters_of(term): 0 term 1 name 2 many -/
def t_letters_of : MS := sRet (mCall oTuple (mCons (mSortSc (wSeq (mVar 0)) (gTup 2 (gCons (gN 1) (gCons (gN 2) (gNil)))) (mTest (mBin oEq (mVar 2) (mC (.int (-1))))) (mVar 1) [1, 2]) (mNil)))
theorem kp_letters_of : Keeps 1 3 S_letters_of t_letters_of := by
  refine ⟨fun ds st Q ⟨s, e, _⟩ => by rw [e]; rfl, fun ds st Q ⟨t, e, hl, h60, q⟩ => ?_⟩
  subst e
  unfold t_letters_of
  unfold termD
  walk_at "s"
  rw [mSortSc_a]
  walk_at "s"
  have em := onLetS_map t
  refine sc_keep onLetS (fun _ _ => trivial) (by rw [em, ← letL_met]; omega) (fun y hy st2 u2 P N hP hN => ?_) fun p st1 hp u1 l1 => ?_
  · obtain ⟨s, hs, rfl⟩ := List.mem_map.mp hy
    rw [onLetS_sign] at hP hN
    unfold signD
    clear em
    by_cases c : s.2 = -1
    · rw [if_pos c] at hP
      have h1 := hP _ st2 rfl .refl
      clear hP hN
      walk_at "s"
    · rw [if_neg c] at hN
      have h1 := hN st2 rfl .refl
      clear hP hN
      walk_at "s"
  · rw [em] at l1
    have l2 : st1 p = some (.lst ((letL t).map D.str)) := l1
    have hs : ((letL t).map D.str).length ≤ sizeLine := by rw [List.length_map, szL]; omega
    clear l1 em
    walk_at "s"
    exact endsOf_i (q st1 u1)
def S_law_letters : DSp := fun vs st Q => ∃ t : Term, vs = [termD t] ∧ t.length ≤ 1000 ∧ (letL t).length ≤ 60 ∧ ∀ st', Keep st st' → Q (.tup ((letL t).map D.str)) st'
/-- _law_letters(term): 0 term 1 name 2 many -/
def t_law_letters : MS := sRet (mCall oTuple (mCons (mSortSet (mLc (wSeq (mVar 0)) (gTup 2 (gCons (gN 1) (gCons (gN 2) (gNil)))) (mTest (mBin oEq (mVar 2) (mBin oSub (mC (.int 0)) (mC (.int 1))))) (mVar 1) [1, 2])) (mNil)))
theorem kp_law_letters : Keeps 1 3 S_law_letters t_law_letters := by
  refine ⟨fun ds st Q ⟨s, e, _⟩ => by rw [e]; rfl, fun ds st Q ⟨t, e, hl, h60, q⟩ => ?_⟩
  subst e
  unfold t_law_letters
  unfold termD
  walk_at "s"
  rw [mSortSet_a]
  walk_at "s"
  refine lc_keep onLet (fun _ _ => trivial) (by rw [List.length_map, szL]; omega) (fun y hy st2 u2 P N hP hN => ?_) fun p st1 hp u1 l1 => ?_
  · obtain ⟨s, hs, rfl⟩ := List.mem_map.mp hy
    rw [onLet_sign] at hP hN
    have e1 : (-1 : Int) = 0 - 1 := rfl
    unfold signD
    by_cases c : s.2 = -1
    · rw [if_pos c] at hP
      have h1 := hP _ st2 rfl .refl
      have c' : s.2 = 0 - 1 := c
      clear hP hN c e1
      walk_at "s"
    · rw [if_neg c] at hN
      have h1 := hN st2 rfl .refl
      have c' : ¬ s.2 = 0 - 1 := c
      clear hP hN c e1
      walk_at "s"
  · rw [onLet_map] at l1
    show srO (st1 p) st1 _
    rw [l1]
    refine ⟨lets t, rfl, by have := lets_len t; omega, by rw [← letL_met]; omega, fun p2 hp2 => ?_⟩
    have l2 : put st1 p2 (.lst ((sortBy id (TxS.met [] (lets t))).map D.str)) p2 = some (.lst ((letL t).map D.str)) := put_same
    have u2 := u1.new (o := .lst ((sortBy id (TxS.met [] (lets t))).map D.str)) hp2
    generalize put st1 p2 (.lst ((sortBy id (TxS.met [] (lets t))).map D.str)) = st2 at *
    have hs : ((letL t).map D.str).length ≤ sizeLine := by rw [List.length_map, szL]; omega
    clear l1
    walk_at "s"
    exact endsOf_i (q st2 u2)
end Tk02
end L2.DL

namespace L2.DL
open PySem PySem.Spec PyProof.Rows
local macro_rules | `(tactic| walk_at "s") => `(tactic| try simp only [sqAsg_a, sqDrop_a, sqPar_a, sqPar3_a, sqRet_a, sqNext_a, sqSeq_a, sNext_a, sBreak_a, sCont_a, sDrop_a, sRet_a, sRetN_a, sIf_a, sAsg_a, sPar_a, sPar3_a, mVar_a, vAt_a, mC_a, mBin_a, mTest_a, bAt_a, mAnd_a, mOr_a, mNot_a, mYes_a, mAndV_a, mOrV_a, mNotV_a, mIf_a, mNil_a, mCons_a, mTup_a, mLst_a, mCall_a, mCallK_a, mMeth_a, mSl_a, mNoPart_a, iAt_a, mPart_a, mIsi_b, tysO_some, List.any_cons, List.any_nil, Bool.or_false, Bool.false_or, Bool.or_true, Bool.true_or, Int.natCast_pos, gN_a, gTup_a, gCons_a, gNil_a, gSub_a, sFor_a, mLc_a, mDc_a, wSeq_a, sqO_tup, sqO_str, sqO_ref, wRng1_a, wRng2_b, wRng3_b, wEnum_a, enO_tup, enO_ref, mRev_a, revO_ref, List.getD_cons_zero, List.getD_cons_succ, ite_self, List.set_cons_zero, List.set_cons_succ, List.getElem?_cons_zero, List.getElem?_cons_succ, oAdd_int, oAdd_str, oAdd_tup, oAdd_ref, oSub_int, oMul_int, oDiv_int, oMod_int, oPow_int, oLt_int, oLe_int, oGt_int, oGe_int, oIs_nn, oIs_bn, oIs_in, oIs_sn, oIs_tn, oIs_rn, oIs_bb, oIs_nb, oIs_ib, oIs_sb, oIs_tb, oIs_rb, oIsi_int, oIsi_str, oIsi_bool, oIsi_tuple, oIsi_list, oIsi_dict, tyO_some, tyD_non, tyD_bl, tyD_int, tyD_str, tyD_tup, isi_facts, oEq_int, oNe_int, oEq_str, oNe_str, oSl_tup, oSl_str, oSl_ref, oLen_tup, oLen_str, oLen_ref, oAbs_int, oInt_int, oInt_bl, oMax_int, oMin_int, oTuple_tup, oTuple_ref, oList_tup, oList_str, oList_ref, oIx_tupE, oIx_ref, oAppend_ref, oPop_ref, oExtend_tupE, oSet_ref, isL_ref, isS_str, vO_some, ixO_lst, ixO_dicI, ixO_dicS, ixO_rodI, ixO_rodS, lsO_lst, rdO_lst, rdO_rol, lenO_lst, lenO_dic, lenO_rol, addO_lst, setO_lst, setO_dicI, setO_dicS, atI_zero, atI_one, atI_two, atI_end, startE, wipeE, List.map_cons, List.map_nil, List.length_cons, List.length_nil, List.replicate, List.cons_append, List.nil_append, Nat.reduceAdd, Nat.reduceSub, List.replicate_succ, List.replicate_zero, put_same, Nat.zero_le, Int.reduceLT, Int.reduceLE, Nat.reduceLT, Nat.reduceLeDiff, and_true, true_and, Bool.false_eq_true, ↓reduceIte, Bool.not_true, Bool.not_false, decide_true, decide_false, *])
local macro_rules | `(tactic| walk_at "i") => `(tactic| try simp only [sqIf_a, sqAsg_a, sqDrop_a, sqPar_a, sqPar3_a, sqRet_a, sqNext_a, sqSeq_a, sNext_a, sBreak_a, sCont_a, sDrop_a, sRet_a, sRetN_a, sIf_a, sAsg_a, sPar_a, sPar3_a, mVar_a, vAt_a, mC_a, mBin_a, mTest_a, bAt_a, mAnd_a, mOr_a, mNot_a, mYes_a, mAndV_a, mOrV_a, mNotV_a, mIf_a, mNil_a, mCons_a, mTup_a, mLst_a, mCall_a, mCallK_a, mMeth_a, mSl_a, mNoPart_a, iAt_a, mPart_a, mIsi_b, tysO_some, List.any_cons, List.any_nil, Bool.or_false, Bool.false_or, Bool.or_true, Bool.true_or, Int.natCast_pos, gN_a, gTup_a, gCons_a, gNil_a, gSub_a, sFor_a, mLc_a, mDc_a, wSeq_a, sqO_tup, sqO_str, sqO_ref, wRng1_a, wRng2_b, wRng3_b, wEnum_a, enO_tup, enO_ref, mRev_a, revO_ref, List.getD_cons_zero, List.getD_cons_succ, ite_self, List.set_cons_zero, List.set_cons_succ, List.getElem?_cons_zero, List.getElem?_cons_succ, oAdd_int, oAdd_str, oAdd_tup, oAdd_ref, oSub_int, oMul_int, oDiv_int, oMod_int, oPow_int, oLt_int, oLe_int, oGt_int, oGe_int, oIs_nn, oIs_bn, oIs_in, oIs_sn, oIs_tn, oIs_rn, oIs_bb, oIs_nb, oIs_ib, oIs_sb, oIs_tb, oIs_rb, oIsi_int, oIsi_str, oIsi_bool, oIsi_tuple, oIsi_list, oIsi_dict, tyO_some, tyD_non, tyD_bl, tyD_int, tyD_str, tyD_tup, isi_facts, oEq_int, oNe_int, oEq_str, oNe_str, oSl_tup, oSl_str, oSl_ref, oLen_tup, oLen_str, oLen_ref, oAbs_int, oInt_int, oInt_bl, oMax_int, oMin_int, oTuple_tup, oTuple_ref, oList_tup, oList_str, oList_ref, oIx_tupE, oIx_ref, oAppend_ref, oPop_ref, oExtend_tupE, oSet_ref, isL_ref, isS_str, vO_some, ixO_lst, ixO_dicI, ixO_dicS, ixO_rodI, ixO_rodS, lsO_lst, rdO_lst, rdO_rol, lenO_lst, lenO_dic, lenO_rol, addO_lst, setO_lst, setO_dicI, setO_dicS, atI_zero, atI_one, atI_two, atI_end, startE, wipeE, List.map_cons, List.map_nil, List.length_cons, List.length_nil, List.replicate, List.cons_append, List.nil_append, Nat.reduceAdd, Nat.reduceSub, List.replicate_succ, List.replicate_zero, put_same, Nat.zero_le, Int.reduceLT, Int.reduceLE, Nat.reduceLT, Nat.reduceLeDiff, and_true, true_and, Bool.false_eq_true, ↓reduceIte, Bool.not_true, Bool.not_false, decide_true, decide_false, *])
namespace Tk02
open Tk05
theorem span_at {s : Sign} {u : Term} (h : Wf (s :: u)) {i : Nat} {c : Term} (hc : (cuts u)[i]? = some c) : (spansL (s :: u))[1 + ((cuts u).take i).flatten.length]? = some c := by
  obtain ⟨e1, _, _⟩ := ends_at h hc
  obtain ⟨d1, d2⟩ := cuts_drop h (i := i)
  obtain ⟨hi, hc2⟩ := List.getElem?_eq_some_iff.mp hc
  have hd := List.drop_eq_getElem_cons hi
  rw [spansL_get e1]
  unfold prt
  rw [d1, d2, hd, hc2]
  rfl
def S_law_parts : DSp := fun vs st Q => ∃ (s : Sign) (u : Term), vs = [termD (s :: u)] ∧ TermOk 1000 (s :: u) ∧ Wf (s :: u) ∧ ∀ p st', Nf st p → Keep st st' → st' p = some (.lst ((cuts u).map termD)) → Q (.ref p) st'
/-- _law_parts(term): 0 term 1 spans 2 found 3 at -/
def t_law_parts : MS := sSeq (sPar3 1 2 3 (mCons (mCall S_law_spans (mCons (mVar 0) (mNil))) (mCons (mLst (mNil)) (mCons (mC (.int 1)) (mNil)))))
    (sSeq (sWhile (mTest (mBin oLt (mVar 3) (mCall oLen (mCons (mVar 0) (mNil))))) (sSeq (sDrop (mMeth isL oAppend (mVar 2) (mCons (mBin oIx (mVar 1) (mVar 3)) (mNil))))
    (sAsg (mBin oAdd (mVar 3) (mCall oLen (mCons (mBin oIx (mVar 1) (mVar 3)) (mNil)))) (gN 3))))
    (sRet (mVar 2)))
theorem kp_law_parts : Keeps 1 4 S_law_parts t_law_parts := by
  refine ⟨fun ds st Q ⟨s, u, e, _⟩ => by rw [e]; rfl, fun ds st Q ⟨s, u, e, ht, hw, q⟩ => ?_⟩
  subst e
  have z0 : 0 ≤ sizeLine := by decide
  have hl := ht.1
  have hul : (cuts u).length ≤ u.length := cuts_len u
  rw [List.length_cons] at hl
  have hwc : ∀ c ∈ cuts u, Wf c := (Rd.cuts hw.2.2).2
  have hfl := cuts_flat u
  unfold t_law_parts
  refine sSeq_t fun T hT => ?_
  walk_at "s"
  refine ⟨s :: u, rfl, ht, hw, fun ps st1 hps u1 ls => ?_⟩
  walk_at "s"
  intro p hp
  have hpp : p ≠ ps := hp.ne ls
  have ls2 := (Keep.put (o := .lst []) hp).l ls
  have lp : put st1 p (.lst []) p = some (.lst (((cuts u).take 0).map termD)) := put_same
  have u2 := u1.new (o := .lst []) hp
  have hp' := hp.backK u1
  generalize put st1 p (.lst []) = st2 at *
  clear u1 hp ls hps
  subst hT
  refine sSeq_i (fun env st' => (∃ g1 g3, env = [some (termD (s :: u)), g1, some (.ref p), g3]) ∧ Keep st st' ∧ st' p = some (.lst ((cuts u).map termD))) (fun nx hnx => ?_) ?_
  · refine ⟨fun j env st' => ∃ i, i ≤ (cuts u).length ∧ j = (cuts u).length - i ∧ env = [some (termD (s :: u)), some (.ref ps), some (.ref p), some (.int ((1 + ((cuts u).take i).flatten.length : Nat) : Int))] ∧ Keep st st' ∧ st' ps = some (.lst ((spansL (s :: u)).map termD)) ∧ st' p = some (.lst (((cuts u).take i).map termD)), ⟨_, 0, by omega, rfl, rfl, u2, ls2, lp⟩, ?_⟩
    rintro j env st3 ⟨i, hi, rfl, rfl, u3, ls3, lp3⟩
    clear ls2 lp u2 q
    by_cases hlt : i < (cuts u).length
    · have hc := List.getElem?_eq_getElem hlt
      have hcw := hwc _ (List.getElem_mem hlt)
      have hsp := span_at hw hc
      obtain ⟨e1, _, _⟩ := ends_at hw hc
      have e5 := flat_take hc
      have e6 : ((cuts u).take (i + 1)).map termD = ((cuts u).take i).map termD ++ [termD (cuts u)[i]] := by rw [take_snoc hc, List.map_append]; rfl
      have e3 : atI ((spansL (s :: u)).map termD) ((1 + ((cuts u).take i).flatten.length : Nat) : Int) = some (termD (cuts u)[i]) := by rw [atI_ofNat, List.getElem?_map, hsp]; rfl
      have hsz : (((cuts u).take i).map termD).length < sizeLine := by rw [List.length_map, List.length_take, szL]; omega
      have hlt2 : decide (((1 + ((cuts u).take i).flatten.length : Nat) : Int) < (((u.map signD).length + 1 : Nat) : Int)) = true := by
        rw [List.length_map]
        rw [List.length_cons] at e1
        exact decide_eq_true (by omega)
      have e7 : Hid (((1 + ((cuts u).take i).flatten.length : Nat) : Int) + (((cuts u)[i]).length : Nat) = ((1 + ((cuts u).take (i + 1)).flatten.length : Nat) : Int)) := by
        show _ = _
        rw [e5]
        omega
      have e4 : put st3 p (.lst (((cuts u).take i).map termD ++ [termD (cuts u)[i]])) ps = some (.lst ((spansL (s :: u)).map termD)) := by rw [put_ne hpp.symm]; exact ls3
      have ecl : (((cuts u)[i]).map signD).length = ((cuts u)[i]).length := List.length_map ..
      have e6H : Hid (((cuts u).take (i + 1)).map termD = ((cuts u).take i).map termD ++ [termD (cuts u)[i]]) := e6
      clear hnx e6 e5 e1 hsp hc hfl hwc hcw
      unfold termD at *
      generalize (cuts u)[i] = c at *
      walk_at "s"
      exact ⟨(cuts u).length - (i + 1), by omega, i + 1, by omega, rfl, by rw [show _ = _ from e7], u3.mut hp', congrArg (fun x => some (Ob.lst x)) (Eq.symm e6H)⟩
    · have hi2 : i = (cuts u).length := by omega
      subst hi2
      rw [List.take_length] at lp3
      have hge : decide (((1 + (cuts u).flatten.length : Nat) : Int) < (((u.map signD).length + 1 : Nat) : Int)) = false := by
        rw [List.length_map, hfl]
        exact decide_eq_false (by omega)
      rw [List.take_length]
      have hn := fun g3 => hnx _ st3 ⟨⟨some (.ref ps), g3, rfl⟩, u3, lp3⟩
      clear hnx hfl
      unfold termD at *
      walk_at "s"
      exact hn _
  · rintro env st5 ⟨⟨g1, g3, rfl⟩, u6, lp4⟩
    walk_at "s"
    exact endsOf_i (q p st5 hp' u6 lp4)
def S_law_joined : DSp := fun vs st Q => ∃ (x : Str) (a : Addr) (ps : List Term), vs = [.str x, .ref a] ∧ st a = some (.lst (ps.map termD)) ∧ ps.flatten.length ≤ 1000 ∧ Q (termD ((x, (ps.length : Int)) :: ps.flatten)) st
/-- _law_joined(name, parts): 0 name 1 parts 2 found 3 part -/
def t_law_joined : MS := sSeq (sAsg (mTup (mCons (mTup (mCons (mVar 0) (mCons (mCall oLen (mCons (mVar 1) (mNil))) (mNil)))) (mNil))) (gN 2))
    (sSeq (sFor (wSeq (mVar 1)) (gN 3) (sAsg (mBin oAdd (mVar 2) (mVar 3)) (gN 2)))
    (sRet (mVar 2)))
theorem kp_law_joined : Keeps 2 4 S_law_joined t_law_joined := by
  refine ⟨fun ds st Q ⟨x, a, ps, e, _⟩ => by rw [e]; rfl, fun ds st Q ⟨x, a, ps, e, la, hl, q⟩ => ?_⟩
  subst e
  have z1 : 0 + 1 ≤ sizeLine := by decide
  have z2 : 0 + 1 + 1 ≤ sizeLine := by decide
  unfold t_law_joined
  refine sSeq_t fun T hT => ?_
  walk_at "s"
  rw [List.length_map]
  subst hT
  refine sSeq_i (fun env st' => (∃ g3, env = [some (.str x), some (.ref a), some (termD ((x, (ps.length : Int)) :: ps.flatten)), g3]) ∧ st' = st) (fun nx hnx => ?_) ?_
  · walk_at "s"
    refine ⟨fun i env st' => ∃ g3, env = [some (.str x), some (.ref a), some (termD ((x, (ps.length : Int)) :: (ps.take i).flatten)), g3] ∧ st' = st, ⟨none, rfl, rfl⟩, fun i env st' _ ⟨_, _, e⟩ => by show rdL (st' a) = _; rw [e, la]; rfl, ?_, ?_⟩
    · rintro i z env st1 hz ⟨g3, rfl, rfl⟩
      rw [List.getElem?_map, Option.map_eq_some_iff] at hz
      obtain ⟨c, hc, rfl⟩ := hz
      have h1 := flat_take hc
      have h2 := flat_take_le ps (i + 1)
      have hsz : ((ps.take i).flatten.map signD).length + 1 + (c.map signD).length ≤ sizeLine := by
        rw [List.length_map, List.length_map, szL]
        omega
      have ea : Hid (((x, (ps.length : Int)) :: (ps.take i).flatten : Term).map signD ++ c.map signD = ((x, (ps.length : Int)) :: (ps.take (i + 1)).flatten : Term).map signD) := by
        show _ = _
        rw [take_snoc hc, List.flatten_append, ← List.map_append, List.cons_append, List.flatten_cons, List.flatten_nil, List.append_nil]
      clear q hnx
      rw [gN_a]
      unfold termD
      walk_at "s"
      exact ⟨_, congrArg (fun z => [some (D.str x), some (D.ref a), some (D.tup z), some (D.tup (c.map signD))]) ea⟩
    · rintro env st1 ⟨g3, rfl, rfl⟩
      rw [List.length_map, List.take_length]
      exact hnx _ _ ⟨⟨_, rfl⟩, rfl⟩
  · rintro env st1 ⟨⟨g3, rfl⟩, rfl⟩
    walk_at "s"
    exact endsOf_i q
def toldD (s : Sign) (u : Term) : D := .tup [signD s, .tup ((cuts u).map termD), .tup ((letL (s :: u)).map D.str), .int ((s :: u : Term).length : Nat)]
def S_law_told : DSp := fun vs st Q => ∃ (s : Sign) (u : Term) (b : Bool), vs = [termD (s :: u), .bl b] ∧ TermOk 1000 (s :: u) ∧ Wf (s :: u) ∧ (letL (s :: u)).length ≤ 60 ∧ ∀ st', Keep st st' → Q (toldD s u) st'
/-- _law_told(term, named): 0 term 1 named -/
def t_law_told : MS := sSeq (sIf (mTest (mVar 1)) (sRet (mTup (mCons (mCallK 1 [0] S_head_of (mCons (mVar 0) (mNil))) (mCons (mCallK 1 [0] S_parts_of (mCons (mVar 0) (mNil))) (mCons (mCallK 1 [0] S_letters_of (mCons (mVar 0) (mNil))) (mCons (mCallK 1 [0] S_size_of (mCons (mVar 0) (mNil))) (mNil))))))) (sNext))
    (sRet (mTup (mCons (mCall S_head_of (mCons (mVar 0) (mNil))) (mCons (mCall S_parts_of (mCons (mVar 0) (mNil))) (mCons (mCall S_letters_of (mCons (mVar 0) (mNil))) (mCons (mCall S_size_of (mCons (mVar 0) (mNil))) (mNil)))))))
theorem kp_law_told : Keeps 2 2 S_law_told t_law_told := by
  refine ⟨fun ds st Q ⟨s, u, b, e, _⟩ => by rw [e]; rfl, fun ds st Q ⟨s, u, b, e, ht, hw, h60, q⟩ => ?_⟩
  subst e
  have z4 : 0 + 1 + 1 + 1 + 1 ≤ sizeLine := by decide
  have fin : ∀ st1 st2 st3 st4, Keep st st1 → Keep st1 st2 → Keep st2 st3 → Keep st3 st4 → (endsOf Q).rt (D.tup [signD s, .tup ((cuts u).map termD), .tup ((letL (s :: u)).map D.str), .int ((s :: u : Term).length : Nat)]) st4 := fun st1 st2 st3 st4 u1 u2 u3 u4 => endsOf_i (q st4 (u1.trans (u2.trans (u3.trans u4))))
  unfold t_law_told
  cases b with
  | true =>
    refine sSeq_t fun T hT => ?_
    walk_at "i"
    clear hT T
    refine ⟨s, u, rfl, fun st1 u1 => ?_⟩
    walk_at "s"
    refine ⟨s, u, rfl, ht, hw, fun st2 u2 => ?_⟩
    walk_at "s"
    refine ⟨s :: u, rfl, ht.1, h60, fun st3 u3 => ?_⟩
    walk_at "s"
    refine ⟨s :: u, rfl, fun st4 u4 => ?_⟩
    walk_at "s"
    exact fin _ _ _ _ u1 u2 u3 u4
  | false =>
    refine sSeq_t fun T hT => ?_
    walk_at "i"
    subst hT
    walk_at "s"
    refine ⟨s, u, rfl, fun st1 u1 => ?_⟩
    walk_at "s"
    refine ⟨s, u, rfl, ht, hw, fun st2 u2 => ?_⟩
    walk_at "s"
    refine ⟨s :: u, rfl, ht.1, h60, fun st3 u3 => ?_⟩
    walk_at "s"
    refine ⟨s :: u, rfl, fun st4 u4 => ?_⟩
    walk_at "s"
    exact fin _ _ _ _ u1 u2 u3 u4
def S_law_due : DSp := fun vs st Q => ∃ (s : Sign) (u : Term), vs = [termD (s :: u)] ∧ TermOk 1000 (s :: u) ∧ Wf (s :: u) ∧ (letL (s :: u)).length ≤ 60 ∧ ∀ st', Keep st st' → Q (toldD s u) st'
/-- _law_due(term): 0 term -/
def t_law_due : MS := sRet (mTup (mCons (mBin oIx (mVar 0) (mC (.int 0))) (mCons (mCall oTuple (mCons (mCall S_law_parts (mCons (mVar 0) (mNil))) (mNil))) (mCons (mCall S_law_letters (mCons (mVar 0) (mNil))) (mCons (mCall oLen (mCons (mVar 0) (mNil))) (mNil))))))
theorem kp_law_due : Keeps 1 1 S_law_due t_law_due := by
  refine ⟨fun ds st Q ⟨s, u, e, _⟩ => by rw [e]; rfl, fun ds st Q ⟨s, u, e, ht, hw, h60, q⟩ => ?_⟩
  subst e
  have z4 : 0 + 1 + 1 + 1 + 1 ≤ sizeLine := by decide
  have hul : (cuts u).length ≤ u.length := cuts_len u
  have hl := ht.1
  rw [List.length_cons] at hl
  have e0 : ∀ (st : Sto) (Q : DK), oIx (termD (s :: u)) (.int 0) st Q = Q (signD s) st := fun st Q => by
    unfold termD
    walk_at "s"
  unfold t_law_due
  walk_at "s"
  refine ⟨s, u, rfl, ht, hw, fun p st1 hp u1 l1 => ?_⟩
  have hs : ((cuts u).map termD).length ≤ sizeLine := by rw [List.length_map, szL]; omega
  walk_at "s"
  refine ⟨s :: u, rfl, ht.1, h60, fun st2 u2 => ?_⟩
  have e1 : ∀ (st : Sto) (Q : DK), oLen [termD (s :: u)] st Q = Q (.int ((s :: u : Term).length : Nat)) st := fun st Q => by
    unfold termD
    rw [oLen_tup, List.length_map]
  walk_at "s"
  exact endsOf_i (q st2 (u1.trans u2))
end Tk02
end L2.DL

namespace L2.DL
open PySem PySem.Spec PyProof.Rows
local macro_rules | `(tactic| walk_at "s") => `(tactic| try simp only [sqAsg_a, sqDrop_a, sqPar_a, sqPar3_a, sqRet_a, sqNext_a, sqSeq_a, sNext_a, sBreak_a, sCont_a, sDrop_a, sRet_a, sRetN_a, sIf_a, sAsg_a, sPar_a, sPar3_a, mVar_a, vAt_a, mC_a, mBin_a, mTest_a, bAt_a, mAnd_a, mOr_a, mNot_a, mYes_a, mAndV_a, mOrV_a, mNotV_a, mIf_a, mNil_a, mCons_a, mTup_a, mLst_a, mCall_a, mCallK_a, mMeth_a, mSl_a, mNoPart_a, iAt_a, mPart_a, mIsi_b, tysO_some, List.any_cons, List.any_nil, Bool.or_false, Bool.false_or, Bool.or_true, Bool.true_or, Int.natCast_pos, gN_a, gTup_a, gCons_a, gNil_a, gSub_a, sFor_a, mLc_a, mDc_a, wSeq_a, sqO_tup, sqO_str, sqO_ref, wRng1_a, wRng2_b, wRng3_b, wEnum_a, enO_tup, enO_ref, mRev_a, revO_ref, List.getD_cons_zero, List.getD_cons_succ, ite_self, List.set_cons_zero, List.set_cons_succ, List.getElem?_cons_zero, List.getElem?_cons_succ, oAdd_int, oAdd_str, oAdd_tup, oAdd_ref, oSub_int, oMul_int, oDiv_int, oMod_int, oPow_int, oLt_int, oLe_int, oGt_int, oGe_int, oIs_nn, oIs_bn, oIs_in, oIs_sn, oIs_tn, oIs_rn, oIs_bb, oIs_nb, oIs_ib, oIs_sb, oIs_tb, oIs_rb, oIsi_int, oIsi_str, oIsi_bool, oIsi_tuple, oIsi_list, oIsi_dict, tyO_some, tyD_non, tyD_bl, tyD_int, tyD_str, tyD_tup, isi_facts, oEq_int, oNe_int, oEq_str, oNe_str, oSl_tup, oSl_str, oSl_ref, oLen_tup, oLen_str, oLen_ref, oAbs_int, oInt_int, oInt_bl, oMax_int, oMin_int, oTuple_tup, oTuple_ref, oList_tup, oList_str, oList_ref, oIx_tupE, oIx_ref, oAppend_ref, oPop_ref, oExtend_tupE, oSet_ref, isL_ref, isS_str, vO_some, ixO_lst, ixO_dicI, ixO_dicS, ixO_rodI, ixO_rodS, lsO_lst, rdO_lst, rdO_rol, lenO_lst, lenO_dic, lenO_rol, addO_lst, setO_lst, setO_dicI, setO_dicS, atI_zero, atI_one, atI_two, atI_end, startE, wipeE, List.map_cons, List.map_nil, List.length_cons, List.length_nil, List.replicate, List.cons_append, List.nil_append, Nat.reduceAdd, Nat.reduceSub, List.replicate_succ, List.replicate_zero, put_same, Nat.zero_le, Int.reduceLT, Int.reduceLE, Nat.reduceLT, Nat.reduceLeDiff, and_true, true_and, Bool.false_eq_true, ↓reduceIte, Bool.not_true, Bool.not_false, decide_true, decide_false, *])
local macro_rules | `(tactic| walk_at "i") => `(tactic| try simp only [sqIf_a, sqAsg_a, sqDrop_a, sqPar_a, sqPar3_a, sqRet_a, sqNext_a, sqSeq_a, sNext_a, sBreak_a, sCont_a, sDrop_a, sRet_a, sRetN_a, sIf_a, sAsg_a, sPar_a, sPar3_a, mVar_a, vAt_a, mC_a, mBin_a, mTest_a, bAt_a, mAnd_a, mOr_a, mNot_a, mYes_a, mAndV_a, mOrV_a, mNotV_a, mIf_a, mNil_a, mCons_a, mTup_a, mLst_a, mCall_a, mCallK_a, mMeth_a, mSl_a, mNoPart_a, iAt_a, mPart_a, mIsi_b, tysO_some, List.any_cons, List.any_nil, Bool.or_false, Bool.false_or, Bool.or_true, Bool.true_or, Int.natCast_pos, gN_a, gTup_a, gCons_a, gNil_a, gSub_a, sFor_a, mLc_a, mDc_a, wSeq_a, sqO_tup, sqO_str, sqO_ref, wRng1_a, wRng2_b, wRng3_b, wEnum_a, enO_tup, enO_ref, mRev_a, revO_ref, List.getD_cons_zero, List.getD_cons_succ, ite_self, List.set_cons_zero, List.set_cons_succ, List.getElem?_cons_zero, List.getElem?_cons_succ, oAdd_int, oAdd_str, oAdd_tup, oAdd_ref, oSub_int, oMul_int, oDiv_int, oMod_int, oPow_int, oLt_int, oLe_int, oGt_int, oGe_int, oIs_nn, oIs_bn, oIs_in, oIs_sn, oIs_tn, oIs_rn, oIs_bb, oIs_nb, oIs_ib, oIs_sb, oIs_tb, oIs_rb, oIsi_int, oIsi_str, oIsi_bool, oIsi_tuple, oIsi_list, oIsi_dict, tyO_some, tyD_non, tyD_bl, tyD_int, tyD_str, tyD_tup, isi_facts, oEq_int, oNe_int, oEq_str, oNe_str, oSl_tup, oSl_str, oSl_ref, oLen_tup, oLen_str, oLen_ref, oAbs_int, oInt_int, oInt_bl, oMax_int, oMin_int, oTuple_tup, oTuple_ref, oList_tup, oList_str, oList_ref, oIx_tupE, oIx_ref, oAppend_ref, oPop_ref, oExtend_tupE, oSet_ref, isL_ref, isS_str, vO_some, ixO_lst, ixO_dicI, ixO_dicS, ixO_rodI, ixO_rodS, lsO_lst, rdO_lst, rdO_rol, lenO_lst, lenO_dic, lenO_rol, addO_lst, setO_lst, setO_dicI, setO_dicS, atI_zero, atI_one, atI_two, atI_end, startE, wipeE, List.map_cons, List.map_nil, List.length_cons, List.length_nil, List.replicate, List.cons_append, List.nil_append, Nat.reduceAdd, Nat.reduceSub, List.replicate_succ, List.replicate_zero, put_same, Nat.zero_le, Int.reduceLT, Int.reduceLE, Nat.reduceLT, Nat.reduceLeDiff, and_true, true_and, Bool.false_eq_true, ↓reduceIte, Bool.not_true, Bool.not_false, decide_true, decide_false, *])
namespace Tk02
open Tk05
def okP (d : D) : Prop := datD d = true ∧ wD d ≤ 10000000
theorem okP_term {k : Nat} {t : Term} (h : TermOk k t) (hk : k ≤ 1000000) : okP (termD t) := ⟨datD_term t, by rw [wD_term]; have := h.1; omega⟩
theorem wD_terms : ∀ ps : List Term, wD.wDs (ps.map termD) = ps.length + 3 * ps.flatten.length
  | [] => rfl
  | p :: ps => by
    rw [List.map_cons, wD.wDs, wD_terms ps, wD_term, List.length_cons, List.flatten_cons, List.length_append]
    omega
theorem datD_terms (ps : List Term) : datD (.tup (ps.map termD)) = true := datDs_of fun d hd => by
  obtain ⟨t, _, rfl⟩ := List.mem_map.mp hd
  exact datD_term t
theorem okP_terms {ps : List Term} (h1 : ps.length ≤ 1000) (h2 : ps.flatten.length ≤ 1000) : okP (.tup (ps.map termD)) := ⟨datD_terms ps, by
  show 1 + wD.wDs (ps.map termD) ≤ _
  rw [wD_terms]
  omega⟩
theorem wD_strs : ∀ l : List Str, wD.wDs (l.map D.str) = l.length
  | [] => rfl
  | x :: l => by
    rw [List.map_cons, wD.wDs, wD_strs l, List.length_cons]
    simp [wD]
    omega
theorem okP_told {s : Sign} {u : Term} (h : (s :: u : Term).length ≤ 1000) : okP (toldD s u) := by
  have h1 := cuts_len u
  have h2 := letL_len (s :: u)
  have h3 : (cuts u).flatten.length = u.length := by rw [cuts_flat]
  rw [List.length_cons] at h h2
  refine ⟨datDs_of fun d hd => ?_, ?_⟩
  · simp only [List.mem_cons, List.not_mem_nil, or_false] at hd
    rcases hd with rfl | rfl | rfl | rfl
    · rfl
    · exact datD_terms _
    · refine datDs_of fun e he => ?_
      obtain ⟨y, _, rfl⟩ := List.mem_map.mp he
      rfl
    · rfl
  · have e : wD (toldD s u) = 1 + (3 + ((1 + wD.wDs ((cuts u).map termD)) + ((1 + wD.wDs ((letL (s :: u)).map D.str)) + (1 + 0)))) := rfl
    rw [e, wD_terms, wD_strs]
    omega
structure NS (st : Sto) (n m c : Addr) (k : Nat) : Prop where
  deal : Deal st n m
  lc : ∃ ds : List D, st c = some (.lst (ds.map twice)) ∧ ds.length ≤ k ∧ ∀ d ∈ ds, okP d
  cn : c ≠ n
  cm : c ≠ m
theorem NS.keep {st st' : Sto} {n m c : Addr} {k : Nat} (h : NS st n m c k) (u : Keep st st') : NS st' n m c k :=
  ⟨h.deal.keep u, (by obtain ⟨ds, l, q⟩ := h.lc; exact ⟨ds, u.l l, q⟩), h.cn, h.cm⟩
theorem NS.new {st : Sto} {n m c p : Addr} {o : Ob} {k : Nat} (h : NS st n m c k) (hp : Nf st p) : NS (put st p o) n m c k := h.keep (Keep.put hp)
theorem NS.up {st st' : Sto} {n m c : Addr} {k : Nat} (h : NS st n m c k) (u : Up n m st st') : NS st' n m c k :=
  ⟨u.deal, (by obtain ⟨ds, l, q⟩ := h.lc; exact ⟨ds, u.l h.cn h.cm l, q⟩), h.cn, h.cm⟩
theorem NS.rd {st : Sto} {n m c : Addr} {k : Nat} (h : NS st n m c k) : rdO (st c) fun _ => True := by
  obtain ⟨ds, l, _⟩ := h.lc
  rw [l]; trivial
def Of3 (n m c a : Addr) : Prop := a ≠ n ∧ a ≠ m ∧ a ≠ c
theorem NS.off {st : Sto} {n m c p : Addr} {k : Nat} (h : NS st n m c k) (hp : Nf st p) : Of3 n m c p := by
  obtain ⟨ds, l, _⟩ := h.lc
  exact ⟨(hp.deal h.deal).1, (hp.deal h.deal).2, hp.ne l⟩
theorem NS.mut {st : Sto} {n m c p : Addr} {o : Ob} {k : Nat} (h : NS st n m c k) (hp : Of3 n m c p) : NS (put st p o) n m c k :=
  ⟨h.deal.put hp.1 hp.2.1, (by obtain ⟨ds, l, q⟩ := h.lc; exact ⟨ds, by rw [put_ne hp.2.2.symm]; exact l, q⟩), h.cn, h.cm⟩
theorem NS.push {st : Sto} {n m c : Addr} {k : Nat} {d : D} {K : Sto → Prop} (h : NS st n m c k) (hd : okP d) (hk : k < 1000) (q : ∀ st', NS st' n m c (k + 1) → (∀ a o, a ≠ c → st a = some o → st' a = some o) → K st') :
    lsO (st c) fun xs => xs.length < sizeLine ∧ K (put st c (.lst (xs ++ [.tup [d, d]]))) := by
  obtain ⟨ds, l, hl, ho⟩ := h.lc
  rw [l, lsO_lst]
  refine ⟨by rw [List.length_map, szL]; omega, q _ ⟨h.deal.put h.cn h.cm, ⟨ds ++ [d], by rw [put_same, List.map_append]; rfl, by rw [List.length_append, List.length_singleton]; omega, fun e he => ?_⟩, h.cn, h.cm⟩ fun a o ha e => by rw [put_ne ha]; exact e⟩
  rcases List.mem_append.mp he with he | he
  · exact ho e he
  · rw [List.mem_singleton.mp he]; exact hd
theorem NS.more {st : Sto} {n m c : Addr} {k j : Nat} (h : NS st n m c k) (hj : k ≤ j) : NS st n m c j :=
  ⟨h.deal, (by obtain ⟨ds, l, a, b⟩ := h.lc; exact ⟨ds, l, by omega, b⟩), h.cn, h.cm⟩
theorem nd_le {α : Type} [DecidableEq α] : ∀ {l m : List α}, l.Nodup → (∀ x ∈ l, x ∈ m) → l.length ≤ m.length
  | [], _, _, _ => Nat.zero_le _
  | x :: l, m, nd, h => by
    obtain ⟨h1, h2⟩ := List.nodup_cons.mp nd
    have hx := h x (List.mem_cons_self ..)
    have e := List.length_erase_of_mem hx
    have hp : 0 < m.length := List.length_pos_of_mem hx
    have := nd_le (m := m.erase x) h2 fun y hy => (List.mem_erase_of_ne (fun c : y = x => h1 (by rw [← c]; exact hy))).mpr (h y (List.mem_cons_of_mem _ hy))
    rw [List.length_cons]
    omega
/-- a head with parts -/
def joint (x : Str) (ps : List Term) : Term := (x, (ps.length : Int)) :: ps.flatten
theorem wf_joint {x : Str} {ps : List Term} (h : ∀ p ∈ ps, Wf p) : Wf (joint x ps) := by
  refine ⟨by omega, by show (-1 : Int) ≤ (ps.length : Int); omega, ?_⟩
  have e : arity (x, (ps.length : Int)) = ps.length := by
    unfold arity
    rw [if_neg (by show ¬ (ps.length : Int) = -1; omega)]
    exact Int.toNat_natCast _
  rw [e]
  have := Rd.flat h
  rw [show 1 - 1 + ps.length = ps.length by omega]
  exact this
theorem joint_ok {x : Str} {ps : List Term} {k : Nat} (hx : nmOk x) (h : ∀ p ∈ ps, ∀ s ∈ p, nmOk s.1) (hk : ps.flatten.length + 1 ≤ k) : TermOk k (joint x ps) := by
  refine ⟨by unfold joint; rw [List.length_cons]; exact hk, fun s hs => ?_⟩
  rcases List.mem_cons.mp hs with rfl | hs
  · exact hx
  · obtain ⟨p, hp, hs⟩ := List.mem_flatten.mp hs
    exact h p hp s hs
theorem great_few {x : Str} {due : Term} {k : Nat} : (letL (joint x (List.replicate k due))).length ≤ due.length := by
  have h : ∀ y ∈ letL (joint x (List.replicate k due)), y ∈ lets due := fun y hy => by
    obtain ⟨s, hs, rfl⟩ := List.mem_map.mp (letL_mem.mp hy)
    obtain ⟨h1, h2⟩ := List.mem_filter.mp hs
    have h2 : s.2 = -1 := by simpa using h2
    rcases List.mem_cons.mp h1 with rfl | h1
    · have : ((List.replicate k due).length : Int) = -1 := h2
      omega
    · obtain ⟨p, hp, hs⟩ := List.mem_flatten.mp h1
      rw [(List.mem_replicate.mp hp).2] at hs
      exact List.mem_map.mpr ⟨s, List.mem_filter.mpr ⟨hs, by simpa using h2⟩, rfl⟩
  exact Nat.le_trans (nd_le (letL_nd _) h) (lets_len due)
theorem rep_len (due : Term) : ∀ k : Nat, (List.replicate k due).flatten.length = k * due.length
  | 0 => by simp
  | k + 1 => by rw [List.replicate_succ, List.flatten_cons, List.length_append, rep_len due k, Nat.succ_mul]; omega
theorem rep_terms (due : Term) : ∀ k : Nat, (List.replicate k [termD due]).flatten = (List.replicate k due).map termD
  | 0 => rfl
  | k + 1 => by rw [List.replicate_succ, List.flatten_cons, rep_terms due k, List.replicate_succ, List.map_cons]; rfl
theorem flat_le {b : Nat} : ∀ {ps : List Term}, (∀ p ∈ ps, p.length ≤ b) → ps.flatten.length ≤ ps.length * b
  | [], _ => by simp
  | p :: ps, h => by
    have h1 := h p (List.mem_cons_self ..)
    have h2 := flat_le fun q hq => h q (List.mem_cons_of_mem _ hq)
    rw [List.flatten_cons, List.length_append, List.length_cons, Nat.succ_mul]
    omega
theorem back {s : Sign} {u : Term} (h : Wf (s :: u)) (h0 : 0 ≤ s.2) : termD ((s.1, ((cuts u).length : Int)) :: (cuts u).flatten) = termD (s :: u) := by
  have h1 : (cuts u).length = 1 - 1 + arity s := (Rd.cuts h.2.2).1
  have h2 : arity s = s.2.toNat := by unfold arity; rw [if_neg (by omega)]
  have h3 : ((cuts u).length : Int) = s.2 := by omega
  rw [cuts_flat, h3]
def toI : D → Int
  | .int v => v
  | _ => 0
theorem wf_one' (a : Str) : Wf [(a, (-1 : Int))] := ⟨by omega, by show (-1 : Int) ≤ -1; omega, rfl⟩
theorem wf_zero' (a : Str) : Wf [(a, (0 : Int))] := ⟨by omega, by show (-1 : Int) ≤ 0; omega, rfl⟩
theorem wf_ne {t : Term} (h : Wf t) : ∃ s u, t = s :: u := by
  cases t with
  | nil => exact absurd h (by show ¬ (1 = 0); omega)
  | cons a b => exact ⟨a, b, rfl⟩
theorem first0 {s : Sign} {u : Term} {st : Sto} {Q : DK} : oIx (termD (s :: u)) (.int 0) st Q = Q (signD s) st := by
  unfold termD
  walk_at "s"
theorem oMul_l {a : Addr} {xs : List D} {k : Int} {st : Sto} {Q : DK} (h : st a = some (.lst xs)) (h1 : -(2 ^ 63) ≤ k ∧ k < 2 ^ 63) (h2 : xs.length * k.toNat ≤ sizeLine) (q : ∀ p, Nf st p → Q (.ref p) (put st p (.lst (List.replicate k.toNat xs).flatten))) : oMul (.ref a) (.int k) st Q := ⟨xs, h, h1, h2, q⟩
end Tk02
end L2.DL

namespace L2.DL
open PySem PySem.Spec PyProof.Rows
local macro_rules | `(tactic| walk_at "s") => `(tactic| try simp only [sqAsg_a, sqDrop_a, sqPar_a, sqPar3_a, sqRet_a, sqNext_a, sqSeq_a, sNext_a, sBreak_a, sCont_a, sDrop_a, sRet_a, sRetN_a, sIf_a, sAsg_a, sPar_a, sPar3_a, mVar_a, vAt_a, mC_a, mBin_a, mTest_a, bAt_a, mAnd_a, mOr_a, mNot_a, mYes_a, mAndV_a, mOrV_a, mNotV_a, mIf_a, mNil_a, mCons_a, mTup_a, mLst_a, mCall_a, mCallK_a, mMeth_a, mSl_a, mNoPart_a, iAt_a, mPart_a, mIsi_b, tysO_some, List.any_cons, List.any_nil, Bool.or_false, Bool.false_or, Bool.or_true, Bool.true_or, Int.natCast_pos, gN_a, gTup_a, gCons_a, gNil_a, gSub_a, sFor_a, mLc_a, mDc_a, wSeq_a, sqO_tup, sqO_str, sqO_ref, wRng1_a, wRng2_b, wRng3_b, wEnum_a, enO_tup, enO_ref, mRev_a, revO_ref, List.getD_cons_zero, List.getD_cons_succ, ite_self, List.set_cons_zero, List.set_cons_succ, List.getElem?_cons_zero, List.getElem?_cons_succ, oAdd_int, oAdd_str, oAdd_tup, oAdd_ref, oSub_int, oMul_int, oDiv_int, oMod_int, oPow_int, oLt_int, oLe_int, oGt_int, oGe_int, oIs_nn, oIs_bn, oIs_in, oIs_sn, oIs_tn, oIs_rn, oIs_bb, oIs_nb, oIs_ib, oIs_sb, oIs_tb, oIs_rb, oIsi_int, oIsi_str, oIsi_bool, oIsi_tuple, oIsi_list, oIsi_dict, tyO_some, tyD_non, tyD_bl, tyD_int, tyD_str, tyD_tup, isi_facts, oEq_int, oNe_int, oEq_str, oNe_str, oSl_tup, oSl_str, oSl_ref, oLen_tup, oLen_str, oLen_ref, oAbs_int, oInt_int, oInt_bl, oMax_int, oMin_int, oTuple_tup, oTuple_ref, oList_tup, oList_str, oList_ref, oIx_tupE, oIx_ref, oAppend_ref, oPop_ref, oExtend_tupE, oSet_ref, isL_ref, isS_str, vO_some, ixO_lst, ixO_dicI, ixO_dicS, ixO_rodI, ixO_rodS, lsO_lst, rdO_lst, rdO_rol, lenO_lst, lenO_dic, lenO_rol, addO_lst, setO_lst, setO_dicI, setO_dicS, atI_zero, atI_one, atI_two, atI_end, startE, wipeE, List.map_cons, List.map_nil, List.length_cons, List.length_nil, List.replicate, List.cons_append, List.nil_append, Nat.reduceAdd, Nat.reduceSub, List.replicate_succ, List.replicate_zero, put_same, Nat.zero_le, Int.reduceLT, Int.reduceLE, Nat.reduceLT, Nat.reduceLeDiff, and_true, true_and, Bool.false_eq_true, ↓reduceIte, Bool.not_true, Bool.not_false, decide_true, decide_false, *])
local macro_rules | `(tactic| walk_at "i") => `(tactic| try simp only [sqIf_a, sqAsg_a, sqDrop_a, sqPar_a, sqPar3_a, sqRet_a, sqNext_a, sqSeq_a, sNext_a, sBreak_a, sCont_a, sDrop_a, sRet_a, sRetN_a, sIf_a, sAsg_a, sPar_a, sPar3_a, mVar_a, vAt_a, mC_a, mBin_a, mTest_a, bAt_a, mAnd_a, mOr_a, mNot_a, mYes_a, mAndV_a, mOrV_a, mNotV_a, mIf_a, mNil_a, mCons_a, mTup_a, mLst_a, mCall_a, mCallK_a, mMeth_a, mSl_a, mNoPart_a, iAt_a, mPart_a, mIsi_b, tysO_some, List.any_cons, List.any_nil, Bool.or_false, Bool.false_or, Bool.or_true, Bool.true_or, Int.natCast_pos, gN_a, gTup_a, gCons_a, gNil_a, gSub_a, sFor_a, mLc_a, mDc_a, wSeq_a, sqO_tup, sqO_str, sqO_ref, wRng1_a, wRng2_b, wRng3_b, wEnum_a, enO_tup, enO_ref, mRev_a, revO_ref, List.getD_cons_zero, List.getD_cons_succ, ite_self, List.set_cons_zero, List.set_cons_succ, List.getElem?_cons_zero, List.getElem?_cons_succ, oAdd_int, oAdd_str, oAdd_tup, oAdd_ref, oSub_int, oMul_int, oDiv_int, oMod_int, oPow_int, oLt_int, oLe_int, oGt_int, oGe_int, oIs_nn, oIs_bn, oIs_in, oIs_sn, oIs_tn, oIs_rn, oIs_bb, oIs_nb, oIs_ib, oIs_sb, oIs_tb, oIs_rb, oIsi_int, oIsi_str, oIsi_bool, oIsi_tuple, oIsi_list, oIsi_dict, tyO_some, tyD_non, tyD_bl, tyD_int, tyD_str, tyD_tup, isi_facts, oEq_int, oNe_int, oEq_str, oNe_str, oSl_tup, oSl_str, oSl_ref, oLen_tup, oLen_str, oLen_ref, oAbs_int, oInt_int, oInt_bl, oMax_int, oMin_int, oTuple_tup, oTuple_ref, oList_tup, oList_str, oList_ref, oIx_tupE, oIx_ref, oAppend_ref, oPop_ref, oExtend_tupE, oSet_ref, isL_ref, isS_str, vO_some, ixO_lst, ixO_dicI, ixO_dicS, ixO_rodI, ixO_rodS, lsO_lst, rdO_lst, rdO_rol, lenO_lst, lenO_dic, lenO_rol, addO_lst, setO_lst, setO_dicI, setO_dicS, atI_zero, atI_one, atI_two, atI_end, startE, wipeE, List.map_cons, List.map_nil, List.length_cons, List.length_nil, List.replicate, List.cons_append, List.nil_append, Nat.reduceAdd, Nat.reduceSub, List.replicate_succ, List.replicate_zero, put_same, Nat.zero_le, Int.reduceLT, Int.reduceLE, Nat.reduceLT, Nat.reduceLeDiff, and_true, true_and, Bool.false_eq_true, ↓reduceIte, Bool.not_true, Bool.not_false, decide_true, decide_false, *])
namespace Tk02
open Tk05
def S_law : DSp := fun vs st Q => ∃ (a : Addr) (ns : List Int), vs = [.ref a] ∧ st a = some (.rol (ns.map D.int)) ∧ ∀ st', Q (.bl true) st'
/-- law(script): 0 script 1 deal 2 names 3 pairs 4 turn 5 term 6 name 7 parts 8 due 9 kept 10 told 11 many 12 great 13 number 14 part -/
def t_law : MS := sSeq (sAsg (mCall S_law_deal (mCons (mVar 0) (mCons (mC (.int 2)) (mNil)))) (gN 1))
    (sSeq (sAsg (mTup (mCons (mCall S_law_names (mCons (mVar 1) (mCons (mC (.int 9)) (mNil)))) (mCons (mLst (mNil)) (mNil)))) (gTup 2 (gCons (gN 2) (gCons (gN 3) (gNil)))))
    (sSeq (sFor (wRng1 (mC (.int 5))) (gN 4) (sSeq (sAsg (mCall S_law_shaped (mCons (mVar 1) (mCons (mSl (mVar 2) (mNoPart) (mPart (mC (.int 5)))) (mCons (mSl (mVar 2) (mPart (mC (.int 4))) (mNoPart)) (mNil))))) (gN 5))
    (sSeq (sDrop (mMeth isL oAppend (mVar 3) (mCons (mTup (mCons (mCall S_law_told (mCons (mVar 5) (mCons (mBin oEq (mBin oMod (mCall oInt (mCons (mVar 4) (mNil))) (mC (.int 2))) (mC (.int 0))) (mNil)))) (mCons (mCall S_law_due (mCons (mVar 5) (mNil))) (mNil)))) (mNil))))
    (sSeq (sAsg (mCall S_law_of (mCons (mVar 1) (mCons (mVar 2) (mNil)))) (gN 6))
    (sSeq (sDrop (mMeth isL oAppend (mVar 3) (mCons (mTup (mCons (mIf (mTest (mBin oLt (mVar 4) (mC (.int 3)))) (mCall S_letter (mCons (mVar 6) (mNil))) (mCallK 1 [0] S_letter (mCons (mVar 6) (mNil)))) (mCons (mTup (mCons (mTup (mCons (mVar 6) (mCons (mBin oSub (mC (.int 0)) (mC (.int 1))) (mNil)))) (mNil))) (mNil)))) (mNil))))
    (sSeq (sAsg (mLc (wRng1 (mCall S_law_of (mCons (mVar 1) (mCons (mLst (mCons (mC (.int 0)) (mCons (mC (.int 1)) (mCons (mC (.int 2)) (mCons (mC (.int 3)) (mCons (mC (.int 4)) (mCons (mC (.int 23)) (mNil)))))))) (mNil))))) (gN 13) (mYes) (mCall S_law_term (mCons (mVar 1) (mCons (mVar 2) (mCons (mVar 2) (mCons (mCall S_law_of (mCons (mVar 1) (mCons (mLst (mCons (mC (.int 1)) (mCons (mC (.int 2)) (mCons (mC (.int 5)) (mCons (mC (.int 8)) (mNil)))))) (mNil)))) (mNil)))))) [13]) (gN 7))
    (sSeq (sAsg (mIf (mTest (mBin oLt (mCall oLen (mCons (mVar 7) (mNil))) (mC (.int 9)))) (mVar 7) (mLc (wRng1 (mC (.int 23))) (gN 13) (mYes) (mTup (mCons (mTup (mCons (mVar 6) (mCons (mIf (mTest (mBin oEq (mBin oMod (mCall oInt (mCons (mVar 13) (mNil))) (mC (.int 3))) (mC (.int 0)))) (mBin oSub (mC (.int 0)) (mC (.int 1))) (mC (.int 0))) (mNil)))) (mNil))) [13])) (gN 7))
    (sSeq (sPar 8 9 (mCons (mCall S_law_joined (mCons (mVar 6) (mCons (mVar 7) (mNil)))) (mCons (mLc (wSeq (mVar 7)) (gN 14) (mYes) (mVar 14) [14]) (mNil))))
    (sSeq (sAsg (mIf (mTest (mBin oEq (mBin oMod (mCall oInt (mCons (mVar 4) (mNil))) (mC (.int 2))) (mC (.int 0)))) (mCall S_built (mCons (mVar 6) (mCons (mVar 7) (mNil)))) (mCallK 2 [0, 1] S_built (mCons (mVar 6) (mCons (mCall oTuple (mCons (mVar 7) (mNil))) (mNil))))) (gN 10))
    (sSeq (sDrop (mMeth isL oAppend (mVar 3) (mCons (mTup (mCons (mCall oTuple (mCons (mVar 7) (mNil))) (mCons (mCall oTuple (mCons (mVar 9) (mNil))) (mNil)))) (mNil))))
    (sSeq (sDrop (mMeth isL oAppend (mVar 3) (mCons (mTup (mCons (mCall S_built (mCons (mVar 6) (mCons (mCall oTuple (mCons (mVar 7) (mNil))) (mNil)))) (mCons (mVar 8) (mNil)))) (mNil))))
    (sSeq (sDrop (mMeth isL oAppend (mVar 7) (mCons (mTup (mCons (mTup (mCons (mVar 6) (mCons (mC (.int 0)) (mNil)))) (mNil))) (mNil))))
    (sSeq (sDrop (mMeth isL oAppend (mVar 3) (mCons (mTup (mCons (mCall S_built (mCons (mVar 6) (mCons (mVar 7) (mNil)))) (mCons (mCall S_law_joined (mCons (mVar 6) (mCons (mVar 7) (mNil)))) (mNil)))) (mNil))))
    (sSeq (sDrop (mMeth isL oAppend (mVar 3) (mCons (mTup (mCons (mVar 10) (mCons (mVar 8) (mNil)))) (mNil))))
    (sSeq (sDrop (mMeth isL oAppend (mVar 3) (mCons (mTup (mCons (mCall S_law_told (mCons (mVar 10) (mCons (mBin oEq (mBin oMod (mCall oInt (mCons (mVar 4) (mNil))) (mC (.int 2))) (mC (.int 1))) (mNil)))) (mCons (mCall S_law_due (mCons (mVar 8) (mNil))) (mNil)))) (mNil))))
    (sSeq (sIf (mTest (mBin oGe (mBin oIx (mBin oIx (mVar 5) (mC (.int 0))) (mC (.int 1))) (mC (.int 0)))) (sDrop (mMeth isL oAppend (mVar 3) (mCons (mTup (mCons (mCall S_built (mCons (mBin oIx (mBin oIx (mVar 5) (mC (.int 0))) (mC (.int 0))) (mCons (mCall S_parts_of (mCons (mVar 5) (mNil))) (mNil)))) (mCons (mVar 5) (mNil)))) (mNil)))) (sNext))
    (sSeq (sAsg (mBin oAdd (mC (.int 1)) (mCall S_law_any (mCons (mVar 1) (mCons (mCall oMax (mCons (mC (.int 1)) (mCons (mCall oMin (mCons (mC (.int 4)) (mCons (mBin oDiv (mC (.int 390)) (mCall oLen (mCons (mVar 8) (mNil)))) (mNil)))) (mNil)))) (mNil))))) (gN 11))
    (sSeq (sAsg (mCall S_law_joined (mCons (mVar 6) (mCons (mBin oMul (mLst (mCons (mVar 8) (mNil))) (mVar 11)) (mNil)))) (gN 12))
    (sDrop (mMeth isL oAppend (mVar 3) (mCons (mTup (mCons (mCall S_law_told (mCons (mCall S_built (mCons (mVar 6) (mCons (mBin oMul (mLst (mCons (mVar 10) (mNil))) (mVar 11)) (mNil)))) (mCons (mC (.bl false)) (mNil)))) (mCons (mCall S_law_due (mCons (mVar 12) (mNil))) (mNil)))) (mNil))))))))))))))))))))))
    (sRet (mCall S_law_all (mCons (mVar 3) (mNil))))))
theorem kp_law : Keeps 1 15 S_law t_law := by
  refine ⟨fun ds st Q ⟨a, ns, e, _⟩ => by rw [e]; rfl, fun ds st Q ⟨a, ns, e, la, q⟩ => ?_⟩
  subst e
  have z0 : 0 ≤ sizeLine := by decide
  have z1 : 0 + 1 ≤ sizeLine := by decide
  have z2 : 0 + 1 + 1 ≤ sizeLine := by decide
  have z4 : 0 + 1 + 1 + 1 + 1 ≤ sizeLine := by decide
  have z6 : 0 + 1 + 1 + 1 + 1 + 1 + 1 ≤ sizeLine := by decide
  unfold t_law
  refine sSeq_t fun T hT => ?_
  walk_at "s"
  refine ⟨a, ns, 2, rfl, la, by omega, by omega, fun n m st1 hd => ?_⟩
  clear la
  subst hT
  refine sSeq_t fun T hT => ?_
  walk_at "s"
  refine ⟨n, m, 9, rfl, hd, by omega, fun names b st2 nl nd nok bn bm u2 lb nb => ?_⟩
  walk_at "s"
  intro c hc
  have hcd := hc.deal u2.deal
  have bc : b ≠ c := fun e => hc.ne lb e.symm
  have nsA : NS (put st2 c (.lst [])) n m c 0 := ⟨u2.deal.put hcd.1 hcd.2, ⟨[], put_same, by simp, by simp⟩, hcd.1, hcd.2⟩
  have fA_na := (Keep.put (o := .lst []) hc).l lb
  generalize put st2 c (.lst []) = stA at *
  clear lb hc u2 nb hd hcd nd
  subst hT
  have o_na : Of3 n m c b := ⟨bn, bm, bc⟩
  refine sSeq_i (fun env st' => ∃ (g4 g5 g6 g7 g8 g9 g10 g11 g12 g13 g14 : Option D), env = [some (.ref a), some (.ref n), some (.ref b), some (.ref c), g4, g5, g6, g7, g8, g9, g10, g11, g12, g13, g14] ∧ NS st' n m c 45) (fun nx hnx => ?_) ?_
  · walk_at "s"
    refine ⟨by omega, fun i env st' => ∃ (g4 g5 g6 g7 g8 g9 g10 g11 g12 g13 g14 : Option D), env = [some (.ref a), some (.ref n), some (.ref b), some (.ref c), g4, g5, g6, g7, g8, g9, g10, g11, g12, g13, g14] ∧ NS st' n m c (9 * i) ∧ st' b = some (.lst (names.map D.str)), ⟨none, none, none, none, none, none, none, none, none, none, none, rfl, nsA, fA_na⟩, fun _ _ _ _ _ => trivial, ?_, ?_⟩
    · rintro i x env stB hx ⟨g4, g5, g6, g7, g8, g9, g10, g11, g12, g13, g14, rfl, ns0, f0_na⟩
      obtain ⟨hk, rfl⟩ := rangeD_get hx
      have hi6 : i < 5 := hk
      clear hnx nsA fA_na hx q hk
      rw [gN_a]
      generalize stB = st0 at *
      have ct5 : cutL (names.map D.str) none (some 5) = (names.take 5).map D.str := by rw [cutL_strs]; exact congrArg _ (cutL_to names 5)
      have cf4 : cutL (names.map D.str) (some 4) none = (names.drop 4).map D.str := by rw [cutL_strs]; exact congrArg _ (cutL_from names 4)
      have l5 : (names.take 5).length = 5 := by rw [List.length_take]; omega
      have l4 : (names.drop 4).length = 5 := by rw [List.length_drop]; omega
      have okB : ∀ x ∈ names.take 5 ++ names.drop 4, nmOk x := fun x hx => by
        rcases List.mem_append.mp hx with hx | hx
        · exact nok x (List.mem_of_mem_take hx)
        · exact nok x (List.mem_of_mem_drop hx)
      have okN : ∀ x ∈ names ++ names, nmOk x := fun x hx => by rcases List.mem_append.mp hx with hx | hx <;> exact nok x hx
      generalize names.take 5 = n5 at *
      generalize names.drop 4 = n4 at *
      refine sSeq_t fun T hT => ?_
      walk_at "s"
      intro q1 hnew
      have o_q1 := ns0.off hnew
      have ns1 := ns0.new (o := (.lst (n5.map D.str))) hnew
      have f1_na := (Keep.put (o := (.lst (n5.map D.str))) hnew).l f0_na
      have f1_q1 : put st0 q1 (.lst (n5.map D.str)) q1 = some (.lst (n5.map D.str)) := put_same
      generalize put st0 q1 (.lst (n5.map D.str)) = st1 at *
      clear ns0 f0_na hnew
      walk_at "s"
      intro q2 hnew
      have o_q2 := ns1.off hnew
      have ns2 := ns1.new (o := (.lst (n4.map D.str))) hnew
      have f2_na := (Keep.put (o := (.lst (n4.map D.str))) hnew).l f1_na
      have f2_q1 := (Keep.put (o := (.lst (n4.map D.str))) hnew).l f1_q1
      have f2_q2 : put st1 q2 (.lst (n4.map D.str)) q2 = some (.lst (n4.map D.str)) := put_same
      generalize put st1 q2 (.lst (n4.map D.str)) = st2 at *
      clear ns1 f1_na f1_q1 hnew
      refine ⟨n, m, q1, q2, n5, n4, rfl, ns2.deal, ⟨o_q1.1, o_q1.2.1, f2_q1⟩, ⟨o_q2.1, o_q2.2.1, f2_q2⟩, by omega, by omega, by omega, by omega, okB, fun term s3 ht wt u3 => ?_⟩
      generalize s3 = st3 at *
      have ns3 := ns2.up u3
      have f3_na : st3 b = some (.lst (names.map D.str)) := u3.l o_na.1 o_na.2.1 f2_na
      have f3_q1 : st3 q1 = some (.lst (n5.map D.str)) := u3.l o_q1.1 o_q1.2.1 f2_q1
      have f3_q2 : st3 q2 = some (.lst (n4.map D.str)) := u3.l o_q2.1 o_q2.2.1 f2_q2
      clear ns2 f2_na f2_q1 f2_q2 u3
      clear f3_q1 f3_q2
      obtain ⟨s, u, rfl⟩ := wf_ne wt
      have ht24 := ht.1
      have ht1000 : TermOk 1000 (s :: u) := ⟨by omega, ht.2⟩
      have hlt : (letL (s :: u)).length ≤ 60 := Nat.le_trans (letL_len _) (by omega)
      have okt : okP (toldD s u) := okP_told ht1000.1
      clear ct5 cf4 okB l5 l4
      subst hT
      refine sSeq_t fun T hT => ?_
      have rd := ns3.rd
      walk_at "s"
      clear rd
      refine ⟨s, u, _, rfl, ht1000, wt, hlt, fun s4 u4 => ?_⟩
      generalize s4 = st4 at *
      have ns4 := ns3.keep u4
      have f4_na : st4 b = some (.lst (names.map D.str)) := u4.l f3_na
      clear ns3 f3_na u4
      refine ⟨s, u, rfl, ht1000, wt, hlt, fun s5 u5 => ?_⟩
      generalize s5 = st5 at *
      have ns5 := ns4.keep u5
      have f5_na : st5 b = some (.lst (names.map D.str)) := u5.l f4_na
      clear ns4 f4_na u5
      refine ns5.push (d := toldD (s) (u)) (okt) (by omega) fun st6 ns6 kk => ?_
      have f6_na : st6 b = some (.lst (names.map D.str)) := kk _ _ o_na.2.2 f5_na
      clear ns5 f5_na kk
      subst hT
      refine sSeq_t fun T hT => ?_
      walk_at "s"
      refine ⟨n, m, .ref b, _, rfl, ns6.deal, ⟨o_na.1, o_na.2.1, f6_na⟩, by rw [List.length_map]; omega, by rw [List.length_map]; omega, fun d s7 hdm u7 => ?_⟩
      generalize s7 = st7 at *
      have ns7 := ns6.up u7
      have f7_na : st7 b = some (.lst (names.map D.str)) := u7.l o_na.1 o_na.2.1 f6_na
      clear ns6 f6_na u7
      obtain ⟨x, hxm, rfl⟩ := List.mem_map.mp hdm
      have hx := nok x hxm
      have okl : okP (termD [(x, -1)]) := okP_term (k := 1) ⟨by simp, fun s hs => by rw [List.mem_singleton.mp hs]; exact hx⟩ (by omega)
      clear hdm
      subst hT
      refine sSeq_i (fun env st' => env = [some (.ref a), some (.ref n), some (.ref b), some (.ref c), some (.int (0 + (i : Int))), some (termD (s :: u)), some (.str x), g7, g8, g9, g10, g11, g12, g13, g14] ∧ NS st' n m c (9 * i + 2) ∧ st' b = some (.lst (names.map D.str))) (fun nx2 hnx2 => ?_) ?_
      · by_cases h3 : (0 : Int) + (i : Int) < 3
        · have rd := ns7.rd
          walk_at "s"
          clear rd
          refine ⟨x, rfl, ?_⟩
          refine ns7.push (d := termD [(x, -1)]) okl (by omega) fun st' ns' kk => hnx2 _ _ ⟨rfl, ns', kk _ _ o_na.2.2 f7_na⟩
        · have rd := ns7.rd
          walk_at "s"
          clear rd
          refine ⟨x, rfl, ?_⟩
          refine ns7.push (d := termD [(x, -1)]) okl (by omega) fun st' ns' kk => hnx2 _ _ ⟨rfl, ns', kk _ _ o_na.2.2 f7_na⟩
      · rintro env st27 ⟨rfl, ns27, f27_na⟩
        clear ns7 f7_na 
        refine sSeq_t fun T hT => ?_
        walk_at "s"
        intro p1 hnew
        have o_p1 := ns27.off hnew
        have ns28 := ns27.new (o := (.lst ([.int 0, .int 1, .int 2, .int 3, .int 4, .int 23]))) hnew
        have f28_na := (Keep.put (o := (.lst ([.int 0, .int 1, .int 2, .int 3, .int 4, .int 23]))) hnew).l f27_na
        have f28_p1 : put st27 p1 (.lst ([.int 0, .int 1, .int 2, .int 3, .int 4, .int 23])) p1 = some (.lst ([.int 0, .int 1, .int 2, .int 3, .int 4, .int 23])) := put_same
        generalize put st27 p1 (.lst ([.int 0, .int 1, .int 2, .int 3, .int 4, .int 23])) = st28 at *
        clear ns27 f27_na hnew
        refine ⟨n, m, .ref p1, _, rfl, ns28.deal, ⟨o_p1.1, o_p1.2.1, f28_p1⟩, by simp, by simp, fun d s29 hdm u29 => ?_⟩
        generalize s29 = st29 at *
        have ns29 := ns28.up u29
        have f29_na : st29 b = some (.lst (names.map D.str)) := u29.l o_na.1 o_na.2.1 f28_na
        have f29_p1 : st29 p1 = some (.lst ([.int 0, .int 1, .int 2, .int 3, .int 4, .int 23])) := u29.l o_p1.1 o_p1.2.1 f28_p1
        clear ns28 f28_na f28_p1 u29
        clear f29_p1
        obtain ⟨pk, rfl, pk0⟩ : ∃ pk : Nat, d = .int pk ∧ (pk ≤ 4 ∨ pk = 23) := by
          simp only [List.mem_cons, List.not_mem_nil, or_false] at hdm
          rcases hdm with rfl | rfl | rfl | rfl | rfl | rfl
          · exact ⟨0, rfl, by omega⟩
          · exact ⟨1, rfl, by omega⟩
          · exact ⟨2, rfl, by omega⟩
          · exact ⟨3, rfl, by omega⟩
          · exact ⟨4, rfl, by omega⟩
          · exact ⟨23, rfl, by omega⟩
        clear hdm
        walk_at "s"
        refine ⟨by omega, lc_up (n := n) (m := m) (fun _ o => ∃ t : Term, o = some (termD t) ∧ TermOk 8 t ∧ Wf t) ns29.deal (fun _ _ => trivial) (by rw [rangeD_len, szL]; omega) (fun y hy st7 u7 P N hP hN => ?_) fun pa cs st30 hpa hF u30 lpa => ?_⟩
        · have f7 := u7.l o_na.1 o_na.2.1 f29_na
          have d7 := u7.deal
          clear hN hy ns29 f29_na
          walk_at "s"
          intro q1 hq1
          obtain ⟨qn, qm⟩ := hq1.deal d7
          have f8 := (Keep.put (o := (.lst [.int 1, .int 2, .int 5, .int 8])) hq1).l f7
          have u8 := Up.of d7 (Keep.put (o := (.lst [.int 1, .int 2, .int 5, .int 8])) hq1)
          have l8 : put st7 q1 (.lst [.int 1, .int 2, .int 5, .int 8]) q1 = some (.lst [.int 1, .int 2, .int 5, .int 8]) := put_same
          generalize put st7 q1 (.lst [.int 1, .int 2, .int 5, .int 8]) = st8 at *
          refine ⟨n, m, .ref q1, _, rfl, u8.deal, ⟨qn, qm, l8⟩, by simp, by simp, fun d st9 hdm u9 => ?_⟩
          have u10 := u8.trans u9
          have f10 := u9.l o_na.1 o_na.2.1 f8
          obtain ⟨lk, rfl, lk0, lk1⟩ : ∃ lk : Nat, d = .int lk ∧ 0 < lk ∧ lk ≤ 8 := by
            simp only [List.mem_cons, List.not_mem_nil, or_false] at hdm
            rcases hdm with rfl | rfl | rfl | rfl
            · exact ⟨1, rfl, by omega, by omega⟩
            · exact ⟨2, rfl, by omega, by omega⟩
            · exact ⟨5, rfl, by omega, by omega⟩
            · exact ⟨8, rfl, by omega, by omega⟩
          clear hdm u8 u9 f8 f7 l8 hq1
          exact ⟨n, m, .ref b, .ref b, names, names, lk, rfl, u10.deal, ⟨o_na.1, o_na.2.1, f10⟩, ⟨o_na.1, o_na.2.1, f10⟩, by omega, by omega, by omega, okN, lk0, by omega, fun t st11 h1 h2 u11 => hP _ st11 ⟨t, rfl, ⟨by have := h1.1; omega, h1.2⟩, h2⟩ (u10.trans u11)⟩
        · obtain ⟨cs, rfl, hcl, hcs⟩ := fm_gen hF
          rw [rangeD_len, Int.toNat_natCast] at hcl
          have o_pa := ns29.off hpa
          have pab : pa ≠ b := hpa.ne f29_na
          have ns30 := ns29.up u30
          have f30_na : st30 b = some (.lst (names.map D.str)) := u30.l o_na.1 o_na.2.1 f29_na
          clear ns29 f29_na u30
          have f30_pa : st30 pa = some (.lst (cs.map termD)) := lpa
          clear hF hpa lpa
          subst hT
          refine sSeq_i (fun env st' => ∃ (pa : Addr) (ps : List Term), env = [some (.ref a), some (.ref n), some (.ref b), some (.ref c), some (.int (0 + (i : Int))), some (termD (s :: u)), some (.str x), some (.ref pa), g8, g9, g10, g11, g12, g13, g14] ∧ Of3 n m c pa ∧ pa ≠ b ∧ ps.length ≤ 23 ∧ ps.flatten.length ≤ 32 ∧ (∀ p ∈ ps, Wf p) ∧ (∀ p ∈ ps, ∀ s ∈ p, nmOk s.1) ∧ NS st' n m c (9 * i + 2) ∧ st' b = some (.lst (names.map D.str)) ∧ st' pa = some (.lst (ps.map termD))) (fun nx2 hnx2 => ?_) ?_
          · by_cases h9 : (((cs.map termD).length : Nat) : Int) < 9
            · have hpk : pk ≤ 4 := by rw [List.length_map] at h9; omega
              walk_at "s"
              have hfl := flat_le (b := 8) fun p hp => (hcs p hp).1.1
              exact hnx2 _ _ ⟨pa, cs, rfl, o_pa, pab, by omega, by omega, fun p hp => (hcs p hp).2, fun p hp => (hcs p hp).1.2, ns30, f30_na, f30_pa⟩
            · clear hcl
              walk_at "s"
              refine ⟨by omega, lc_keep (fun d => some (termD [(x, if toI d % 3 = 0 then -1 else 0)])) (fun _ _ => trivial) (by rw [rangeD_len, szL]; omega) (fun y hy st3 u3 P N hP hN => ?_) fun pe st3 hpe u3 lpe => ?_⟩
              · have h1 := hP _ st3 rfl .refl
                obtain ⟨k, hk, rfl⟩ := List.mem_map.mp hy
                clear hP hN hy
                by_cases h0 : (0 + (k : Int)) % 3 = 0
                · have h2 : P (termD [(x, -1)]) st3 := by
                    have e : toI (D.int (0 + (k : Int))) % 3 = 0 := h0
                    rw [if_pos e] at h1
                    exact h1
                  clear h1
                  rw [gN_a]
                  walk_at "s"
                  exact h2
                · have h2 : P (termD [(x, 0)]) st3 := by
                    have e : ¬ toI (D.int (0 + (k : Int))) % 3 = 0 := h0
                    rw [if_neg e] at h1
                    exact h1
                  clear h1
                  rw [gN_a]
                  walk_at "s"
                  exact h2
              · rw [fm_some] at lpe
                have e1 : (rangeD 0 (23 : Int).toNat).map (fun d => termD [(x, if toI d % 3 = 0 then -1 else 0)]) = (((rangeD 0 (23 : Int).toNat).map fun d => ([(x, if toI d % 3 = 0 then -1 else 0)] : Term))).map termD := by rw [List.map_map]; rfl
                rw [e1] at lpe
                have hlen : ((rangeD 0 (23 : Int).toNat).map fun d => ([(x, if toI d % 3 = 0 then -1 else 0)] : Term)).length = 23 := by rw [List.length_map, rangeD_len]; rfl
                have hin : ∀ p ∈ (rangeD 0 (23 : Int).toNat).map fun d => ([(x, if toI d % 3 = 0 then -1 else 0)] : Term), p.length ≤ 1 ∧ Wf p ∧ ∀ s ∈ p, nmOk s.1 := fun p hp => by
                  obtain ⟨d, _, rfl⟩ := List.mem_map.mp hp
                  refine ⟨by simp, ?_, fun s hs => by rw [List.mem_singleton.mp hs]; exact hx⟩
                  by_cases e : toI d % 3 = 0
                  · rw [if_pos e]; exact wf_one' x
                  · rw [if_neg e]; exact wf_zero' x
                generalize (rangeD 0 (23 : Int).toNat).map (fun d => ([(x, if toI d % 3 = 0 then -1 else 0)] : Term)) = ps at *
                have hfl := flat_le (b := 1) fun p hp => (hin p hp).1
                exact hnx2 _ _ ⟨pe, ps, rfl, ns30.off hpe, hpe.ne f30_na, by omega, by omega, fun p hp => (hin p hp).2.1, fun p hp => (hin p hp).2.2, ns30.keep u3, u3.l f30_na, lpe⟩
          · rintro env st50 ⟨pa, ps, rfl, o_pa, pab, hps, hfl, wps, nps, ns50, f50_na, f50_pa⟩
            clear ns30 f30_na f30_pa hcs hcl
            have hfl1000 : ps.flatten.length ≤ 1000 := by omega
            have dueok : TermOk 1000 ((x, (ps.length : Int)) :: ps.flatten) := joint_ok hx nps (by omega)
            have wdue : Wf ((x, (ps.length : Int)) :: ps.flatten) := wf_joint wps
            have fdue : (letL ((x, (ps.length : Int)) :: ps.flatten)).length ≤ 60 := Nat.le_trans (letL_len _) (by rw [List.length_cons]; omega)
            have okd : okP (termD ((x, (ps.length : Int)) :: ps.flatten)) := okP_term dueok (by omega)
            have okdt : okP (toldD (x, (ps.length : Int)) ps.flatten) := okP_told dueok.1
            have okps : okP (.tup (ps.map termD)) := okP_terms (by omega) hfl1000
            have hszp : (ps.map termD).length ≤ sizeLine := by rw [List.length_map, szL]; omega
            refine sSeq_t fun T hT => ?_
            walk_at "s"
            refine ⟨x, pa, ps, rfl, f50_pa, hfl1000, ?_⟩
            walk_at "s"
            refine lc_keep (fun d => some d) (fun st' u => by rw [u.l f50_pa]; rfl) hszp (fun y hy st3 u3 P N hP hN => ?_) fun p9 st51 hp9 u51 l9 => ?_
            · have h1 := hP _ st3 rfl .refl
              clear hP hN hy
              rw [gN_a]
              walk_at "s"
            rw [fm_some, List.map_id'] at l9
            have o_ke := ns50.off hp9
            have ns51 := ns50.keep u51
            have f51_na : st51 b = some (.lst (names.map D.str)) := u51.l f50_na
            have f51_pa : st51 pa = some (.lst (ps.map termD)) := u51.l f50_pa
            clear ns50 f50_na f50_pa u51
            have f51_ke : st51 p9 = some (.lst (ps.map termD)) := l9
            clear l9 hp9
            subst hT
            refine sSeq_i (fun env st' => env = [some (.ref a), some (.ref n), some (.ref b), some (.ref c), some (.int (0 + (i : Int))), some (termD (s :: u)), some (.str x), some (.ref pa), some (termD ((x, (ps.length : Int)) :: ps.flatten)), some (.ref p9), some (termD ((x, (ps.length : Int)) :: ps.flatten)), g11, g12, g13, g14] ∧ NS st' n m c (9 * i + 2) ∧ st' b = some (.lst (names.map D.str)) ∧ st' pa = some (.lst (ps.map termD)) ∧ st' p9 = some (.lst (ps.map termD))) (fun nx2 hnx2 => ?_) ?_
            · by_cases hv : ((0 : Int) + (i : Int)) % 2 = 0
              · walk_at "s"
                refine ⟨x, .ref pa, ps, rfl, .inr ⟨pa, rfl, f51_pa⟩, hfl1000, fun s52 u52 => ?_⟩
                generalize s52 = st52 at *
                have ns52 := ns51.keep u52
                have f52_na : st52 b = some (.lst (names.map D.str)) := u52.l f51_na
                have f52_pa : st52 pa = some (.lst (ps.map termD)) := u52.l f51_pa
                have f52_ke : st52 p9 = some (.lst (ps.map termD)) := u52.l f51_ke
                clear ns51 f51_na f51_pa f51_ke u52
                exact hnx2 _ _ ⟨rfl, ns52, f52_na, f52_pa, f52_ke⟩
              · walk_at "s"
                refine ⟨x, .tup (ps.map termD), ps, rfl, .inl rfl, hfl1000, fun s52 u52 => ?_⟩
                generalize s52 = st52 at *
                have ns52 := ns51.keep u52
                have f52_na : st52 b = some (.lst (names.map D.str)) := u52.l f51_na
                have f52_pa : st52 pa = some (.lst (ps.map termD)) := u52.l f51_pa
                have f52_ke : st52 p9 = some (.lst (ps.map termD)) := u52.l f51_ke
                clear ns51 f51_na f51_pa f51_ke u52
                exact hnx2 _ _ ⟨rfl, ns52, f52_na, f52_pa, f52_ke⟩
            · rintro env st71 ⟨rfl, ns71, f71_na, f71_pa, f71_ke⟩
              clear ns51 f51_na f51_pa f51_ke 
              refine sSeq_t fun T hT => ?_
              have rd := ns71.rd
              walk_at "s"
              clear rd
              refine ns71.push (d := .tup (ps.map termD)) (okps) (by omega) fun st72 ns72 kk => ?_
              have f72_na : st72 b = some (.lst (names.map D.str)) := kk _ _ o_na.2.2 f71_na
              have f72_pa : st72 pa = some (.lst (ps.map termD)) := kk _ _ o_pa.2.2 f71_pa
              have f72_ke : st72 p9 = some (.lst (ps.map termD)) := kk _ _ o_ke.2.2 f71_ke
              clear ns71 f71_na f71_pa f71_ke kk
              clear f72_ke
              subst hT
              refine sSeq_t fun T hT => ?_
              have rd := ns72.rd
              walk_at "s"
              clear rd
              refine ⟨x, .tup (ps.map termD), ps, rfl, .inl rfl, hfl1000, fun s73 u73 => ?_⟩
              generalize s73 = st73 at *
              have ns73 := ns72.keep u73
              have f73_na : st73 b = some (.lst (names.map D.str)) := u73.l f72_na
              have f73_pa : st73 pa = some (.lst (ps.map termD)) := u73.l f72_pa
              clear ns72 f72_na f72_pa u73
              walk_at "s"
              refine ns73.push (d := termD ((x, (ps.length : Int)) :: ps.flatten)) (okd) (by omega) fun st74 ns74 kk => ?_
              have f74_na : st74 b = some (.lst (names.map D.str)) := kk _ _ o_na.2.2 f73_na
              have f74_pa : st74 pa = some (.lst (ps.map termD)) := kk _ _ o_pa.2.2 f73_pa
              clear ns73 f73_na f73_pa kk
              subst hT
              refine sSeq_t fun T hT => ?_
              have hszq : (ps.map termD).length < sizeLine := by rw [List.length_map, szL]; omega
              walk_at "s"
              have ns75 := ns74.mut (o := (.lst (ps.map termD ++ [.tup [.tup [.str x, .int 0]]]))) o_pa
              have f75_na : put st74 pa (.lst (ps.map termD ++ [.tup [.tup [.str x, .int 0]]])) b = some (.lst (names.map D.str)) := by rw [put_ne pab.symm]; exact f74_na
              have f75_pa : put st74 pa (.lst (ps.map termD ++ [.tup [.tup [.str x, .int 0]]])) pa = some (.lst ((ps ++ [[(x, 0)]]).map termD)) := by rw [put_same, List.map_append]; rfl
              generalize put st74 pa (.lst (ps.map termD ++ [.tup [.tup [.str x, .int 0]]])) = st75 at *
              clear ns74 f74_na f74_pa hszq
              have n3 : ∀ p ∈ ps ++ [[(x, (0 : Int))]], ∀ s ∈ p, nmOk s.1 := fun p hp => by
                rcases List.mem_append.mp hp with hp | hp
                · exact nps p hp
                · rw [List.mem_singleton.mp hp]
                  exact fun s hs => by rw [List.mem_singleton.mp hs]; exact hx
              have l3 : (ps ++ [[(x, (0 : Int))]]).flatten.length ≤ 33 := by rw [List.flatten_append, List.length_append, List.flatten_cons, List.flatten_nil, List.append_nil, List.length_singleton]; omega
              generalize ps ++ [[(x, (0 : Int))]] = ps3 at *
              have ok3 : okP (termD ((x, (ps3.length : Int)) :: ps3.flatten)) := okP_term (joint_ok (k := 1000) hx n3 (by omega)) (by omega)
              have hfl3 : ps3.flatten.length ≤ 1000 := by omega
              subst hT
              refine sSeq_t fun T hT => ?_
              have rd := ns75.rd
              walk_at "s"
              clear rd
              refine ⟨x, .ref pa, ps3, rfl, .inr ⟨pa, rfl, f75_pa⟩, hfl3, fun s76 u76 => ?_⟩
              generalize s76 = st76 at *
              have ns76 := ns75.keep u76
              have f76_na : st76 b = some (.lst (names.map D.str)) := u76.l f75_na
              have f76_pa : st76 pa = some (.lst (ps3.map termD)) := u76.l f75_pa
              clear ns75 f75_na f75_pa u76
              walk_at "s"
              refine ⟨x, pa, ps3, rfl, f76_pa, hfl3, ?_⟩
              walk_at "s"
              refine ns76.push (d := termD ((x, (ps3.length : Int)) :: ps3.flatten)) (ok3) (by omega) fun st77 ns77 kk => ?_
              have f77_na : st77 b = some (.lst (names.map D.str)) := kk _ _ o_na.2.2 f76_na
              have f77_pa : st77 pa = some (.lst (ps3.map termD)) := kk _ _ o_pa.2.2 f76_pa
              clear ns76 f76_na f76_pa kk
              clear f77_pa
              subst hT
              refine sSeq_t fun T hT => ?_
              have rd := ns77.rd
              walk_at "s"
              clear rd
              refine ns77.push (d := termD ((x, (ps.length : Int)) :: ps.flatten)) (okd) (by omega) fun st78 ns78 kk => ?_
              have f78_na : st78 b = some (.lst (names.map D.str)) := kk _ _ o_na.2.2 f77_na
              clear ns77 f77_na kk
              subst hT
              refine sSeq_t fun T hT => ?_
              have rd := ns78.rd
              walk_at "s"
              clear rd
              refine ⟨(x, (ps.length : Int)), ps.flatten, _, rfl, dueok, wdue, fdue, fun s79 u79 => ?_⟩
              generalize s79 = st79 at *
              have ns79 := ns78.keep u79
              have f79_na : st79 b = some (.lst (names.map D.str)) := u79.l f78_na
              clear ns78 f78_na u79
              refine ⟨(x, (ps.length : Int)), ps.flatten, rfl, dueok, wdue, fdue, fun s80 u80 => ?_⟩
              generalize s80 = st80 at *
              have ns80 := ns79.keep u80
              have f80_na : st80 b = some (.lst (names.map D.str)) := u80.l f79_na
              clear ns79 f79_na u80
              refine ns80.push (d := toldD ((x, (ps.length : Int))) (ps.flatten)) (okdt) (by omega) fun st81 ns81 kk => ?_
              have f81_na : st81 b = some (.lst (names.map D.str)) := kk _ _ o_na.2.2 f80_na
              clear ns80 f80_na kk
              subst hT
              refine sSeq_i (fun env st' => env = [some (.ref a), some (.ref n), some (.ref b), some (.ref c), some (.int (0 + (i : Int))), some (termD (s :: u)), some (.str x), some (.ref pa), some (termD ((x, (ps.length : Int)) :: ps.flatten)), some (.ref p9), some (termD ((x, (ps.length : Int)) :: ps.flatten)), g11, g12, g13, g14] ∧ NS st' n m c (9 * i + 8) ∧ st' b = some (.lst (names.map D.str))) (fun nx2 hnx2 => ?_) ?_
              · by_cases h0 : s.2 ≥ 0
                · have e0 : ∀ (st : Sto) (Q : DK), oIx (termD (s :: u)) (.int 0) st Q = Q (signD s) st := fun st Q => first0
                  have e1 := fun st Q => sign_ix1 (s := s) (st := st) (Q := Q)
                  have e2 := fun st Q => sign_ix0 (s := s) (st := st) (Q := Q)
                  have rd := ns81.rd
                  walk_at "s"
                  clear rd e0 e1 e2
                  refine ⟨s, u, rfl, ht1000, wt, fun s82 u82 => ?_⟩
                  generalize s82 = st82 at *
                  have ns82 := ns81.keep u82
                  have f82_na : st82 b = some (.lst (names.map D.str)) := u82.l f81_na
                  clear ns81 f81_na u82
                  walk_at "s"
                  refine ⟨s.1, .tup ((cuts u).map termD), cuts u, rfl, .inl rfl, by have h24 : (s :: u : Term).length = u.length + 1 := rfl; rw [cuts_flat]; omega, fun s83 u83 => ?_⟩
                  generalize s83 = st83 at *
                  have ns83 := ns82.keep u83
                  have f83_na : st83 b = some (.lst (names.map D.str)) := u83.l f82_na
                  clear ns82 f82_na u83
                  rw [back wt h0]
                  walk_at "s"
                  refine ns83.push (d := termD (s :: u)) (okP_term ht1000 (by omega)) (by omega) fun st' ns' kk => hnx2 _ _ ⟨rfl, ns'.more (by omega), kk _ _ o_na.2.2 f83_na⟩
                · have e0 : ∀ (st : Sto) (Q : DK), oIx (termD (s :: u)) (.int 0) st Q = Q (signD s) st := fun st Q => first0
                  have e1 := fun st Q => sign_ix1 (s := s) (st := st) (Q := Q)
                  have e2 := fun st Q => sign_ix0 (s := s) (st := st) (Q := Q)
                  have rd := ns81.rd
                  walk_at "s"
                  clear rd e0 e1 e2
                  exact hnx2 _ _ ⟨rfl, ns81.more (by omega), f81_na⟩
              · rintro env st101 ⟨rfl, ns101, f101_na⟩
                clear ns81 f81_na 
                refine sSeq_t fun T hT => ?_
                obtain ⟨dl, hdl⟩ : ∃ dl : Nat, (((x, (ps.length : Int)) :: ps.flatten) : Term).length = dl := ⟨_, rfl⟩
                have hdl1 : 1 ≤ dl ∧ dl ≤ 33 := by rw [List.length_cons] at hdl; omega
                have el : ∀ (st : Sto) (Q : DK), oLen [termD ((x, (ps.length : Int)) :: ps.flatten)] st Q = Q (.int (dl : Nat)) st := fun st Q => by unfold termD; rw [oLen_tup, List.length_map, hdl]
                have cd : CDivW 390 (dl : Int) := wide_div (b := 9) (by omega) (by omega) (by omega) (by omega)
                clear hdl
                walk_at "s"
                clear el cd
                have hb : ∀ z : Int, 0 < (if (if z < 4 then z else 4) > 1 then (if z < 4 then z else 4) else 1) ∧ (if (if z < 4 then z else 4) > 1 then (if z < 4 then z else 4) else 1) ≤ 4 := by
                  intro z
                  by_cases h : z < 4
                  · rw [if_pos h]; split <;> omega
                  · rw [if_neg h]; simp
                refine ⟨n, m, _, rfl, ns101.deal, (hb _).1, Int.lt_of_le_of_lt (hb _).2 (by omega), fun k s102 hk0 hk1 u102 => ?_⟩
                generalize s102 = st102 at *
                have ns102 := ns101.up u102
                have f102_na : st102 b = some (.lst (names.map D.str)) := u102.l o_na.1 o_na.2.1 f101_na
                clear ns101 f101_na u102
                obtain ⟨mk, hmk, mk1, mk4⟩ : ∃ mk : Nat, 1 + k = (mk : Int) ∧ 1 ≤ mk ∧ mk ≤ 4 := by
                  have h2 := Int.lt_of_lt_of_le hk1 (hb _).2
                  exact ⟨(1 + k).toNat, by omega, by omega, by omega⟩
                clear hb hk1
                walk_at "s"
                clear hmk
                subst hT
                obtain ⟨rs, hrs⟩ : ∃ rs, List.replicate mk ((x, (ps.length : Int)) :: ps.flatten) = rs := ⟨_, rfl⟩
                have rl : rs.flatten.length ≤ 132 := by
                  rw [← hrs, rep_len, List.length_cons]
                  have : mk * (ps.flatten.length + 1) ≤ 4 * (ps.flatten.length + 1) := Nat.mul_le_mul_right _ mk4
                  omega
                have rl1000 : rs.flatten.length ≤ 1000 := by omega
                have nrs : ∀ p ∈ rs, ∀ s ∈ p, nmOk s.1 := fun p hp => by
                  rw [← hrs] at hp
                  rw [(List.mem_replicate.mp hp).2]
                  exact dueok.2
                have wrs : ∀ p ∈ rs, Wf p := fun p hp => by
                  rw [← hrs] at hp
                  rw [(List.mem_replicate.mp hp).2]
                  exact wdue
                have gok : TermOk 1000 ((x, (rs.length : Int)) :: rs.flatten) := joint_ok hx nrs (by omega)
                have wg : Wf ((x, (rs.length : Int)) :: rs.flatten) := wf_joint wrs
                have fg : (letL ((x, (rs.length : Int)) :: rs.flatten)).length ≤ 60 := by
                  have h := great_few (x := x) (due := ((x, (ps.length : Int)) :: ps.flatten)) (k := mk)
                  rw [hrs] at h
                  rw [List.length_cons] at h
                  exact Nat.le_trans h (by omega)
                have okg : okP (toldD (x, (rs.length : Int)) rs.flatten) := okP_told gok.1
                clear nrs wrs rl
                refine sSeq_t fun T hT => ?_
                have hrsH : Hid (List.replicate mk ((x, (ps.length : Int)) :: ps.flatten) = rs) := hrs
                clear hrs
                walk_at "s"
                have hrs : List.replicate mk ((x, (ps.length : Int)) :: ps.flatten) = rs := hrsH
                clear hrsH
                intro p1 hnew
                have o_t1 := ns102.off hnew
                have ns103 := ns102.new (o := (.lst ([termD ((x, (ps.length : Int)) :: ps.flatten)]))) hnew
                have f103_na := (Keep.put (o := (.lst ([termD ((x, (ps.length : Int)) :: ps.flatten)]))) hnew).l f102_na
                have f103_t1 : put st102 p1 (.lst ([termD ((x, (ps.length : Int)) :: ps.flatten)])) p1 = some (.lst ([termD ((x, (ps.length : Int)) :: ps.flatten)])) := put_same
                generalize put st102 p1 (.lst ([termD ((x, (ps.length : Int)) :: ps.flatten)])) = st103 at *
                clear ns102 f102_na hnew
                refine oMul_l f103_t1 ⟨by omega, by omega⟩ (by rw [Int.toNat_natCast, List.length_singleton, szL]; omega) ?_
                rw [Int.toNat_natCast, rep_terms, hrs]
                clear f103_t1
                intro p2 hnew
                have o_t2 := ns103.off hnew
                have ns104 := ns103.new (o := (.lst (rs.map termD))) hnew
                have f104_na := (Keep.put (o := (.lst (rs.map termD))) hnew).l f103_na
                have f104_t2 : put st103 p2 (.lst (rs.map termD)) p2 = some (.lst (rs.map termD)) := put_same
                generalize put st103 p2 (.lst (rs.map termD)) = st104 at *
                clear ns103 f103_na hnew
                refine ⟨x, p2, rs, rfl, f104_t2, rl1000, ?_⟩
                clear f104_t2
                subst hT
                have rd := ns104.rd
                have hrsH : Hid (List.replicate mk ((x, (ps.length : Int)) :: ps.flatten) = rs) := hrs
                clear hrs
                walk_at "s"
                have hrs : List.replicate mk ((x, (ps.length : Int)) :: ps.flatten) = rs := hrsH
                clear hrsH rd
                intro p3 hnew
                have o_t1 := ns104.off hnew
                have ns105 := ns104.new (o := (.lst ([termD ((x, (ps.length : Int)) :: ps.flatten)]))) hnew
                have f105_na := (Keep.put (o := (.lst ([termD ((x, (ps.length : Int)) :: ps.flatten)]))) hnew).l f104_na
                have f105_t1 : put st104 p3 (.lst ([termD ((x, (ps.length : Int)) :: ps.flatten)])) p3 = some (.lst ([termD ((x, (ps.length : Int)) :: ps.flatten)])) := put_same
                generalize put st104 p3 (.lst ([termD ((x, (ps.length : Int)) :: ps.flatten)])) = st105 at *
                clear ns104 f104_na hnew
                refine oMul_l f105_t1 ⟨by omega, by omega⟩ (by rw [Int.toNat_natCast, List.length_singleton, szL]; omega) ?_
                rw [Int.toNat_natCast, rep_terms, hrs]
                clear f105_t1
                intro p4 hnew
                have o_t2 := ns105.off hnew
                have ns106 := ns105.new (o := (.lst (rs.map termD))) hnew
                have f106_na := (Keep.put (o := (.lst (rs.map termD))) hnew).l f105_na
                have f106_t2 : put st105 p4 (.lst (rs.map termD)) p4 = some (.lst (rs.map termD)) := put_same
                generalize put st105 p4 (.lst (rs.map termD)) = st106 at *
                clear ns105 f105_na hnew
                refine ⟨x, .ref p4, rs, rfl, .inr ⟨p4, rfl, f106_t2⟩, rl1000, fun s107 u107 => ?_⟩
                generalize s107 = st107 at *
                have ns107 := ns106.keep u107
                have f107_na : st107 b = some (.lst (names.map D.str)) := u107.l f106_na
                have f107_t2 : st107 p4 = some (.lst (rs.map termD)) := u107.l f106_t2
                clear ns106 f106_na f106_t2 u107
                clear f107_t2
                clear hrs
                walk_at "s"
                refine ⟨(x, (rs.length : Int)), rs.flatten, false, rfl, gok, wg, fg, fun s108 u108 => ?_⟩
                generalize s108 = st108 at *
                have ns108 := ns107.keep u108
                have f108_na : st108 b = some (.lst (names.map D.str)) := u108.l f107_na
                clear ns107 f107_na u108
                walk_at "s"
                refine ⟨(x, (rs.length : Int)), rs.flatten, rfl, gok, wg, fg, fun s109 u109 => ?_⟩
                generalize s109 = st109 at *
                have ns109 := ns108.keep u109
                have f109_na : st109 b = some (.lst (names.map D.str)) := u109.l f108_na
                clear ns108 f108_na u109
                have hpu := ns109.push (d := toldD (x, (rs.length : Int)) rs.flatten) (K := fun st' => NS st' n m c (9 * (i + 1)) ∧ st' b = some (.lst (names.map D.str))) okg (by omega) fun s' ns' kk => ⟨ns'.more (by omega), kk _ _ o_na.2.2 f109_na⟩
                obtain ⟨ds2, lc2, _⟩ := ns109.lc
                walk_at "s"
                rw [lc2, lsO_lst] at hpu
                exact ⟨hpu.1, _, _, _, _, _, _, _, _, _, _, _, rfl, hpu.2⟩
    · rintro env st' ⟨g4, g5, g6, g7, g8, g9, g10, g11, g12, g13, g14, rfl, hns, _⟩
      rw [rangeD_len] at hns
      exact hnx _ _ ⟨_, _, _, _, _, _, _, _, _, _, _, rfl, hns⟩
  · rintro env stC ⟨g4, g5, g6, g7, g8, g9, g10, g11, g12, g13, g14, rfl, hns⟩
    clear nsA fA_na
    walk_at "s"
    obtain ⟨ds, lc, hl, ho⟩ := hns.lc
    exact ⟨c, ds, rfl, lc, by omega, ho, fun st12 _ => endsOf_i (q st12)⟩
end Tk02
end L2.DL

namespace L2.DL
open PySem PySem.Spec PyProof.Rows
namespace Tk02
theorem law_spec : ∀ (a : Addr) (ns : List Int), ns.length ≤ 63 → S_law [.ref a] (put (fun _ => none) a (.rol (ns.map D.int))) (fun d _ => d = .bl true) :=
  fun a ns _ => ⟨a, ns, rfl, put_same, fun _ => rfl⟩
end Tk02
end L2.DL

namespace L2.DL
namespace Tk02
open PySem PySem.Spec PyProof.Rows
open Tk05
def top (i : Nat) : Stmt := PySem.Challenge.pw_ownrules_k02_terms_are_built_and_parted.main.body.getD i (.Pass ⟨0, 0, 0, 0⟩)
/-- what the top tells of names -/
structure Tx (K : PySem.W.Frag) (mg : Str → Option Value) : Prop where
  n_abs : mg "abs" = none
  n_bool : mg "bool" = none
  n_dict : mg "dict" = none
  n_int : mg "int" = none
  n_isinstance : mg "isinstance" = none
  n_len : mg "len" = none
  n_list : mg "list" = none
  n_max : mg "max" = none
  n_min : mg "min" = none
  n_range : mg "range" = none
  n_set : mg "set" = none
  n_sorted : mg "sorted" = none
  n_str : mg "str" = none
  n_tuple : mg "tuple" = none
  c_LETTER : ∃ t, mg "LETTER" = some (.int (-1) t)
section
variable {P : Program} {w : World} {K : PySem.W.Frag} {mg : Str → Option Value} {base : Heap}
abbrev s_many_of : Stmt := top 2
abbrev N_many_of : List Str := ["sign"]
abbrev P_many_of : List Str := ["sign"]
theorem sc_many_of : FnScope N_many_of P_many_of (defScope s_many_of) := ⟨rfl, rfl, rfl, by decide +kernel, rfl, by decide +kernel, by decide +kernel⟩
theorem d_many_of (T : Tx K mg) {f : Addr} {cdv : Value} {A : Around} {outer : List PySem.Env} {s : Shared} {H : Hp} {E : XK} (hr : Room 0 (A.deeper (envOfC "many_of" (defScope s_many_of) s.heap.objs.size f cdv))) :
    DSs (cxOf CX0 P w K mg base N_many_of "many_of" (defScope s_many_of) f cdv A outer s H E).nox (defBody s_many_of) t_many_of := by
  exact dss_one (ds_ret (de_ifExp (dt_cmp (do_eq hr.units) (de_ix (di_all (hu_of hr)) (dv 0) (de_int)) (de_gint T.c_LETTER) (nomark _)) (de_int) (de_ix (di_all (hu_of hr)) (dv 0) (de_int))))
theorem ok_many_of (T : Tx K mg) {f : Addr} {fd : FuncData} (F : FunD K "many_of" "many_of" (defArgs s_many_of) (defBody s_many_of) (defScope s_many_of) [] [] f fd) (hm : mg "many_of" = some (.ref f)) : Cal P w K mg base 1 "many_of" P_many_of S_many_of :=
  ⟨f, fd, hm, F.kp, F.bindsN (fun _ _ _ _ _ _ us hl => match us, hl with | [_], _ => rfl), F.ok sc_many_of (fun vs H Q E h => keeps_len kp_many_of h) (fun cdv A outer s H vs Q E hr h => ⟨liftS K t_many_of, PSs.nox (d_many_of T  hr).pss, keeps_use (N := N_many_of) kp_many_of h⟩)⟩
abbrev s_letter : Stmt := top 3
abbrev N_letter : List Str := ["name"]
abbrev P_letter : List Str := ["name"]
theorem sc_letter : FnScope N_letter P_letter (defScope s_letter) := ⟨rfl, rfl, rfl, by decide +kernel, rfl, by decide +kernel, by decide +kernel⟩
theorem d_letter (T : Tx K mg) {f : Addr} {cdv : Value} {A : Around} {outer : List PySem.Env} {s : Shared} {H : Hp} {E : XK} (hr : Room 0 (A.deeper (envOfC "letter" (defScope s_letter) s.heap.objs.size f cdv))) :
    DSs (cxOf CX0 P w K mg base N_letter "letter" (defScope s_letter) f cdv A outer s H E).nox (defBody s_letter) t_letter := by
  exact dss_one (ds_ret (de_tup (da_cons (de_tup (da_cons (dv 0) (da_cons (de_gint T.c_LETTER) (da_nil)))) (da_nil))))
theorem ok_letter (T : Tx K mg) {f : Addr} {fd : FuncData} (F : FunD K "letter" "letter" (defArgs s_letter) (defBody s_letter) (defScope s_letter) [] [] f fd) (hm : mg "letter" = some (.ref f)) : Cal P w K mg base 1 "letter" P_letter S_letter :=
  ⟨f, fd, hm, F.kp, F.bindsN (fun _ _ _ _ _ _ us hl => match us, hl with | [_], _ => rfl), F.ok sc_letter (fun vs H Q E h => keeps_len kp_letter h) (fun cdv A outer s H vs Q E hr h => ⟨liftS K t_letter, PSs.nox (d_letter T  hr).pss, keeps_use (N := N_letter) kp_letter h⟩)⟩
theorem okK_letter_name (T : Tx K mg) {f : Addr} {fd : FuncData} (F : FunD K "letter" "letter" (defArgs s_letter) (defBody s_letter) (defScope s_letter) [] [] f fd) (hm : mg "letter" = some (.ref f)) : CalK P w K mg base 1 "letter" P_letter ["name"] [0] S_letter :=
  ⟨f, fd, hm, F.kp, bindsK F (fun _ _ _ _ _ _ ws hl => match ws, hl with | [_], _ => rfl), by decide, rfl, F.ok sc_letter (fun vs H Q E h => keeps_len kp_letter h) (fun cdv A outer s H vs Q E hr h => ⟨liftS K t_letter, PSs.nox (d_letter T  hr).pss, keeps_use (N := N_letter) kp_letter h⟩)⟩
abbrev s_built : Stmt := top 4
abbrev N_built : List Str := ["name", "parts", "found", "part"]
abbrev P_built : List Str := ["name", "parts"]
theorem sc_built : FnScope N_built P_built (defScope s_built) := ⟨rfl, rfl, rfl, by decide +kernel, rfl, by decide +kernel, by decide +kernel⟩
theorem d_built (T : Tx K mg) {f : Addr} {cdv : Value} {A : Around} {outer : List PySem.Env} {s : Shared} {H : Hp} {E : XK} (hr : Room 0 (A.deeper (envOfC "built" (defScope s_built) s.heap.objs.size f cdv))) :
    DSs (cxOf CX0 P w K mg base N_built "built" (defScope s_built) f cdv A outer s H E).nox (defBody s_built) t_built := by
  exact dss_cons (ds_set (i := 2) sc_built.nd rfl (Or.inl rfl) (de_lst (da_cons (de_tup (da_cons (dv 0) (da_cons (de_callB dc_len rfl T.n_len PySem.boot_len (da_cons (dv 1) (da_nil))) (da_nil)))) (da_nil))))
    (dss_cons (ds_for PassesOwn.never rfl (di_seq (dv 1)) (dg_name (i := 3) sc_built.nd rfl (Or.inl rfl)) (dss_one (ds_expr (de_m PySem.F.plainAttrs_list PySem.F.slot_list_extend PySem.F.type_list_extend ty_list dm_extend (dv 2) (da_cons (dv 3) (da_nil))))))
    (dss_one (ds_ret (de_callTy dc_tuple rfl T.n_tuple boot_tuple (da_cons (dv 2) (da_nil))))))
theorem ok_built (T : Tx K mg) {f : Addr} {fd : FuncData} (F : FunD K "built" "built" (defArgs s_built) (defBody s_built) (defScope s_built) [] [] f fd) (hm : mg "built" = some (.ref f)) : Cal P w K mg base 1 "built" P_built S_built :=
  ⟨f, fd, hm, F.kp, F.bindsN (fun _ _ _ _ _ _ us hl => match us, hl with | [_, _], _ => rfl), F.ok sc_built (fun vs H Q E h => keeps_len kp_built h) (fun cdv A outer s H vs Q E hr h => ⟨liftS K t_built, PSs.nox (d_built T  hr).pss, keeps_use (N := N_built) kp_built h⟩)⟩
theorem okK_built_name_parts (T : Tx K mg) {f : Addr} {fd : FuncData} (F : FunD K "built" "built" (defArgs s_built) (defBody s_built) (defScope s_built) [] [] f fd) (hm : mg "built" = some (.ref f)) : CalK P w K mg base 1 "built" P_built ["name", "parts"] [0, 1] S_built :=
  ⟨f, fd, hm, F.kp, bindsK F (fun _ _ _ _ _ _ ws hl => match ws, hl with | [_, _], _ => rfl), by decide, rfl, F.ok sc_built (fun vs H Q E h => keeps_len kp_built h) (fun cdv A outer s H vs Q E hr h => ⟨liftS K t_built, PSs.nox (d_built T  hr).pss, keeps_use (N := N_built) kp_built h⟩)⟩
abbrev s_head_of : Stmt := top 5
abbrev N_head_of : List Str := ["term"]
abbrev P_head_of : List Str := ["term"]
theorem sc_head_of : FnScope N_head_of P_head_of (defScope s_head_of) := ⟨rfl, rfl, rfl, by decide +kernel, rfl, by decide +kernel, by decide +kernel⟩
theorem d_head_of (T : Tx K mg) {f : Addr} {cdv : Value} {A : Around} {outer : List PySem.Env} {s : Shared} {H : Hp} {E : XK} (hr : Room 0 (A.deeper (envOfC "head_of" (defScope s_head_of) s.heap.objs.size f cdv))) :
    DSs (cxOf CX0 P w K mg base N_head_of "head_of" (defScope s_head_of) f cdv A outer s H E).nox (defBody s_head_of) t_head_of := by
  exact dss_one (ds_ret (de_ix (di_all (hu_of hr)) (dv 0) (de_int)))
theorem ok_head_of (T : Tx K mg) {f : Addr} {fd : FuncData} (F : FunD K "head_of" "head_of" (defArgs s_head_of) (defBody s_head_of) (defScope s_head_of) [] [] f fd) (hm : mg "head_of" = some (.ref f)) : Cal P w K mg base 1 "head_of" P_head_of S_head_of :=
  ⟨f, fd, hm, F.kp, F.bindsN (fun _ _ _ _ _ _ us hl => match us, hl with | [_], _ => rfl), F.ok sc_head_of (fun vs H Q E h => keeps_len kp_head_of h) (fun cdv A outer s H vs Q E hr h => ⟨liftS K t_head_of, PSs.nox (d_head_of T  hr).pss, keeps_use (N := N_head_of) kp_head_of h⟩)⟩
theorem okK_head_of_term (T : Tx K mg) {f : Addr} {fd : FuncData} (F : FunD K "head_of" "head_of" (defArgs s_head_of) (defBody s_head_of) (defScope s_head_of) [] [] f fd) (hm : mg "head_of" = some (.ref f)) : CalK P w K mg base 1 "head_of" P_head_of ["term"] [0] S_head_of :=
  ⟨f, fd, hm, F.kp, bindsK F (fun _ _ _ _ _ _ ws hl => match ws, hl with | [_], _ => rfl), by decide, rfl, F.ok sc_head_of (fun vs H Q E h => keeps_len kp_head_of h) (fun cdv A outer s H vs Q E hr h => ⟨liftS K t_head_of, PSs.nox (d_head_of T  hr).pss, keeps_use (N := N_head_of) kp_head_of h⟩)⟩
abbrev s_ends_of : Stmt := top 6
abbrev N_ends_of : List Str := ["term", "ends", "behind", "at", "end", "_"]
abbrev P_ends_of : List Str := ["term"]
theorem sc_ends_of : FnScope N_ends_of P_ends_of (defScope s_ends_of) := ⟨rfl, rfl, rfl, by decide +kernel, rfl, by decide +kernel, by decide +kernel⟩
theorem d_ends_of (T : Tx K mg) (C_many_of : Cal P w K mg base 1 "many_of" P_many_of S_many_of) {f : Addr} {cdv : Value} {A : Around} {outer : List PySem.Env} {s : Shared} {H : Hp} {E : XK} (hr : Room 1 (A.deeper (envOfC "ends_of" (defScope s_ends_of) s.heap.objs.size f cdv))) :
    DSs (cxOf CX0 P w K mg base N_ends_of "ends_of" (defScope s_ends_of) f cdv A outer s H E).nox (defBody s_ends_of) t_ends_of := by
  exact dss_cons (ds_setLc (i := 1) rfl sc_ends_of.nd rfl rfl (sw_true rfl rfl rfl (by decide +kernel)) (di_seq (dv 0)) (blkOk_by (N := N_ends_of) (sc := defScope s_ends_of) (own := [("_", 5)]) (by decide +kernel)) (fun _ _ _ _ _ => dgc_name (i := 5) sc_ends_of.nd rfl (by first | exact Or.inl rfl | exact Or.inr rfl) (by decide)) (fun _ _ _ _ _ => dts_nil) (fun _ _ _ _ _ => de_int))
    (dss_cons (ds_set (i := 2) sc_ends_of.nd rfl (Or.inl rfl) (de_lst (da_nil)))
    (dss_cons (ds_for PassesOwn.never rfl (di_rng3 rfl T.n_range (de_bin do_sub (de_callB dc_len rfl T.n_len PySem.boot_len (da_cons (dv 0) (da_nil))) (de_int)) (de_neg) (de_neg)) (dg_name (i := 3) sc_ends_of.nd rfl (Or.inl rfl)) (dss_cons (ds_set (i := 4) sc_ends_of.nd rfl (Or.inl rfl) (de_bin do_add (dv 3) (de_int)))
    (dss_cons (ds_for PassesOwn.never rfl (di_rng1 rfl T.n_range (dcall C_many_of hr (by decide) (da_cons (de_ix (di_all (hu_of hr)) (dv 0) (dv 3)) (da_nil)))) (dg_name (i := 5) sc_ends_of.nd rfl (Or.inl rfl)) (dss_one (ds_set (i := 4) sc_ends_of.nd rfl (Or.inl rfl) (de_m0 PySem.F.plainAttrs_list PySem.F.slot_list_pop PySem.F.type_list_pop ty_list dm_pop (dv 2)))))
    (dss_cons (ds_asg (dv 4) (dg_sub (dv 1) (dv 3) (dset_all (hu_of hr))))
    (dss_one (ds_expr (de_m PySem.F.plainAttrs_list PySem.F.slot_list_append PySem.F.type_list_append ty_list dm_append (dv 2) (da_cons (dv 4) (da_nil)))))))))
    (dss_one (ds_ret (dv 1)))))
theorem ok_ends_of (T : Tx K mg) (C_many_of : Cal P w K mg base 1 "many_of" P_many_of S_many_of) {f : Addr} {fd : FuncData} (F : FunD K "ends_of" "ends_of" (defArgs s_ends_of) (defBody s_ends_of) (defScope s_ends_of) [] [] f fd) (hm : mg "ends_of" = some (.ref f)) : Cal P w K mg base 2 "ends_of" P_ends_of S_ends_of :=
  ⟨f, fd, hm, F.kp, F.bindsN (fun _ _ _ _ _ _ us hl => match us, hl with | [_], _ => rfl), F.ok sc_ends_of (fun vs H Q E h => keeps_len kp_ends_of h) (fun cdv A outer s H vs Q E hr h => ⟨liftS K t_ends_of, PSs.nox (d_ends_of T C_many_of hr).pss, keeps_use (N := N_ends_of) kp_ends_of h⟩)⟩
abbrev s_part_places : Stmt := top 7
abbrev N_part_places : List Str := ["term", "ends", "at", "places", "spot", "_"]
abbrev P_part_places : List Str := ["term", "ends", "at"]
theorem sc_part_places : FnScope N_part_places P_part_places (defScope s_part_places) := ⟨rfl, rfl, rfl, by decide +kernel, rfl, by decide +kernel, by decide +kernel⟩
theorem d_part_places (T : Tx K mg) (C_many_of : Cal P w K mg base 1 "many_of" P_many_of S_many_of) {f : Addr} {cdv : Value} {A : Around} {outer : List PySem.Env} {s : Shared} {H : Hp} {E : XK} (hr : Room 1 (A.deeper (envOfC "part_places" (defScope s_part_places) s.heap.objs.size f cdv))) :
    DSs (cxOf CX0 P w K mg base N_part_places "part_places" (defScope s_part_places) f cdv A outer s H E).nox (defBody s_part_places) t_part_places := by
  exact dss_cons (ds_set (i := 3) sc_part_places.nd rfl (Or.inl rfl) (de_lst (da_nil)))
    (dss_cons (ds_set (i := 4) sc_part_places.nd rfl (Or.inl rfl) (de_bin do_add (dv 2) (de_int)))
    (dss_cons (ds_for PassesOwn.never rfl (di_rng1 rfl T.n_range (dcall C_many_of hr (by decide) (da_cons (de_ix (di_all (hu_of hr)) (dv 0) (dv 2)) (da_nil)))) (dg_name (i := 5) sc_part_places.nd rfl (Or.inl rfl)) (dss_cons (ds_expr (de_m PySem.F.plainAttrs_list PySem.F.slot_list_append PySem.F.type_list_append ty_list dm_append (dv 3) (da_cons (dv 4) (da_nil))))
    (dss_one (ds_set (i := 4) sc_part_places.nd rfl (Or.inl rfl) (de_ix (di_all (hu_of hr)) (dv 1) (dv 4))))))
    (dss_one (ds_ret (dv 3)))))
theorem ok_part_places (T : Tx K mg) (C_many_of : Cal P w K mg base 1 "many_of" P_many_of S_many_of) {f : Addr} {fd : FuncData} (F : FunD K "part_places" "part_places" (defArgs s_part_places) (defBody s_part_places) (defScope s_part_places) [] [] f fd) (hm : mg "part_places" = some (.ref f)) : Cal P w K mg base 2 "part_places" P_part_places S_part_places :=
  ⟨f, fd, hm, F.kp, F.bindsN (fun _ _ _ _ _ _ us hl => match us, hl with | [_, _, _], _ => rfl), F.ok sc_part_places (fun vs H Q E h => keeps_len kp_part_places h) (fun cdv A outer s H vs Q E hr h => ⟨liftS K t_part_places, PSs.nox (d_part_places T C_many_of hr).pss, keeps_use (N := N_part_places) kp_part_places h⟩)⟩
abbrev s_parts_of : Stmt := top 8
abbrev N_parts_of : List Str := ["term", "ends", "spot"]
abbrev P_parts_of : List Str := ["term"]
theorem sc_parts_of : FnScope N_parts_of P_parts_of (defScope s_parts_of) := ⟨rfl, rfl, rfl, by decide +kernel, rfl, by decide +kernel, by decide +kernel⟩
theorem d_parts_of (T : Tx K mg) (C_ends_of : Cal P w K mg base 2 "ends_of" P_ends_of S_ends_of) (C_part_places : Cal P w K mg base 2 "part_places" P_part_places S_part_places) {f : Addr} {cdv : Value} {A : Around} {outer : List PySem.Env} {s : Shared} {H : Hp} {E : XK} (hr : Room 2 (A.deeper (envOfC "parts_of" (defScope s_parts_of) s.heap.objs.size f cdv))) :
    DSs (cxOf CX0 P w K mg base N_parts_of "parts_of" (defScope s_parts_of) f cdv A outer s H E).nox (defBody s_parts_of) t_parts_of := by
  exact dss_cons (ds_set (i := 1) sc_parts_of.nd rfl (Or.inr rfl) (dcall C_ends_of hr (by decide) (da_cons (dv 0) (da_nil))))
    (dss_one (ds_ret (de_callTy dc_tuple rfl T.n_tuple boot_tuple (da_cons (de_lc rfl sc_parts_of.nd (di_seq (dcall C_part_places hr (by decide) (da_cons (dv 0) (da_cons (dv 1) (da_cons (de_int) (da_nil)))))) (blkOk_by (N := N_parts_of) (sc := defScope s_parts_of) (own := [("spot", 2)]) (by decide +kernel)) (fun _ _ _ _ _ => dgc_name (i := 2) sc_parts_of.nd rfl (by first | exact Or.inl rfl | exact Or.inr rfl) (by decide)) (fun _ _ _ _ _ => dts_nil) (fun _ _ _ _ _ => de_sl (dv 0) (dp_some (dv 2)) (dp_some (de_ix (di_all (hu_of hr)) (dv 1) (dv 2))))) (da_nil)))))
theorem ok_parts_of (T : Tx K mg) (C_ends_of : Cal P w K mg base 2 "ends_of" P_ends_of S_ends_of) (C_part_places : Cal P w K mg base 2 "part_places" P_part_places S_part_places) {f : Addr} {fd : FuncData} (F : FunD K "parts_of" "parts_of" (defArgs s_parts_of) (defBody s_parts_of) (defScope s_parts_of) [] [] f fd) (hm : mg "parts_of" = some (.ref f)) : Cal P w K mg base 3 "parts_of" P_parts_of S_parts_of :=
  ⟨f, fd, hm, F.kp, F.bindsN (fun _ _ _ _ _ _ us hl => match us, hl with | [_], _ => rfl), F.ok sc_parts_of (fun vs H Q E h => keeps_len kp_parts_of h) (fun cdv A outer s H vs Q E hr h => ⟨liftS K t_parts_of, PSs.nox (d_parts_of T C_ends_of C_part_places hr).pss, keeps_use (N := N_parts_of) kp_parts_of h⟩)⟩
theorem okK_parts_of_term (T : Tx K mg) (C_ends_of : Cal P w K mg base 2 "ends_of" P_ends_of S_ends_of) (C_part_places : Cal P w K mg base 2 "part_places" P_part_places S_part_places) {f : Addr} {fd : FuncData} (F : FunD K "parts_of" "parts_of" (defArgs s_parts_of) (defBody s_parts_of) (defScope s_parts_of) [] [] f fd) (hm : mg "parts_of" = some (.ref f)) : CalK P w K mg base 3 "parts_of" P_parts_of ["term"] [0] S_parts_of :=
  ⟨f, fd, hm, F.kp, bindsK F (fun _ _ _ _ _ _ ws hl => match ws, hl with | [_], _ => rfl), by decide, rfl, F.ok sc_parts_of (fun vs H Q E h => keeps_len kp_parts_of h) (fun cdv A outer s H vs Q E hr h => ⟨liftS K t_parts_of, PSs.nox (d_parts_of T C_ends_of C_part_places hr).pss, keeps_use (N := N_parts_of) kp_parts_of h⟩)⟩
abbrev s_letters_of : Stmt := top 9
abbrev N_letters_of : List Str := ["term", "name", "many"]
abbrev P_letters_of : List Str := ["term"]
theorem sc_letters_of : FnScope N_letters_of P_letters_of (defScope s_letters_of) := ⟨rfl, rfl, rfl, by decide +kernel, rfl, by decide +kernel, by decide +kernel⟩
theorem d_letters_of (T : Tx K mg) {f : Addr} {cdv : Value} {A : Around} {outer : List PySem.Env} {s : Shared} {H : Hp} {E : XK} (hr : Room 0 (A.deeper (envOfC "letters_of" (defScope s_letters_of) s.heap.objs.size f cdv))) :
    DSs (cxOf CX0 P w K mg base N_letters_of "letters_of" (defScope s_letters_of) f cdv A outer s H E).nox (defBody s_letters_of) t_letters_of := by
  exact dss_one (ds_ret (de_callTy dc_tuple rfl T.n_tuple boot_tuple (da_cons (de_sortSc rfl rfl T.n_sorted sc_letters_of.nd (di_seq (dv 0)) (blkOk_by (N := N_letters_of) (sc := defScope s_letters_of) (own := [("name", 1), ("many", 2)]) (by decide +kernel)) (fun _ _ _ _ _ => dgc_tup rfl (dgsc_cons (dgc_name (i := 1) sc_letters_of.nd rfl (by first | exact Or.inl rfl | exact Or.inr rfl) (by decide)) (dgsc_cons (dgc_name (i := 2) sc_letters_of.nd rfl (by first | exact Or.inl rfl | exact Or.inr rfl) (by decide)) (dgsc_nil)))) (fun _ _ _ _ _ => dts_one (dt_cmp (do_eq hr.units) (dv 2) (de_gint T.c_LETTER) (nomark _))) (fun _ _ _ _ _ => dv 1)) (da_nil))))
theorem ok_letters_of (T : Tx K mg) {f : Addr} {fd : FuncData} (F : FunD K "letters_of" "letters_of" (defArgs s_letters_of) (defBody s_letters_of) (defScope s_letters_of) [] [] f fd) (hm : mg "letters_of" = some (.ref f)) : Cal P w K mg base 1 "letters_of" P_letters_of S_letters_of :=
  ⟨f, fd, hm, F.kp, F.bindsN (fun _ _ _ _ _ _ us hl => match us, hl with | [_], _ => rfl), F.ok sc_letters_of (fun vs H Q E h => keeps_len kp_letters_of h) (fun cdv A outer s H vs Q E hr h => ⟨liftS K t_letters_of, PSs.nox (d_letters_of T  hr).pss, keeps_use (N := N_letters_of) kp_letters_of h⟩)⟩
theorem okK_letters_of_term (T : Tx K mg) {f : Addr} {fd : FuncData} (F : FunD K "letters_of" "letters_of" (defArgs s_letters_of) (defBody s_letters_of) (defScope s_letters_of) [] [] f fd) (hm : mg "letters_of" = some (.ref f)) : CalK P w K mg base 1 "letters_of" P_letters_of ["term"] [0] S_letters_of :=
  ⟨f, fd, hm, F.kp, bindsK F (fun _ _ _ _ _ _ ws hl => match ws, hl with | [_], _ => rfl), by decide, rfl, F.ok sc_letters_of (fun vs H Q E h => keeps_len kp_letters_of h) (fun cdv A outer s H vs Q E hr h => ⟨liftS K t_letters_of, PSs.nox (d_letters_of T  hr).pss, keeps_use (N := N_letters_of) kp_letters_of h⟩)⟩
abbrev s_size_of : Stmt := top 10
abbrev N_size_of : List Str := ["term"]
abbrev P_size_of : List Str := ["term"]
theorem sc_size_of : FnScope N_size_of P_size_of (defScope s_size_of) := ⟨rfl, rfl, rfl, by decide +kernel, rfl, by decide +kernel, by decide +kernel⟩
theorem d_size_of (T : Tx K mg) {f : Addr} {cdv : Value} {A : Around} {outer : List PySem.Env} {s : Shared} {H : Hp} {E : XK} (hr : Room 0 (A.deeper (envOfC "size_of" (defScope s_size_of) s.heap.objs.size f cdv))) :
    DSs (cxOf CX0 P w K mg base N_size_of "size_of" (defScope s_size_of) f cdv A outer s H E).nox (defBody s_size_of) t_size_of := by
  exact dss_one (ds_ret (de_callB dc_len rfl T.n_len PySem.boot_len (da_cons (dv 0) (da_nil))))
theorem ok_size_of (T : Tx K mg) {f : Addr} {fd : FuncData} (F : FunD K "size_of" "size_of" (defArgs s_size_of) (defBody s_size_of) (defScope s_size_of) [] [] f fd) (hm : mg "size_of" = some (.ref f)) : Cal P w K mg base 1 "size_of" P_size_of S_size_of :=
  ⟨f, fd, hm, F.kp, F.bindsN (fun _ _ _ _ _ _ us hl => match us, hl with | [_], _ => rfl), F.ok sc_size_of (fun vs H Q E h => keeps_len kp_size_of h) (fun cdv A outer s H vs Q E hr h => ⟨liftS K t_size_of, PSs.nox (d_size_of T  hr).pss, keeps_use (N := N_size_of) kp_size_of h⟩)⟩
theorem okK_size_of_term (T : Tx K mg) {f : Addr} {fd : FuncData} (F : FunD K "size_of" "size_of" (defArgs s_size_of) (defBody s_size_of) (defScope s_size_of) [] [] f fd) (hm : mg "size_of" = some (.ref f)) : CalK P w K mg base 1 "size_of" P_size_of ["term"] [0] S_size_of :=
  ⟨f, fd, hm, F.kp, bindsK F (fun _ _ _ _ _ _ ws hl => match ws, hl with | [_], _ => rfl), by decide, rfl, F.ok sc_size_of (fun vs H Q E h => keeps_len kp_size_of h) (fun cdv A outer s H vs Q E hr h => ⟨liftS K t_size_of, PSs.nox (d_size_of T  hr).pss, keeps_use (N := N_size_of) kp_size_of h⟩)⟩
abbrev s_law_deal : Stmt := top 12
abbrev N_law_deal : List Str := ["script", "salt", "most", "cells", "mix", "cell"]
abbrev P_law_deal : List Str := ["script", "salt"]
theorem sc_law_deal : FnScope N_law_deal P_law_deal (defScope s_law_deal) := ⟨rfl, rfl, rfl, by decide +kernel, rfl, by decide +kernel, by decide +kernel⟩
theorem d_law_deal (T : Tx K mg) {f : Addr} {cdv : Value} {A : Around} {outer : List PySem.Env} {s : Shared} {H : Hp} {E : XK} (hr : Room 0 (A.deeper (envOfC "_law_deal" (defScope s_law_deal) s.heap.objs.size f cdv))) :
    DSs (cxOf CX0 P w K mg base N_law_deal "_law_deal" (defScope s_law_deal) f cdv A outer s H E).nox (defBody s_law_deal) t_law_deal := by
  exact dss_cons (ds_set (i := 2) sc_law_deal.nd rfl (Or.inr rfl) (de_bin do_mul (de_bin do_mul (de_bin do_mul (de_bin do_mul (de_bin do_mul (de_bin do_pow (de_int) (de_int)) (de_bin do_pow (de_int) (de_int))) (de_bin do_pow (de_int) (de_int))) (de_bin do_pow (de_int) (de_int))) (de_bin do_pow (de_int) (de_int))) (de_bin do_pow (de_int) (de_int))))
    (dss_cons (ds_setLc (i := 3) rfl sc_law_deal.nd rfl rfl (sw_true rfl rfl rfl (by decide +kernel)) (di_seq (de_sl (dv 0) (dp_none) (dp_some (de_int)))) (blkOk_by (N := N_law_deal) (sc := defScope s_law_deal) (own := [("cell", 5)]) (by decide +kernel)) (fun _ _ _ _ _ => dgc_name (i := 5) sc_law_deal.nd rfl (by first | exact Or.inl rfl | exact Or.inr rfl) (by decide)) (fun _ _ _ _ _ => dts_nil) (fun _ _ _ _ _ => de_bin do_mod (de_callTy dc_int rfl T.n_int boot_int (da_cons (de_callB dc_abs rfl T.n_abs boot_abs (da_cons (de_callTy dc_int rfl T.n_int boot_int (da_cons (dv 5) (da_nil))) (da_nil))) (da_nil))) (dv 2)))
    (dss_cons (ds_set (i := 4) sc_law_deal.nd rfl (Or.inl rfl) (de_bin do_add (de_int) (de_bin do_mul (de_int) (dv 1))))
    (dss_cons (ds_for PassesOwn.never rfl (di_seq (dv 3)) (dg_name (i := 5) sc_law_deal.nd rfl (Or.inl rfl)) (dss_one (ds_set (i := 4) sc_law_deal.nd rfl (Or.inl rfl) (de_bin do_mod (de_callTy dc_int rfl T.n_int boot_int (da_cons (de_bin do_add (de_bin do_add (de_bin do_mul (dv 4) (de_int)) (de_bin do_mod (de_callTy dc_int rfl T.n_int boot_int (da_cons (dv 5) (da_nil))) (de_int))) (de_int)) (da_nil))) (de_int)))))
    (dss_one (ds_ret (de_lst (da_cons (de_rev (de_lc rfl sc_law_deal.nd (di_seq (dv 3)) (blkOk_by (N := N_law_deal) (sc := defScope s_law_deal) (own := [("cell", 5)]) (by decide +kernel)) (fun _ _ _ _ _ => dgc_name (i := 5) sc_law_deal.nd rfl (by first | exact Or.inl rfl | exact Or.inr rfl) (by decide)) (fun _ _ _ _ _ => dts_one (dt_cmp do_ge (dv 5) (de_bin do_pow (de_int) (de_int)) (nomark _))) (fun _ _ _ _ _ => dv 5))) (da_cons (dv 4) (da_nil)))))))))
theorem ok_law_deal (T : Tx K mg) {f : Addr} {fd : FuncData} (F : FunD K "_law_deal" "_law_deal" (defArgs s_law_deal) (defBody s_law_deal) (defScope s_law_deal) [] [] f fd) (hm : mg "_law_deal" = some (.ref f)) : Cal P w K mg base 1 "_law_deal" P_law_deal S_law_deal :=
  ⟨f, fd, hm, F.kp, F.bindsN (fun _ _ _ _ _ _ us hl => match us, hl with | [_, _], _ => rfl), F.ok sc_law_deal (fun vs H Q E h => keeps_len kp_law_deal h) (fun cdv A outer s H vs Q E hr h => ⟨liftS K t_law_deal, PSs.nox (d_law_deal T  hr).pss, keeps_use (N := N_law_deal) kp_law_deal h⟩)⟩
abbrev s_law_any : Stmt := top 13
abbrev N_law_any : List Str := ["deal", "bound", "rest"]
abbrev P_law_any : List Str := ["deal", "bound"]
theorem sc_law_any : FnScope N_law_any P_law_any (defScope s_law_any) := ⟨rfl, rfl, rfl, by decide +kernel, rfl, by decide +kernel, by decide +kernel⟩
theorem d_law_any (T : Tx K mg) {f : Addr} {cdv : Value} {A : Around} {outer : List PySem.Env} {s : Shared} {H : Hp} {E : XK} (hr : Room 0 (A.deeper (envOfC "_law_any" (defScope s_law_any) s.heap.objs.size f cdv))) :
    DSs (cxOf CX0 P w K mg base N_law_any "_law_any" (defScope s_law_any) f cdv A outer s H E).nox (defBody s_law_any) t_law_any := by
  exact dss_cons (ds_while PassesOwn.never (DW.dt (dw_and (dt_cmp do_gt (de_callB dc_len rfl T.n_len PySem.boot_len (da_cons (de_ix (di_all (hu_of hr)) (dv 0) (de_int)) (da_nil))) (de_int) (nomark _)) (dw_and1 (dt_cmp (do_eq hr.units) (de_ix (di_all (hu_of hr)) (de_ix (di_all (hu_of hr)) (dv 0) (de_int)) (de_neg)) (de_int) (nomark _))))) (dss_one (ds_expr (de_m0 PySem.F.plainAttrs_list PySem.F.slot_list_pop PySem.F.type_list_pop ty_list dm_pop (de_ix (di_all (hu_of hr)) (dv 0) (de_int))))))
    (dss_cons (ds_if (dt_cmp do_gt (de_callB dc_len rfl T.n_len PySem.boot_len (da_cons (de_ix (di_all (hu_of hr)) (dv 0) (de_int)) (da_nil))) (de_int) (nomark _)) (dss_cons (ds_set (i := 2) sc_law_any.nd rfl (Or.inl rfl) (de_callTy dc_int rfl T.n_int boot_int (da_cons (de_m0 PySem.F.plainAttrs_list PySem.F.slot_list_pop PySem.F.type_list_pop ty_list dm_pop (de_ix (di_all (hu_of hr)) (dv 0) (de_int))) (da_nil))))
    (dss_cons (ds_expr (de_m PySem.F.plainAttrs_list PySem.F.slot_list_append PySem.F.type_list_append ty_list dm_append (de_ix (di_all (hu_of hr)) (dv 0) (de_int)) (da_cons (de_bin do_div (dv 2) (dv 1)) (da_nil))))
    (dss_one (ds_ret (de_bin do_mod (dv 2) (dv 1)))))) (dss_nil))
    (dss_cons (ds_asg (de_bin do_mod (de_callTy dc_int rfl T.n_int boot_int (da_cons (de_bin do_add (de_bin do_mul (de_ix (di_all (hu_of hr)) (dv 0) (de_int)) (de_int)) (de_int)) (da_nil))) (de_int)) (dg_sub (dv 0) (de_int) (dset_all (hu_of hr))))
    (dss_one (ds_ret (de_bin do_mod (de_callTy dc_int rfl T.n_int boot_int (da_cons (de_bin do_div (de_ix (di_all (hu_of hr)) (dv 0) (de_int)) (de_int)) (da_nil))) (dv 1))))))
theorem ok_law_any (T : Tx K mg) {f : Addr} {fd : FuncData} (F : FunD K "_law_any" "_law_any" (defArgs s_law_any) (defBody s_law_any) (defScope s_law_any) [] [] f fd) (hm : mg "_law_any" = some (.ref f)) : Cal P w K mg base 1 "_law_any" P_law_any S_law_any :=
  ⟨f, fd, hm, F.kp, F.bindsN (fun _ _ _ _ _ _ us hl => match us, hl with | [_, _], _ => rfl), F.ok sc_law_any (fun vs H Q E h => keeps_len kp_law_any h) (fun cdv A outer s H vs Q E hr h => ⟨liftS K t_law_any, PSs.nox (d_law_any T  hr).pss, keeps_use (N := N_law_any) kp_law_any h⟩)⟩
abbrev s_law_of : Stmt := top 14
abbrev N_law_of : List Str := ["deal", "some"]
abbrev P_law_of : List Str := ["deal", "some"]
theorem sc_law_of : FnScope N_law_of P_law_of (defScope s_law_of) := ⟨rfl, rfl, rfl, by decide +kernel, rfl, by decide +kernel, by decide +kernel⟩
theorem d_law_of (T : Tx K mg) (C_law_any : Cal P w K mg base 1 "_law_any" P_law_any S_law_any) {f : Addr} {cdv : Value} {A : Around} {outer : List PySem.Env} {s : Shared} {H : Hp} {E : XK} (hr : Room 1 (A.deeper (envOfC "_law_of" (defScope s_law_of) s.heap.objs.size f cdv))) :
    DSs (cxOf CX0 P w K mg base N_law_of "_law_of" (defScope s_law_of) f cdv A outer s H E).nox (defBody s_law_of) t_law_of := by
  exact dss_one (ds_ret (de_ix (di_all (hu_of hr)) (dv 1) (dcall C_law_any hr (by decide) (da_cons (dv 0) (da_cons (de_callB dc_len rfl T.n_len PySem.boot_len (da_cons (dv 1) (da_nil))) (da_nil))))))
theorem ok_law_of (T : Tx K mg) (C_law_any : Cal P w K mg base 1 "_law_any" P_law_any S_law_any) {f : Addr} {fd : FuncData} (F : FunD K "_law_of" "_law_of" (defArgs s_law_of) (defBody s_law_of) (defScope s_law_of) [] [] f fd) (hm : mg "_law_of" = some (.ref f)) : Cal P w K mg base 2 "_law_of" P_law_of S_law_of :=
  ⟨f, fd, hm, F.kp, F.bindsN (fun _ _ _ _ _ _ us hl => match us, hl with | [_, _], _ => rfl), F.ok sc_law_of (fun vs H Q E h => keeps_len kp_law_of h) (fun cdv A outer s H vs Q E hr h => ⟨liftS K t_law_of, PSs.nox (d_law_of T C_law_any hr).pss, keeps_use (N := N_law_of) kp_law_of h⟩)⟩
abbrev s_law_is_kind : Stmt := top 15
abbrev N_law_is_kind : List Str := ["told", "due"]
abbrev P_law_is_kind : List Str := ["told", "due"]
theorem sc_law_is_kind : FnScope N_law_is_kind P_law_is_kind (defScope s_law_is_kind) := ⟨rfl, rfl, rfl, by decide +kernel, rfl, by decide +kernel, by decide +kernel⟩
theorem d_law_is_kind (T : Tx K mg) {f : Addr} {cdv : Value} {A : Around} {outer : List PySem.Env} {s : Shared} {H : Hp} {E : XK} (hr : Room 0 (A.deeper (envOfC "_law_is_kind" (defScope s_law_is_kind) s.heap.objs.size f cdv))) :
    DSs (cxOf CX0 P w K mg base N_law_is_kind "_law_is_kind" (defScope s_law_is_kind) f cdv A outer s H E).nox (defBody s_law_is_kind) t_law_is_kind := by
  exact dss_cons (ds_if (dt_cmp do_is (dv 1) (de_non) (nomark _)) (dss_one (ds_ret (de_cmp do_is (dv 0) (de_non) (nomark _)))) (dss_nil))
    (dss_cons (ds_if (DW.dt (dw_or (dt_cmp do_is (dv 1) (de_bl) (nomark _)) (dw_or1 (dt_cmp do_is (dv 1) (de_bl) (nomark _))))) (dss_one (ds_ret (de_ifExp (dt_val (dv 1)) (de_cmp do_is (dv 0) (de_bl) (nomark _)) (de_cmp do_is (dv 0) (de_bl) (nomark _))))) (dss_nil))
    (dss_cons (ds_if (dt_val (de_callB dc_isi rfl T.n_isinstance boot_isinstance (da_cons (dv 1) (da_cons (de_bltn rfl T.n_str boot_str) (da_nil))))) (dss_one (ds_ret (de_and (de_callB dc_isi rfl T.n_isinstance boot_isinstance (da_cons (dv 0) (da_cons (de_bltn rfl T.n_str boot_str) (da_nil)))) (de_one (de_cmp (do_eq hr.units) (dv 0) (dv 1) (nomark _)))))) (dss_nil))
    (dss_one (ds_ret (de_and (de_callB dc_isi rfl T.n_isinstance boot_isinstance (da_cons (dv 0) (da_cons (de_bltn rfl T.n_int boot_int) (da_nil)))) (de_and (de_not (de_callB dc_isi rfl T.n_isinstance boot_isinstance (da_cons (dv 0) (da_cons (de_bltn rfl T.n_bool boot_bool) (da_nil))))) (de_one (de_cmp (do_eq hr.units) (dv 0) (dv 1) (nomark _)))))))))
theorem ok_law_is_kind (T : Tx K mg) {f : Addr} {fd : FuncData} (F : FunD K "_law_is_kind" "_law_is_kind" (defArgs s_law_is_kind) (defBody s_law_is_kind) (defScope s_law_is_kind) [] [] f fd) (hm : mg "_law_is_kind" = some (.ref f)) : Cal P w K mg base 1 "_law_is_kind" P_law_is_kind S_law_is_kind :=
  ⟨f, fd, hm, F.kp, F.bindsN (fun _ _ _ _ _ _ us hl => match us, hl with | [_, _], _ => rfl), F.ok sc_law_is_kind (fun vs H Q E h => keeps_len kp_law_is_kind h) (fun cdv A outer s H vs Q E hr h => ⟨liftS K t_law_is_kind, PSs.nox (d_law_is_kind T  hr).pss, keeps_use (N := N_law_is_kind) kp_law_is_kind h⟩)⟩
abbrev s_law_same : Stmt := top 16
abbrev N_law_same : List Str := ["told", "due", "todo", "one", "other", "at"]
abbrev P_law_same : List Str := ["told", "due"]
theorem sc_law_same : FnScope N_law_same P_law_same (defScope s_law_same) := ⟨rfl, rfl, rfl, by decide +kernel, rfl, by decide +kernel, by decide +kernel⟩
theorem d_law_same (T : Tx K mg) (C_law_is_kind : Cal P w K mg base 1 "_law_is_kind" P_law_is_kind S_law_is_kind) {f : Addr} {cdv : Value} {A : Around} {outer : List PySem.Env} {s : Shared} {H : Hp} {E : XK} (hr : Room 1 (A.deeper (envOfC "_law_same" (defScope s_law_same) s.heap.objs.size f cdv))) :
    DSs (cxOf CX0 P w K mg base N_law_same "_law_same" (defScope s_law_same) f cdv A outer s H E).nox (defBody s_law_same) t_law_same := by
  exact dss_cons (ds_set (i := 2) sc_law_same.nd rfl (Or.inl rfl) (de_lst (da_cons (de_tup (da_cons (dv 0) (da_cons (dv 1) (da_nil)))) (da_nil))))
    (dss_cons (ds_while PassesOwn.never (dt_cmp do_gt (de_callB dc_len rfl T.n_len PySem.boot_len (da_cons (dv 2) (da_nil))) (de_int) (nomark _)) (dss_cons (ds_asg (de_m0 PySem.F.plainAttrs_list PySem.F.slot_list_pop PySem.F.type_list_pop ty_list dm_pop (dv 2)) (dg_tup rfl (dgs_cons (dg_name (i := 3) sc_law_same.nd rfl (Or.inl rfl)) (dgs_cons (dg_name (i := 4) sc_law_same.nd rfl (Or.inl rfl)) (dgs_nil)))))
    (dss_one (ds_if (dt_val (de_callB dc_isi rfl T.n_isinstance boot_isinstance (da_cons (dv 4) (da_cons (de_bltn rfl T.n_tuple boot_tuple) (da_nil))))) (dss_cons (ds_if (DW.dt (dw_or (dt_not (dt_val (de_callB dc_isi rfl T.n_isinstance boot_isinstance (da_cons (dv 3) (da_cons (de_bltn rfl T.n_tuple boot_tuple) (da_nil)))))) (dw_or1 (dt_cmp (do_ne hr.units) (de_callB dc_len rfl T.n_len PySem.boot_len (da_cons (dv 3) (da_nil))) (de_callB dc_len rfl T.n_len PySem.boot_len (da_cons (dv 4) (da_nil))) (nomark _))))) (dss_one (ds_ret (de_bl))) (dss_nil))
    (dss_one (ds_for PassesOwn.never rfl (di_rng1 rfl T.n_range (de_callB dc_len rfl T.n_len PySem.boot_len (da_cons (dv 4) (da_nil)))) (dg_name (i := 5) sc_law_same.nd rfl (Or.inl rfl)) (dss_one (ds_expr (de_m PySem.F.plainAttrs_list PySem.F.slot_list_append PySem.F.type_list_append ty_list dm_append (dv 2) (da_cons (de_tup (da_cons (de_ix (di_all (hu_of hr)) (dv 3) (dv 5)) (da_cons (de_ix (di_all (hu_of hr)) (dv 4) (dv 5)) (da_nil)))) (da_nil)))))))) (dss_one (ds_if (DW.dt (dw_or (dt_val (de_isiT (by decide) (by decide) rfl T.n_isinstance (dv 3) (dtys_cons (pe_tyN rfl T.n_tuple boot_tuple) (dtys_cons (pe_tyN rfl T.n_list boot_list) (dtys_cons (pe_tyN rfl T.n_dict boot_dict) (dtys_nil)))))) (dw_or1 (dt_not (dt_val (dcall C_law_is_kind hr (by decide) (da_cons (dv 3) (da_cons (dv 4) (da_nil))))))))) (dss_one (ds_ret (de_bl))) (dss_nil)))))))
    (dss_one (ds_ret (de_bl))))
theorem ok_law_same (T : Tx K mg) (C_law_is_kind : Cal P w K mg base 1 "_law_is_kind" P_law_is_kind S_law_is_kind) {f : Addr} {fd : FuncData} (F : FunD K "_law_same" "_law_same" (defArgs s_law_same) (defBody s_law_same) (defScope s_law_same) [] [] f fd) (hm : mg "_law_same" = some (.ref f)) : Cal P w K mg base 2 "_law_same" P_law_same S_law_same :=
  ⟨f, fd, hm, F.kp, F.bindsN (fun _ _ _ _ _ _ us hl => match us, hl with | [_, _], _ => rfl), F.ok sc_law_same (fun vs H Q E h => keeps_len kp_law_same h) (fun cdv A outer s H vs Q E hr h => ⟨liftS K t_law_same, PSs.nox (d_law_same T C_law_is_kind hr).pss, keeps_use (N := N_law_same) kp_law_same h⟩)⟩
abbrev s_law_all : Stmt := top 17
abbrev N_law_all : List Str := ["pairs", "told", "due"]
abbrev P_law_all : List Str := ["pairs"]
theorem sc_law_all : FnScope N_law_all P_law_all (defScope s_law_all) := ⟨rfl, rfl, rfl, by decide +kernel, rfl, by decide +kernel, by decide +kernel⟩
theorem d_law_all (T : Tx K mg) (C_law_same : Cal P w K mg base 2 "_law_same" P_law_same S_law_same) {f : Addr} {cdv : Value} {A : Around} {outer : List PySem.Env} {s : Shared} {H : Hp} {E : XK} (hr : Room 2 (A.deeper (envOfC "_law_all" (defScope s_law_all) s.heap.objs.size f cdv))) :
    DSs (cxOf CX0 P w K mg base N_law_all "_law_all" (defScope s_law_all) f cdv A outer s H E).nox (defBody s_law_all) t_law_all := by
  exact dss_one (ds_ret (de_cmp (do_eq hr.units) (de_callB dc_len rfl T.n_len PySem.boot_len (da_cons (de_lc rfl sc_law_all.nd (di_seq (dv 0)) (blkOk_by (N := N_law_all) (sc := defScope s_law_all) (own := [("told", 1), ("due", 2)]) (by decide +kernel)) (fun _ _ _ _ _ => dgc_tup rfl (dgsc_cons (dgc_name (i := 1) sc_law_all.nd rfl (by first | exact Or.inl rfl | exact Or.inr rfl) (by decide)) (dgsc_cons (dgc_name (i := 2) sc_law_all.nd rfl (by first | exact Or.inl rfl | exact Or.inr rfl) (by decide)) (dgsc_nil)))) (fun _ _ _ _ _ => dts_one (dt_not (dt_val (dcall C_law_same hr (by decide) (da_cons (dv 1) (da_cons (dv 2) (da_nil))))))) (fun _ _ _ _ _ => dv 1)) (da_nil))) (de_int) (nomark _)))
theorem ok_law_all (T : Tx K mg) (C_law_same : Cal P w K mg base 2 "_law_same" P_law_same S_law_same) {f : Addr} {fd : FuncData} (F : FunD K "_law_all" "_law_all" (defArgs s_law_all) (defBody s_law_all) (defScope s_law_all) [] [] f fd) (hm : mg "_law_all" = some (.ref f)) : Cal P w K mg base 3 "_law_all" P_law_all S_law_all :=
  ⟨f, fd, hm, F.kp, F.bindsN (fun _ _ _ _ _ _ us hl => match us, hl with | [_], _ => rfl), F.ok sc_law_all (fun vs H Q E h => keeps_len kp_law_all h) (fun cdv A outer s H vs Q E hr h => ⟨liftS K t_law_all, PSs.nox (d_law_all T C_law_same hr).pss, keeps_use (N := N_law_all) kp_law_all h⟩)⟩
abbrev s_law_words : Stmt := top 18
abbrev N_law_words : List Str := ["some"]
abbrev P_law_words : List Str := []
theorem sc_law_words : FnScope N_law_words P_law_words (defScope s_law_words) := ⟨rfl, rfl, rfl, by decide +kernel, rfl, by decide +kernel, by decide +kernel⟩
theorem d_law_words (T : Tx K mg) {f : Addr} {cdv : Value} {A : Around} {outer : List PySem.Env} {s : Shared} {H : Hp} {E : XK} (hr : Room 0 (A.deeper (envOfC "_law_words" (defScope s_law_words) s.heap.objs.size f cdv))) :
    DSs (cxOf CX0 P w K mg base N_law_words "_law_words" (defScope s_law_words) f cdv A outer s H E).nox (defBody s_law_words) t_law_words := by
  exact dss_cons (ds_set (i := 0) sc_law_words.nd rfl (Or.inl rfl) (de_lst (da_cons (de_str) (da_cons (de_str) (da_cons (de_str) (da_cons (de_str) (da_cons (de_str) (da_cons (de_str) (da_cons (de_str) (da_cons (de_str) (da_cons (de_str) (da_cons (de_str) (da_cons (de_str) (da_cons (de_str) (da_nil)))))))))))))))
    (dss_one (ds_ret (de_bin do_add (dv 0) (de_lst (da_cons (de_str) (da_cons (de_str) (da_cons (de_str) (da_cons (de_str) (da_cons (de_str) (da_cons (de_str) (da_cons (de_str) (da_cons (de_str) (da_cons (de_str) (da_cons (de_str) (da_nil)))))))))))))))
theorem ok_law_words (T : Tx K mg) {f : Addr} {fd : FuncData} (F : FunD K "_law_words" "_law_words" (defArgs s_law_words) (defBody s_law_words) (defScope s_law_words) [] [] f fd) (hm : mg "_law_words" = some (.ref f)) : Cal P w K mg base 1 "_law_words" P_law_words S_law_words :=
  ⟨f, fd, hm, F.kp, F.bindsN (fun _ _ _ _ _ _ us hl => match us, hl with | [], _ => rfl), F.ok sc_law_words (fun vs H Q E h => keeps_len kp_law_words h) (fun cdv A outer s H vs Q E hr h => ⟨liftS K t_law_words, PSs.nox (d_law_words T  hr).pss, keeps_use (N := N_law_words) kp_law_words h⟩)⟩
abbrev s_law_names : Stmt := top 19
abbrev N_law_names : List Str := ["deal", "many", "marks", "words", "lead", "start", "step", "found", "word", "turn", "mark", "letters", "place", "name", "late", "spot"]
abbrev P_law_names : List Str := ["deal", "many"]
theorem sc_law_names : FnScope N_law_names P_law_names (defScope s_law_names) := ⟨rfl, rfl, rfl, by decide +kernel, rfl, by decide +kernel, by decide +kernel⟩
theorem d_law_names (T : Tx K mg) (C_law_words : Cal P w K mg base 1 "_law_words" P_law_words S_law_words) (C_law_any : Cal P w K mg base 1 "_law_any" P_law_any S_law_any) (C_law_of : Cal P w K mg base 2 "_law_of" P_law_of S_law_of) {f : Addr} {cdv : Value} {A : Around} {outer : List PySem.Env} {s : Shared} {H : Hp} {E : XK} (hr : Room 2 (A.deeper (envOfC "_law_names" (defScope s_law_names) s.heap.objs.size f cdv))) :
    DSs (cxOf CX0 P w K mg base N_law_names "_law_names" (defScope s_law_names) f cdv A outer s H E).nox (defBody s_law_names) t_law_names := by
  exact dss_cons (ds_par (i := 2) (j := 3) rfl sc_law_names.nd rfl rfl (by decide) rfl rfl (da_cons (de_callTy (dc_list rfl) rfl T.n_list boot_list (da_cons (de_str) (da_nil))) (da_cons (dcall0 C_law_words hr (by decide)) (da_nil))) (by rfl))
    (dss_cons (ds_for PassesOwn.never rfl (di_seq (de_str)) (dg_name (i := 4) sc_law_names.nd rfl (Or.inr rfl)) (dss_one (ds_set (i := 2) sc_law_names.nd rfl (Or.inl rfl) (de_bin do_add (dv 2) (de_lc rfl sc_law_names.nd (di_seq (de_str)) (blkOk_by (N := N_law_names) (sc := defScope s_law_names) (own := [("late", 14)]) (by decide +kernel)) (fun _ _ _ _ _ => dgc_name (i := 14) sc_law_names.nd rfl (by first | exact Or.inl rfl | exact Or.inr rfl) (by decide)) (fun _ _ _ _ _ => dts_nil) (fun _ _ _ _ _ => de_bin do_add (dv 4) (dv 14)))))))
    (dss_cons (ds_asg (de_tup (da_cons (dcall C_law_any hr (by decide) (da_cons (dv 0) (da_cons (de_int) (da_nil)))) (da_cons (dcall C_law_of hr (by decide) (da_cons (dv 0) (da_cons (de_lst (da_cons (de_int) (da_cons (de_int) (da_cons (de_int) (da_cons (de_int) (da_cons (de_int) (da_cons (de_int) (da_nil)))))))) (da_nil)))) (da_cons (de_lst (da_nil)) (da_cons (dcall C_law_any hr (by decide) (da_cons (dv 0) (da_cons (de_int) (da_nil)))) (da_nil)))))) (dg_tup rfl (dgs_cons (dg_name (i := 5) sc_law_names.nd rfl (Or.inl rfl)) (dgs_cons (dg_name (i := 6) sc_law_names.nd rfl (Or.inl rfl)) (dgs_cons (dg_name (i := 7) sc_law_names.nd rfl (Or.inl rfl)) (dgs_cons (dg_name (i := 8) sc_law_names.nd rfl (Or.inl rfl)) (dgs_nil)))))))
    (dss_cons (ds_for PassesOwn.never rfl (di_rng1 rfl T.n_range (dv 1)) (dg_name (i := 9) sc_law_names.nd rfl (Or.inl rfl)) (dss_cons (ds_set (i := 10) sc_law_names.nd rfl (Or.inl rfl) (de_ix (di_all (hu_of hr)) (dv 2) (de_bin do_mod (de_callTy dc_int rfl T.n_int boot_int (da_cons (de_bin do_add (dv 5) (de_bin do_mul (dv 9) (dv 6))) (da_nil))) (de_int))))
    (dss_cons (ds_set (i := 11) sc_law_names.nd rfl (Or.inl rfl) (de_m PySem.F.plainAttrs_str PySem.F.slot_str_join PySem.F.type_str_join ty_str dm_join (de_str) (da_cons (de_lc rfl sc_law_names.nd (di_rng1 rfl T.n_range (dcall C_law_any hr (by decide) (da_cons (dv 0) (da_cons (de_bin do_sub (de_int) (de_callB dc_len rfl T.n_len PySem.boot_len (da_cons (dv 10) (da_nil)))) (da_nil))))) (blkOk_by (N := N_law_names) (sc := defScope s_law_names) (own := [("spot", 15)]) (by decide +kernel)) (fun _ _ _ _ _ => dgc_name (i := 15) sc_law_names.nd rfl (by first | exact Or.inl rfl | exact Or.inr rfl) (by decide)) (fun _ _ _ _ _ => dts_nil) (fun _ _ _ _ _ => de_ix (di_all (hu_of hr)) (de_str) (dcall C_law_any hr (by decide) (da_cons (dv 0) (da_cons (de_int) (da_nil)))))) (da_nil))))
    (dss_cons (ds_set (i := 12) sc_law_names.nd rfl (Or.inl rfl) (dcall C_law_any hr (by decide) (da_cons (dv 0) (da_cons (de_bin do_add (de_callB dc_len rfl T.n_len PySem.boot_len (da_cons (dv 11) (da_nil))) (de_int)) (da_nil)))))
    (dss_cons (ds_set (i := 13) sc_law_names.nd rfl (Or.inl rfl) (de_bin do_add (de_bin do_add (de_sl (dv 11) (dp_none) (dp_some (dv 12))) (dv 10)) (de_sl (dv 11) (dp_some (dv 12)) (dp_none))))
    (dss_one (ds_if (dt_cmp (do_eq hr.units) (dcall C_law_any hr (by decide) (da_cons (dv 0) (da_cons (de_int) (da_nil)))) (de_int) (nomark _)) (dss_one (ds_expr (de_m PySem.F.plainAttrs_list PySem.F.slot_list_append PySem.F.type_list_append ty_list dm_append (dv 7) (da_cons (de_ix (di_all (hu_of hr)) (dv 3) (de_bin do_mod (de_callTy dc_int rfl T.n_int boot_int (da_cons (de_bin do_add (dv 8) (dv 9)) (da_nil))) (de_int))) (da_nil))))) (dss_one (ds_expr (de_m PySem.F.plainAttrs_list PySem.F.slot_list_append PySem.F.type_list_append ty_list dm_append (dv 7) (da_cons (de_ifExp (dt_cmp (do_in (hu_of hr)) (dv 13) (dv 3) (by rfl)) (dv 10) (dv 13)) (da_nil))))))))))))
    (dss_one (ds_ret (dv 7))))))
theorem ok_law_names (T : Tx K mg) (C_law_words : Cal P w K mg base 1 "_law_words" P_law_words S_law_words) (C_law_any : Cal P w K mg base 1 "_law_any" P_law_any S_law_any) (C_law_of : Cal P w K mg base 2 "_law_of" P_law_of S_law_of) {f : Addr} {fd : FuncData} (F : FunD K "_law_names" "_law_names" (defArgs s_law_names) (defBody s_law_names) (defScope s_law_names) [] [] f fd) (hm : mg "_law_names" = some (.ref f)) : Cal P w K mg base 3 "_law_names" P_law_names S_law_names :=
  ⟨f, fd, hm, F.kp, F.bindsN (fun _ _ _ _ _ _ us hl => match us, hl with | [_, _], _ => rfl), F.ok sc_law_names (fun vs H Q E h => keeps_len kp_law_names h) (fun cdv A outer s H vs Q E hr h => ⟨liftS K t_law_names, PSs.nox (d_law_names T C_law_words C_law_any C_law_of hr).pss, keeps_use (N := N_law_names) kp_law_names h⟩)⟩
abbrev s_law_term : Stmt := top 20
abbrev N_law_term : List Str := ["deal", "names", "letters", "size", "found", "due", "room", "many"]
abbrev P_law_term : List Str := ["deal", "names", "letters", "size"]
theorem sc_law_term : FnScope N_law_term P_law_term (defScope s_law_term) := ⟨rfl, rfl, rfl, by decide +kernel, rfl, by decide +kernel, by decide +kernel⟩
theorem d_law_term (T : Tx K mg) (C_law_of : Cal P w K mg base 2 "_law_of" P_law_of S_law_of) (C_law_any : Cal P w K mg base 1 "_law_any" P_law_any S_law_any) {f : Addr} {cdv : Value} {A : Around} {outer : List PySem.Env} {s : Shared} {H : Hp} {E : XK} (hr : Room 2 (A.deeper (envOfC "_law_term" (defScope s_law_term) s.heap.objs.size f cdv))) :
    DSs (cxOf CX0 P w K mg base N_law_term "_law_term" (defScope s_law_term) f cdv A outer s H E).nox (defBody s_law_term) t_law_term := by
  exact dss_cons (ds_par (i := 4) (j := 5) rfl sc_law_term.nd rfl rfl (by decide) rfl rfl (da_cons (de_lst (da_nil)) (da_cons (de_int) (da_nil))) (by rfl))
    (dss_cons (ds_while PassesOwn.never (dt_cmp do_gt (dv 5) (de_int) (nomark _)) (dss_cons (ds_set (i := 6) sc_law_term.nd rfl (Or.inl rfl) (de_callB (dc_max rfl) rfl T.n_max (by decide +kernel) (da_cons (de_int) (da_cons (de_bin do_sub (de_bin do_sub (dv 3) (de_callB dc_len rfl T.n_len PySem.boot_len (da_cons (dv 4) (da_nil)))) (dv 5)) (da_nil)))))
    (dss_cons (ds_set (i := 7) sc_law_term.nd rfl (Or.inl rfl) (de_callB (dc_min rfl) rfl T.n_min (by decide +kernel) (da_cons (dv 6) (da_cons (dcall C_law_of hr (by decide) (da_cons (dv 0) (da_cons (de_lst (da_cons (de_int) (da_cons (de_int) (da_cons (de_int) (da_cons (de_int) (da_cons (de_int) (da_cons (de_int) (da_cons (de_int) (da_cons (de_int) (da_cons (dv 6) (da_nil))))))))))) (da_nil)))) (da_nil)))))
    (dss_cons (ds_if (DW.dt (dw_and (dt_cmp (do_eq hr.units) (dv 7) (de_int) (nomark _)) (dw_and (dt_cmp do_gt (de_callB dc_len rfl T.n_len PySem.boot_len (da_cons (dv 2) (da_nil))) (de_int) (nomark _)) (dw_and1 (dt_cmp do_gt (dcall C_law_any hr (by decide) (da_cons (dv 0) (da_cons (de_int) (da_nil)))) (de_int) (nomark _)))))) (dss_one (ds_expr (de_m PySem.F.plainAttrs_list PySem.F.slot_list_append PySem.F.type_list_append ty_list dm_append (dv 4) (da_cons (de_tup (da_cons (dcall C_law_of hr (by decide) (da_cons (dv 0) (da_cons (dv 2) (da_nil)))) (da_cons (de_bin do_sub (de_int) (de_int)) (da_nil)))) (da_nil))))) (dss_one (ds_expr (de_m PySem.F.plainAttrs_list PySem.F.slot_list_append PySem.F.type_list_append ty_list dm_append (dv 4) (da_cons (de_tup (da_cons (dcall C_law_of hr (by decide) (da_cons (dv 0) (da_cons (dv 1) (da_nil)))) (da_cons (dv 7) (da_nil)))) (da_nil))))))
    (dss_one (ds_set (i := 5) sc_law_term.nd rfl (Or.inl rfl) (de_bin do_sub (de_bin do_add (dv 5) (dv 7)) (de_int))))))))
    (dss_one (ds_ret (de_callTy dc_tuple rfl T.n_tuple boot_tuple (da_cons (dv 4) (da_nil))))))
theorem ok_law_term (T : Tx K mg) (C_law_of : Cal P w K mg base 2 "_law_of" P_law_of S_law_of) (C_law_any : Cal P w K mg base 1 "_law_any" P_law_any S_law_any) {f : Addr} {fd : FuncData} (F : FunD K "_law_term" "_law_term" (defArgs s_law_term) (defBody s_law_term) (defScope s_law_term) [] [] f fd) (hm : mg "_law_term" = some (.ref f)) : Cal P w K mg base 3 "_law_term" P_law_term S_law_term :=
  ⟨f, fd, hm, F.kp, F.bindsN (fun _ _ _ _ _ _ us hl => match us, hl with | [_, _, _, _], _ => rfl), F.ok sc_law_term (fun vs H Q E h => keeps_len kp_law_term h) (fun cdv A outer s H vs Q E hr h => ⟨liftS K t_law_term, PSs.nox (d_law_term T C_law_of C_law_any hr).pss, keeps_use (N := N_law_term) kp_law_term h⟩)⟩
abbrev s_law_some_term : Stmt := top 21
abbrev N_law_some_term : List Str := ["deal", "names", "letters"]
abbrev P_law_some_term : List Str := ["deal", "names", "letters"]
theorem sc_law_some_term : FnScope N_law_some_term P_law_some_term (defScope s_law_some_term) := ⟨rfl, rfl, rfl, by decide +kernel, rfl, by decide +kernel, by decide +kernel⟩
theorem d_law_some_term (T : Tx K mg) (C_law_term : Cal P w K mg base 3 "_law_term" P_law_term S_law_term) (C_law_of : Cal P w K mg base 2 "_law_of" P_law_of S_law_of) {f : Addr} {cdv : Value} {A : Around} {outer : List PySem.Env} {s : Shared} {H : Hp} {E : XK} (hr : Room 3 (A.deeper (envOfC "_law_some_term" (defScope s_law_some_term) s.heap.objs.size f cdv))) :
    DSs (cxOf CX0 P w K mg base N_law_some_term "_law_some_term" (defScope s_law_some_term) f cdv A outer s H E).nox (defBody s_law_some_term) t_law_some_term := by
  exact dss_one (ds_ret (dcall C_law_term hr (by decide) (da_cons (dv 0) (da_cons (dv 1) (da_cons (dv 2) (da_cons (dcall C_law_of hr (by decide) (da_cons (dv 0) (da_cons (de_lst (da_cons (de_int) (da_cons (de_int) (da_cons (de_int) (da_cons (de_int) (da_cons (de_int) (da_cons (de_int) (da_cons (de_int) (da_nil))))))))) (da_nil)))) (da_nil)))))))
theorem ok_law_some_term (T : Tx K mg) (C_law_term : Cal P w K mg base 3 "_law_term" P_law_term S_law_term) (C_law_of : Cal P w K mg base 2 "_law_of" P_law_of S_law_of) {f : Addr} {fd : FuncData} (F : FunD K "_law_some_term" "_law_some_term" (defArgs s_law_some_term) (defBody s_law_some_term) (defScope s_law_some_term) [] [] f fd) (hm : mg "_law_some_term" = some (.ref f)) : Cal P w K mg base 4 "_law_some_term" P_law_some_term S_law_some_term :=
  ⟨f, fd, hm, F.kp, F.bindsN (fun _ _ _ _ _ _ us hl => match us, hl with | [_, _, _], _ => rfl), F.ok sc_law_some_term (fun vs H Q E h => keeps_len kp_law_some_term h) (fun cdv A outer s H vs Q E hr h => ⟨liftS K t_law_some_term, PSs.nox (d_law_some_term T C_law_term C_law_of hr).pss, keeps_use (N := N_law_some_term) kp_law_some_term h⟩)⟩
abbrev s_law_shaped : Stmt := top 22
abbrev N_law_shaped : List Str := ["deal", "names", "letters", "sort", "size", "last", "turn"]
abbrev P_law_shaped : List Str := ["deal", "names", "letters"]
theorem sc_law_shaped : FnScope N_law_shaped P_law_shaped (defScope s_law_shaped) := ⟨rfl, rfl, rfl, by decide +kernel, rfl, by decide +kernel, by decide +kernel⟩
theorem d_law_shaped (T : Tx K mg) (C_law_some_term : Cal P w K mg base 4 "_law_some_term" P_law_some_term S_law_some_term) (C_law_any : Cal P w K mg base 1 "_law_any" P_law_any S_law_any) (C_law_of : Cal P w K mg base 2 "_law_of" P_law_of S_law_of) {f : Addr} {cdv : Value} {A : Around} {outer : List PySem.Env} {s : Shared} {H : Hp} {E : XK} (hr : Room 4 (A.deeper (envOfC "_law_shaped" (defScope s_law_shaped) s.heap.objs.size f cdv))) :
    DSs (cxOf CX0 P w K mg base N_law_shaped "_law_shaped" (defScope s_law_shaped) f cdv A outer s H E).nox (defBody s_law_shaped) t_law_shaped := by
  exact dss_cons (ds_par (i := 3) (j := 4) rfl sc_law_shaped.nd rfl rfl (by decide) rfl rfl (da_cons (dcall C_law_any hr (by decide) (da_cons (dv 0) (da_cons (de_int) (da_nil)))) (da_cons (dcall C_law_of hr (by decide) (da_cons (dv 0) (da_cons (de_lst (da_cons (de_int) (da_cons (de_int) (da_cons (de_int) (da_cons (de_int) (da_cons (de_int) (da_nil))))))) (da_nil)))) (da_nil))) (by rfl))
    (dss_cons (ds_set (i := 5) sc_law_shaped.nd rfl (Or.inr rfl) (de_ifExp (dt_cmp (do_eq hr.units) (dcall C_law_any hr (by decide) (da_cons (dv 0) (da_cons (de_int) (da_nil)))) (de_int) (nomark _)) (de_tup (da_cons (dcall C_law_of hr (by decide) (da_cons (dv 0) (da_cons (dv 2) (da_nil)))) (da_cons (de_bin do_sub (de_int) (de_int)) (da_nil)))) (de_tup (da_cons (dcall C_law_of hr (by decide) (da_cons (dv 0) (da_cons (dv 1) (da_nil)))) (da_cons (de_int) (da_nil))))))
    (dss_cons (ds_if (dt_cmp (do_eq hr.units) (dv 3) (de_int) (nomark _)) (dss_one (ds_ret (de_bin do_add (de_callTy dc_tuple rfl T.n_tuple boot_tuple (da_cons (de_lc rfl sc_law_shaped.nd (di_rng1 rfl T.n_range (de_bin do_sub (dv 4) (de_int))) (blkOk_by (N := N_law_shaped) (sc := defScope s_law_shaped) (own := [("turn", 6)]) (by decide +kernel)) (fun _ _ _ _ _ => dgc_name (i := 6) sc_law_shaped.nd rfl (by first | exact Or.inl rfl | exact Or.inr rfl) (by decide)) (fun _ _ _ _ _ => dts_nil) (fun _ _ _ _ _ => de_tup (da_cons (dcall C_law_of hr (by decide) (da_cons (dv 0) (da_cons (dv 1) (da_nil)))) (da_cons (de_int) (da_nil))))) (da_nil))) (de_tup (da_cons (dv 5) (da_nil)))))) (dss_nil))
    (dss_cons (ds_if (dt_cmp (do_eq hr.units) (dv 3) (de_int) (nomark _)) (dss_one (ds_ret (de_bin do_add (de_tup (da_cons (de_tup (da_cons (dcall C_law_of hr (by decide) (da_cons (dv 0) (da_cons (dv 1) (da_nil)))) (da_cons (de_bin do_sub (dv 4) (de_int)) (da_nil)))) (da_nil))) (de_callTy dc_tuple rfl T.n_tuple boot_tuple (da_cons (de_lc rfl sc_law_shaped.nd (di_rng1 rfl T.n_range (de_bin do_sub (dv 4) (de_int))) (blkOk_by (N := N_law_shaped) (sc := defScope s_law_shaped) (own := [("turn", 6)]) (by decide +kernel)) (fun _ _ _ _ _ => dgc_name (i := 6) sc_law_shaped.nd rfl (by first | exact Or.inl rfl | exact Or.inr rfl) (by decide)) (fun _ _ _ _ _ => dts_nil) (fun _ _ _ _ _ => dcall C_law_of hr (by decide) (da_cons (dv 0) (da_cons (de_lst (da_cons (dv 5) (da_cons (de_tup (da_cons (dcall C_law_of hr (by decide) (da_cons (dv 0) (da_cons (dv 2) (da_nil)))) (da_cons (de_bin do_sub (de_int) (de_int)) (da_nil)))) (da_cons (de_tup (da_cons (de_ix (di_all (hu_of hr)) (dv 1) (de_int)) (da_cons (de_int) (da_nil)))) (da_nil))))) (da_nil))))) (da_nil)))))) (dss_nil))
    (dss_one (ds_ret (dcall C_law_some_term hr (by decide) (da_cons (dv 0) (da_cons (dv 1) (da_cons (dv 2) (da_nil))))))))))
theorem ok_law_shaped (T : Tx K mg) (C_law_some_term : Cal P w K mg base 4 "_law_some_term" P_law_some_term S_law_some_term) (C_law_any : Cal P w K mg base 1 "_law_any" P_law_any S_law_any) (C_law_of : Cal P w K mg base 2 "_law_of" P_law_of S_law_of) {f : Addr} {fd : FuncData} (F : FunD K "_law_shaped" "_law_shaped" (defArgs s_law_shaped) (defBody s_law_shaped) (defScope s_law_shaped) [] [] f fd) (hm : mg "_law_shaped" = some (.ref f)) : Cal P w K mg base 5 "_law_shaped" P_law_shaped S_law_shaped :=
  ⟨f, fd, hm, F.kp, F.bindsN (fun _ _ _ _ _ _ us hl => match us, hl with | [_, _, _], _ => rfl), F.ok sc_law_shaped (fun vs H Q E h => keeps_len kp_law_shaped h) (fun cdv A outer s H vs Q E hr h => ⟨liftS K t_law_shaped, PSs.nox (d_law_shaped T C_law_some_term C_law_any C_law_of hr).pss, keeps_use (N := N_law_shaped) kp_law_shaped h⟩)⟩
abbrev s_law_many : Stmt := top 23
abbrev N_law_many : List Str := ["sign"]
abbrev P_law_many : List Str := ["sign"]
theorem sc_law_many : FnScope N_law_many P_law_many (defScope s_law_many) := ⟨rfl, rfl, rfl, by decide +kernel, rfl, by decide +kernel, by decide +kernel⟩
theorem d_law_many (T : Tx K mg) {f : Addr} {cdv : Value} {A : Around} {outer : List PySem.Env} {s : Shared} {H : Hp} {E : XK} (hr : Room 0 (A.deeper (envOfC "_law_many" (defScope s_law_many) s.heap.objs.size f cdv))) :
    DSs (cxOf CX0 P w K mg base N_law_many "_law_many" (defScope s_law_many) f cdv A outer s H E).nox (defBody s_law_many) t_law_many := by
  exact dss_one (ds_ret (de_callB (dc_max rfl) rfl T.n_max (by decide +kernel) (da_cons (de_int) (da_cons (de_ix (di_all (hu_of hr)) (dv 0) (de_int)) (da_nil)))))
theorem ok_law_many (T : Tx K mg) {f : Addr} {fd : FuncData} (F : FunD K "_law_many" "_law_many" (defArgs s_law_many) (defBody s_law_many) (defScope s_law_many) [] [] f fd) (hm : mg "_law_many" = some (.ref f)) : Cal P w K mg base 1 "_law_many" P_law_many S_law_many :=
  ⟨f, fd, hm, F.kp, F.bindsN (fun _ _ _ _ _ _ us hl => match us, hl with | [_], _ => rfl), F.ok sc_law_many (fun vs H Q E h => keeps_len kp_law_many h) (fun cdv A outer s H vs Q E hr h => ⟨liftS K t_law_many, PSs.nox (d_law_many T  hr).pss, keeps_use (N := N_law_many) kp_law_many h⟩)⟩
abbrev s_law_spans : Stmt := top 24
abbrev N_law_spans : List Str := ["term", "found", "behind", "at", "sign", "part", "number"]
abbrev P_law_spans : List Str := ["term"]
theorem sc_law_spans : FnScope N_law_spans P_law_spans (defScope s_law_spans) := ⟨rfl, rfl, rfl, by decide +kernel, rfl, by decide +kernel, by decide +kernel⟩
theorem d_law_spans (T : Tx K mg) (C_law_many : Cal P w K mg base 1 "_law_many" P_law_many S_law_many) {f : Addr} {cdv : Value} {A : Around} {outer : List PySem.Env} {s : Shared} {H : Hp} {E : XK} (hr : Room 1 (A.deeper (envOfC "_law_spans" (defScope s_law_spans) s.heap.objs.size f cdv))) :
    DSs (cxOf CX0 P w K mg base N_law_spans "_law_spans" (defScope s_law_spans) f cdv A outer s H E).nox (defBody s_law_spans) t_law_spans := by
  exact dss_cons (ds_par (i := 1) (j := 2) rfl sc_law_spans.nd rfl rfl (by decide) rfl rfl (da_cons (de_lst (da_nil)) (da_cons (de_lst (da_nil)) (da_nil))) (by rfl))
    (dss_cons (ds_for PassesOwn.never rfl (di_rng1 rfl T.n_range (de_callB dc_len rfl T.n_len PySem.boot_len (da_cons (dv 0) (da_nil)))) (dg_name (i := 3) sc_law_spans.nd rfl (Or.inl rfl)) (dss_cons (ds_set (i := 4) sc_law_spans.nd rfl (Or.inl rfl) (de_ix (di_all (hu_of hr)) (dv 0) (de_bin do_sub (de_bin do_sub (de_callB dc_len rfl T.n_len PySem.boot_len (da_cons (dv 0) (da_nil))) (de_int)) (dv 3))))
    (dss_cons (ds_set (i := 5) sc_law_spans.nd rfl (Or.inl rfl) (de_tup (da_cons (dv 4) (da_nil))))
    (dss_cons (ds_for PassesOwn.never rfl (di_rng1 rfl T.n_range (dcall C_law_many hr (by decide) (da_cons (dv 4) (da_nil)))) (dg_name (i := 6) sc_law_spans.nd rfl (Or.inl rfl)) (dss_one (ds_set (i := 5) sc_law_spans.nd rfl (Or.inl rfl) (de_bin do_add (dv 5) (de_m0 PySem.F.plainAttrs_list PySem.F.slot_list_pop PySem.F.type_list_pop ty_list dm_pop (dv 2))))))
    (dss_cons (ds_expr (de_m PySem.F.plainAttrs_list PySem.F.slot_list_append PySem.F.type_list_append ty_list dm_append (dv 2) (da_cons (dv 5) (da_nil))))
    (dss_one (ds_expr (de_m PySem.F.plainAttrs_list PySem.F.slot_list_append PySem.F.type_list_append ty_list dm_append (dv 1) (da_cons (dv 5) (da_nil))))))))))
    (dss_one (ds_ret (de_rev (dv 1)))))
theorem ok_law_spans (T : Tx K mg) (C_law_many : Cal P w K mg base 1 "_law_many" P_law_many S_law_many) {f : Addr} {fd : FuncData} (F : FunD K "_law_spans" "_law_spans" (defArgs s_law_spans) (defBody s_law_spans) (defScope s_law_spans) [] [] f fd) (hm : mg "_law_spans" = some (.ref f)) : Cal P w K mg base 2 "_law_spans" P_law_spans S_law_spans :=
  ⟨f, fd, hm, F.kp, F.bindsN (fun _ _ _ _ _ _ us hl => match us, hl with | [_], _ => rfl), F.ok sc_law_spans (fun vs H Q E h => keeps_len kp_law_spans h) (fun cdv A outer s H vs Q E hr h => ⟨liftS K t_law_spans, PSs.nox (d_law_spans T C_law_many hr).pss, keeps_use (N := N_law_spans) kp_law_spans h⟩)⟩
abbrev s_law_parts : Stmt := top 25
abbrev N_law_parts : List Str := ["term", "spans", "found", "at"]
abbrev P_law_parts : List Str := ["term"]
theorem sc_law_parts : FnScope N_law_parts P_law_parts (defScope s_law_parts) := ⟨rfl, rfl, rfl, by decide +kernel, rfl, by decide +kernel, by decide +kernel⟩
theorem d_law_parts (T : Tx K mg) (C_law_spans : Cal P w K mg base 2 "_law_spans" P_law_spans S_law_spans) {f : Addr} {cdv : Value} {A : Around} {outer : List PySem.Env} {s : Shared} {H : Hp} {E : XK} (hr : Room 2 (A.deeper (envOfC "_law_parts" (defScope s_law_parts) s.heap.objs.size f cdv))) :
    DSs (cxOf CX0 P w K mg base N_law_parts "_law_parts" (defScope s_law_parts) f cdv A outer s H E).nox (defBody s_law_parts) t_law_parts := by
  exact dss_cons (ds_par3 (i := 1) (j := 2) (l := 3) rfl sc_law_parts.nd rfl rfl rfl (by decide) (by decide) (by decide) rfl rfl rfl (da_cons (dcall C_law_spans hr (by decide) (da_cons (dv 0) (da_nil))) (da_cons (de_lst (da_nil)) (da_cons (de_int) (da_nil)))) (by rfl))
    (dss_cons (ds_while PassesOwn.never (dt_cmp do_lt (dv 3) (de_callB dc_len rfl T.n_len PySem.boot_len (da_cons (dv 0) (da_nil))) (nomark _)) (dss_cons (ds_expr (de_m PySem.F.plainAttrs_list PySem.F.slot_list_append PySem.F.type_list_append ty_list dm_append (dv 2) (da_cons (de_ix (di_all (hu_of hr)) (dv 1) (dv 3)) (da_nil))))
    (dss_one (ds_set (i := 3) sc_law_parts.nd rfl (Or.inl rfl) (de_bin do_add (dv 3) (de_callB dc_len rfl T.n_len PySem.boot_len (da_cons (de_ix (di_all (hu_of hr)) (dv 1) (dv 3)) (da_nil))))))))
    (dss_one (ds_ret (dv 2))))
theorem ok_law_parts (T : Tx K mg) (C_law_spans : Cal P w K mg base 2 "_law_spans" P_law_spans S_law_spans) {f : Addr} {fd : FuncData} (F : FunD K "_law_parts" "_law_parts" (defArgs s_law_parts) (defBody s_law_parts) (defScope s_law_parts) [] [] f fd) (hm : mg "_law_parts" = some (.ref f)) : Cal P w K mg base 3 "_law_parts" P_law_parts S_law_parts :=
  ⟨f, fd, hm, F.kp, F.bindsN (fun _ _ _ _ _ _ us hl => match us, hl with | [_], _ => rfl), F.ok sc_law_parts (fun vs H Q E h => keeps_len kp_law_parts h) (fun cdv A outer s H vs Q E hr h => ⟨liftS K t_law_parts, PSs.nox (d_law_parts T C_law_spans hr).pss, keeps_use (N := N_law_parts) kp_law_parts h⟩)⟩
abbrev s_law_letters : Stmt := top 26
abbrev N_law_letters : List Str := ["term", "name", "many"]
abbrev P_law_letters : List Str := ["term"]
theorem sc_law_letters : FnScope N_law_letters P_law_letters (defScope s_law_letters) := ⟨rfl, rfl, rfl, by decide +kernel, rfl, by decide +kernel, by decide +kernel⟩
theorem d_law_letters (T : Tx K mg) {f : Addr} {cdv : Value} {A : Around} {outer : List PySem.Env} {s : Shared} {H : Hp} {E : XK} (hr : Room 0 (A.deeper (envOfC "_law_letters" (defScope s_law_letters) s.heap.objs.size f cdv))) :
    DSs (cxOf CX0 P w K mg base N_law_letters "_law_letters" (defScope s_law_letters) f cdv A outer s H E).nox (defBody s_law_letters) t_law_letters := by
  exact dss_one (ds_ret (de_callTy dc_tuple rfl T.n_tuple boot_tuple (da_cons (de_sortSet rfl rfl T.n_sorted rfl T.n_set (de_lc rfl sc_law_letters.nd (di_seq (dv 0)) (blkOk_by (N := N_law_letters) (sc := defScope s_law_letters) (own := [("name", 1), ("many", 2)]) (by decide +kernel)) (fun _ _ _ _ _ => dgc_tup rfl (dgsc_cons (dgc_name (i := 1) sc_law_letters.nd rfl (by first | exact Or.inl rfl | exact Or.inr rfl) (by decide)) (dgsc_cons (dgc_name (i := 2) sc_law_letters.nd rfl (by first | exact Or.inl rfl | exact Or.inr rfl) (by decide)) (dgsc_nil)))) (fun _ _ _ _ _ => dts_one (dt_cmp (do_eq hr.units) (dv 2) (de_bin do_sub (de_int) (de_int)) (nomark _))) (fun _ _ _ _ _ => dv 1))) (da_nil))))
theorem ok_law_letters (T : Tx K mg) {f : Addr} {fd : FuncData} (F : FunD K "_law_letters" "_law_letters" (defArgs s_law_letters) (defBody s_law_letters) (defScope s_law_letters) [] [] f fd) (hm : mg "_law_letters" = some (.ref f)) : Cal P w K mg base 1 "_law_letters" P_law_letters S_law_letters :=
  ⟨f, fd, hm, F.kp, F.bindsN (fun _ _ _ _ _ _ us hl => match us, hl with | [_], _ => rfl), F.ok sc_law_letters (fun vs H Q E h => keeps_len kp_law_letters h) (fun cdv A outer s H vs Q E hr h => ⟨liftS K t_law_letters, PSs.nox (d_law_letters T  hr).pss, keeps_use (N := N_law_letters) kp_law_letters h⟩)⟩
abbrev s_law_joined : Stmt := top 27
abbrev N_law_joined : List Str := ["name", "parts", "found", "part"]
abbrev P_law_joined : List Str := ["name", "parts"]
theorem sc_law_joined : FnScope N_law_joined P_law_joined (defScope s_law_joined) := ⟨rfl, rfl, rfl, by decide +kernel, rfl, by decide +kernel, by decide +kernel⟩
theorem d_law_joined (T : Tx K mg) {f : Addr} {cdv : Value} {A : Around} {outer : List PySem.Env} {s : Shared} {H : Hp} {E : XK} (hr : Room 0 (A.deeper (envOfC "_law_joined" (defScope s_law_joined) s.heap.objs.size f cdv))) :
    DSs (cxOf CX0 P w K mg base N_law_joined "_law_joined" (defScope s_law_joined) f cdv A outer s H E).nox (defBody s_law_joined) t_law_joined := by
  exact dss_cons (ds_set (i := 2) sc_law_joined.nd rfl (Or.inl rfl) (de_tup (da_cons (de_tup (da_cons (dv 0) (da_cons (de_callB dc_len rfl T.n_len PySem.boot_len (da_cons (dv 1) (da_nil))) (da_nil)))) (da_nil))))
    (dss_cons (ds_for PassesOwn.never rfl (di_seq (dv 1)) (dg_name (i := 3) sc_law_joined.nd rfl (Or.inl rfl)) (dss_one (ds_set (i := 2) sc_law_joined.nd rfl (Or.inl rfl) (de_bin do_add (dv 2) (dv 3)))))
    (dss_one (ds_ret (dv 2))))
theorem ok_law_joined (T : Tx K mg) {f : Addr} {fd : FuncData} (F : FunD K "_law_joined" "_law_joined" (defArgs s_law_joined) (defBody s_law_joined) (defScope s_law_joined) [] [] f fd) (hm : mg "_law_joined" = some (.ref f)) : Cal P w K mg base 1 "_law_joined" P_law_joined S_law_joined :=
  ⟨f, fd, hm, F.kp, F.bindsN (fun _ _ _ _ _ _ us hl => match us, hl with | [_, _], _ => rfl), F.ok sc_law_joined (fun vs H Q E h => keeps_len kp_law_joined h) (fun cdv A outer s H vs Q E hr h => ⟨liftS K t_law_joined, PSs.nox (d_law_joined T  hr).pss, keeps_use (N := N_law_joined) kp_law_joined h⟩)⟩
abbrev s_law_told : Stmt := top 28
abbrev N_law_told : List Str := ["term", "named"]
abbrev P_law_told : List Str := ["term", "named"]
theorem sc_law_told : FnScope N_law_told P_law_told (defScope s_law_told) := ⟨rfl, rfl, rfl, by decide +kernel, rfl, by decide +kernel, by decide +kernel⟩
theorem d_law_told (T : Tx K mg) (C_head_of : Cal P w K mg base 1 "head_of" P_head_of S_head_of) (C_parts_of : Cal P w K mg base 3 "parts_of" P_parts_of S_parts_of) (C_letters_of : Cal P w K mg base 1 "letters_of" P_letters_of S_letters_of) (C_size_of : Cal P w K mg base 1 "size_of" P_size_of S_size_of) (B_head_of_term : CalK P w K mg base 1 "head_of" P_head_of ["term"] [0] S_head_of) (B_letters_of_term : CalK P w K mg base 1 "letters_of" P_letters_of ["term"] [0] S_letters_of) (B_parts_of_term : CalK P w K mg base 3 "parts_of" P_parts_of ["term"] [0] S_parts_of) (B_size_of_term : CalK P w K mg base 1 "size_of" P_size_of ["term"] [0] S_size_of) {f : Addr} {cdv : Value} {A : Around} {outer : List PySem.Env} {s : Shared} {H : Hp} {E : XK} (hr : Room 3 (A.deeper (envOfC "_law_told" (defScope s_law_told) s.heap.objs.size f cdv))) :
    DSs (cxOf CX0 P w K mg base N_law_told "_law_told" (defScope s_law_told) f cdv A outer s H E).nox (defBody s_law_told) t_law_told := by
  exact dss_cons (ds_if (dt_val (dv 1)) (dss_one (ds_ret (de_tup (da_cons (dcallK B_head_of_term hr (by decide) (dk_cons (dv 0) (dk_nil))) (da_cons (dcallK B_parts_of_term hr (by decide) (dk_cons (dv 0) (dk_nil))) (da_cons (dcallK B_letters_of_term hr (by decide) (dk_cons (dv 0) (dk_nil))) (da_cons (dcallK B_size_of_term hr (by decide) (dk_cons (dv 0) (dk_nil))) (da_nil)))))))) (dss_nil))
    (dss_one (ds_ret (de_tup (da_cons (dcall C_head_of hr (by decide) (da_cons (dv 0) (da_nil))) (da_cons (dcall C_parts_of hr (by decide) (da_cons (dv 0) (da_nil))) (da_cons (dcall C_letters_of hr (by decide) (da_cons (dv 0) (da_nil))) (da_cons (dcall C_size_of hr (by decide) (da_cons (dv 0) (da_nil))) (da_nil))))))))
theorem ok_law_told (T : Tx K mg) (C_head_of : Cal P w K mg base 1 "head_of" P_head_of S_head_of) (C_parts_of : Cal P w K mg base 3 "parts_of" P_parts_of S_parts_of) (C_letters_of : Cal P w K mg base 1 "letters_of" P_letters_of S_letters_of) (C_size_of : Cal P w K mg base 1 "size_of" P_size_of S_size_of) (B_head_of_term : CalK P w K mg base 1 "head_of" P_head_of ["term"] [0] S_head_of) (B_letters_of_term : CalK P w K mg base 1 "letters_of" P_letters_of ["term"] [0] S_letters_of) (B_parts_of_term : CalK P w K mg base 3 "parts_of" P_parts_of ["term"] [0] S_parts_of) (B_size_of_term : CalK P w K mg base 1 "size_of" P_size_of ["term"] [0] S_size_of) {f : Addr} {fd : FuncData} (F : FunD K "_law_told" "_law_told" (defArgs s_law_told) (defBody s_law_told) (defScope s_law_told) [] [] f fd) (hm : mg "_law_told" = some (.ref f)) : Cal P w K mg base 4 "_law_told" P_law_told S_law_told :=
  ⟨f, fd, hm, F.kp, F.bindsN (fun _ _ _ _ _ _ us hl => match us, hl with | [_, _], _ => rfl), F.ok sc_law_told (fun vs H Q E h => keeps_len kp_law_told h) (fun cdv A outer s H vs Q E hr h => ⟨liftS K t_law_told, PSs.nox (d_law_told T C_head_of C_parts_of C_letters_of C_size_of B_head_of_term B_letters_of_term B_parts_of_term B_size_of_term hr).pss, keeps_use (N := N_law_told) kp_law_told h⟩)⟩
abbrev s_law_due : Stmt := top 29
abbrev N_law_due : List Str := ["term"]
abbrev P_law_due : List Str := ["term"]
theorem sc_law_due : FnScope N_law_due P_law_due (defScope s_law_due) := ⟨rfl, rfl, rfl, by decide +kernel, rfl, by decide +kernel, by decide +kernel⟩
theorem d_law_due (T : Tx K mg) (C_law_letters : Cal P w K mg base 1 "_law_letters" P_law_letters S_law_letters) (C_law_parts : Cal P w K mg base 3 "_law_parts" P_law_parts S_law_parts) {f : Addr} {cdv : Value} {A : Around} {outer : List PySem.Env} {s : Shared} {H : Hp} {E : XK} (hr : Room 3 (A.deeper (envOfC "_law_due" (defScope s_law_due) s.heap.objs.size f cdv))) :
    DSs (cxOf CX0 P w K mg base N_law_due "_law_due" (defScope s_law_due) f cdv A outer s H E).nox (defBody s_law_due) t_law_due := by
  exact dss_one (ds_ret (de_tup (da_cons (de_ix (di_all (hu_of hr)) (dv 0) (de_int)) (da_cons (de_callTy dc_tuple rfl T.n_tuple boot_tuple (da_cons (dcall C_law_parts hr (by decide) (da_cons (dv 0) (da_nil))) (da_nil))) (da_cons (dcall C_law_letters hr (by decide) (da_cons (dv 0) (da_nil))) (da_cons (de_callB dc_len rfl T.n_len PySem.boot_len (da_cons (dv 0) (da_nil))) (da_nil)))))))
theorem ok_law_due (T : Tx K mg) (C_law_letters : Cal P w K mg base 1 "_law_letters" P_law_letters S_law_letters) (C_law_parts : Cal P w K mg base 3 "_law_parts" P_law_parts S_law_parts) {f : Addr} {fd : FuncData} (F : FunD K "_law_due" "_law_due" (defArgs s_law_due) (defBody s_law_due) (defScope s_law_due) [] [] f fd) (hm : mg "_law_due" = some (.ref f)) : Cal P w K mg base 4 "_law_due" P_law_due S_law_due :=
  ⟨f, fd, hm, F.kp, F.bindsN (fun _ _ _ _ _ _ us hl => match us, hl with | [_], _ => rfl), F.ok sc_law_due (fun vs H Q E h => keeps_len kp_law_due h) (fun cdv A outer s H vs Q E hr h => ⟨liftS K t_law_due, PSs.nox (d_law_due T C_law_letters C_law_parts hr).pss, keeps_use (N := N_law_due) kp_law_due h⟩)⟩
abbrev s_law : Stmt := top 30
abbrev N_law : List Str := ["script", "deal", "names", "pairs", "turn", "term", "name", "parts", "due", "kept", "told", "many", "great", "number", "part"]
abbrev P_law : List Str := ["script"]
theorem sc_law : FnScope N_law P_law (defScope s_law) := ⟨rfl, rfl, rfl, by decide +kernel, rfl, by decide +kernel, by decide +kernel⟩
theorem d_law (T : Tx K mg) (C_law_deal : Cal P w K mg base 1 "_law_deal" P_law_deal S_law_deal) (C_law_all : Cal P w K mg base 3 "_law_all" P_law_all S_law_all) (C_law_names : Cal P w K mg base 3 "_law_names" P_law_names S_law_names) (C_law_shaped : Cal P w K mg base 5 "_law_shaped" P_law_shaped S_law_shaped) (C_law_of : Cal P w K mg base 2 "_law_of" P_law_of S_law_of) (C_law_joined : Cal P w K mg base 1 "_law_joined" P_law_joined S_law_joined) (C_law_term : Cal P w K mg base 3 "_law_term" P_law_term S_law_term) (C_built : Cal P w K mg base 1 "built" P_built S_built) (C_law_any : Cal P w K mg base 1 "_law_any" P_law_any S_law_any) (C_law_told : Cal P w K mg base 4 "_law_told" P_law_told S_law_told) (C_law_due : Cal P w K mg base 4 "_law_due" P_law_due S_law_due) (C_letter : Cal P w K mg base 1 "letter" P_letter S_letter) (C_parts_of : Cal P w K mg base 3 "parts_of" P_parts_of S_parts_of) (B_built_name_parts : CalK P w K mg base 1 "built" P_built ["name", "parts"] [0, 1] S_built) (B_letter_name : CalK P w K mg base 1 "letter" P_letter ["name"] [0] S_letter) {f : Addr} {cdv : Value} {A : Around} {outer : List PySem.Env} {s : Shared} {H : Hp} {E : XK} (hr : Room 5 (A.deeper (envOfC "law" (defScope s_law) s.heap.objs.size f cdv))) :
    DSs (cxOf CX0 P w K mg base N_law "law" (defScope s_law) f cdv A outer s H E).nox (defBody s_law) t_law := by
  exact dss_cons (ds_set (i := 1) sc_law.nd rfl (Or.inr rfl) (dcall C_law_deal hr (by decide) (da_cons (dv 0) (da_cons (de_int) (da_nil)))))
    (dss_cons (ds_asg (de_tup (da_cons (dcall C_law_names hr (by decide) (da_cons (dv 1) (da_cons (de_int) (da_nil)))) (da_cons (de_lst (da_nil)) (da_nil)))) (dg_tup rfl (dgs_cons (dg_name (i := 2) sc_law.nd rfl (Or.inr rfl)) (dgs_cons (dg_name (i := 3) sc_law.nd rfl (Or.inl rfl)) (dgs_nil)))))
    (dss_cons (ds_for PassesOwn.never rfl (di_rng1 rfl T.n_range (de_int)) (dg_name (i := 4) sc_law.nd rfl (Or.inl rfl)) (dss_cons (ds_set (i := 5) sc_law.nd rfl (Or.inl rfl) (dcall C_law_shaped hr (by decide) (da_cons (dv 1) (da_cons (de_sl (dv 2) (dp_none) (dp_some (de_int))) (da_cons (de_sl (dv 2) (dp_some (de_int)) (dp_none)) (da_nil))))))
    (dss_cons (ds_expr (de_m PySem.F.plainAttrs_list PySem.F.slot_list_append PySem.F.type_list_append ty_list dm_append (dv 3) (da_cons (de_tup (da_cons (dcall C_law_told hr (by decide) (da_cons (dv 5) (da_cons (de_cmp (do_eq hr.units) (de_bin do_mod (de_callTy dc_int rfl T.n_int boot_int (da_cons (dv 4) (da_nil))) (de_int)) (de_int) (nomark _)) (da_nil)))) (da_cons (dcall C_law_due hr (by decide) (da_cons (dv 5) (da_nil))) (da_nil)))) (da_nil))))
    (dss_cons (ds_set (i := 6) sc_law.nd rfl (Or.inr rfl) (dcall C_law_of hr (by decide) (da_cons (dv 1) (da_cons (dv 2) (da_nil)))))
    (dss_cons (ds_expr (de_m PySem.F.plainAttrs_list PySem.F.slot_list_append PySem.F.type_list_append ty_list dm_append (dv 3) (da_cons (de_tup (da_cons (de_ifExp (dt_cmp do_lt (dv 4) (de_int) (nomark _)) (dcall C_letter hr (by decide) (da_cons (dv 6) (da_nil))) (dcallK B_letter_name hr (by decide) (dk_cons (dv 6) (dk_nil)))) (da_cons (de_tup (da_cons (de_tup (da_cons (dv 6) (da_cons (de_bin do_sub (de_int) (de_int)) (da_nil)))) (da_nil))) (da_nil)))) (da_nil))))
    (dss_cons (ds_setLc (i := 7) rfl sc_law.nd rfl rfl (sw_true rfl rfl rfl (by decide +kernel)) (di_rng1 rfl T.n_range (dcall C_law_of hr (by decide) (da_cons (dv 1) (da_cons (de_lst (da_cons (de_int) (da_cons (de_int) (da_cons (de_int) (da_cons (de_int) (da_cons (de_int) (da_cons (de_int) (da_nil)))))))) (da_nil))))) (blkOk_by (N := N_law) (sc := defScope s_law) (own := [("number", 13)]) (by decide +kernel)) (fun _ _ _ _ _ => dgc_name (i := 13) sc_law.nd rfl (by first | exact Or.inl rfl | exact Or.inr rfl) (by decide)) (fun _ _ _ _ _ => dts_nil) (fun _ _ _ _ _ => dcall C_law_term hr (by decide) (da_cons (dv 1) (da_cons (dv 2) (da_cons (dv 2) (da_cons (dcall C_law_of hr (by decide) (da_cons (dv 1) (da_cons (de_lst (da_cons (de_int) (da_cons (de_int) (da_cons (de_int) (da_cons (de_int) (da_nil)))))) (da_nil)))) (da_nil)))))))
    (dss_cons (ds_set (i := 7) sc_law.nd rfl (Or.inl rfl) (de_ifExp (dt_cmp do_lt (de_callB dc_len rfl T.n_len PySem.boot_len (da_cons (dv 7) (da_nil))) (de_int) (nomark _)) (dv 7) (de_lc rfl sc_law.nd (di_rng1 rfl T.n_range (de_int)) (blkOk_by (N := N_law) (sc := defScope s_law) (own := [("number", 13)]) (by decide +kernel)) (fun _ _ _ _ _ => dgc_name (i := 13) sc_law.nd rfl (by first | exact Or.inl rfl | exact Or.inr rfl) (by decide)) (fun _ _ _ _ _ => dts_nil) (fun _ _ _ _ _ => de_tup (da_cons (de_tup (da_cons (dv 6) (da_cons (de_ifExp (dt_cmp (do_eq hr.units) (de_bin do_mod (de_callTy dc_int rfl T.n_int boot_int (da_cons (dv 13) (da_nil))) (de_int)) (de_int) (nomark _)) (de_bin do_sub (de_int) (de_int)) (de_int)) (da_nil)))) (da_nil))))))
    (dss_cons (ds_par (i := 8) (j := 9) rfl sc_law.nd rfl rfl (by decide) rfl rfl (da_cons (dcall C_law_joined hr (by decide) (da_cons (dv 6) (da_cons (dv 7) (da_nil)))) (da_cons (de_lc rfl sc_law.nd (di_seq (dv 7)) (blkOk_by (N := N_law) (sc := defScope s_law) (own := [("part", 14)]) (by decide +kernel)) (fun _ _ _ _ _ => dgc_name (i := 14) sc_law.nd rfl (by first | exact Or.inl rfl | exact Or.inr rfl) (by decide)) (fun _ _ _ _ _ => dts_nil) (fun _ _ _ _ _ => dv 14)) (da_nil))) (by rfl))
    (dss_cons (ds_set (i := 10) sc_law.nd rfl (Or.inl rfl) (de_ifExp (dt_cmp (do_eq hr.units) (de_bin do_mod (de_callTy dc_int rfl T.n_int boot_int (da_cons (dv 4) (da_nil))) (de_int)) (de_int) (nomark _)) (dcall C_built hr (by decide) (da_cons (dv 6) (da_cons (dv 7) (da_nil)))) (dcallK B_built_name_parts hr (by decide) (dk_cons (dv 6) (dk_cons (de_callTy dc_tuple rfl T.n_tuple boot_tuple (da_cons (dv 7) (da_nil))) (dk_nil))))))
    (dss_cons (ds_expr (de_m PySem.F.plainAttrs_list PySem.F.slot_list_append PySem.F.type_list_append ty_list dm_append (dv 3) (da_cons (de_tup (da_cons (de_callTy dc_tuple rfl T.n_tuple boot_tuple (da_cons (dv 7) (da_nil))) (da_cons (de_callTy dc_tuple rfl T.n_tuple boot_tuple (da_cons (dv 9) (da_nil))) (da_nil)))) (da_nil))))
    (dss_cons (ds_expr (de_m PySem.F.plainAttrs_list PySem.F.slot_list_append PySem.F.type_list_append ty_list dm_append (dv 3) (da_cons (de_tup (da_cons (dcall C_built hr (by decide) (da_cons (dv 6) (da_cons (de_callTy dc_tuple rfl T.n_tuple boot_tuple (da_cons (dv 7) (da_nil))) (da_nil)))) (da_cons (dv 8) (da_nil)))) (da_nil))))
    (dss_cons (ds_expr (de_m PySem.F.plainAttrs_list PySem.F.slot_list_append PySem.F.type_list_append ty_list dm_append (dv 7) (da_cons (de_tup (da_cons (de_tup (da_cons (dv 6) (da_cons (de_int) (da_nil)))) (da_nil))) (da_nil))))
    (dss_cons (ds_expr (de_m PySem.F.plainAttrs_list PySem.F.slot_list_append PySem.F.type_list_append ty_list dm_append (dv 3) (da_cons (de_tup (da_cons (dcall C_built hr (by decide) (da_cons (dv 6) (da_cons (dv 7) (da_nil)))) (da_cons (dcall C_law_joined hr (by decide) (da_cons (dv 6) (da_cons (dv 7) (da_nil)))) (da_nil)))) (da_nil))))
    (dss_cons (ds_expr (de_m PySem.F.plainAttrs_list PySem.F.slot_list_append PySem.F.type_list_append ty_list dm_append (dv 3) (da_cons (de_tup (da_cons (dv 10) (da_cons (dv 8) (da_nil)))) (da_nil))))
    (dss_cons (ds_expr (de_m PySem.F.plainAttrs_list PySem.F.slot_list_append PySem.F.type_list_append ty_list dm_append (dv 3) (da_cons (de_tup (da_cons (dcall C_law_told hr (by decide) (da_cons (dv 10) (da_cons (de_cmp (do_eq hr.units) (de_bin do_mod (de_callTy dc_int rfl T.n_int boot_int (da_cons (dv 4) (da_nil))) (de_int)) (de_int) (nomark _)) (da_nil)))) (da_cons (dcall C_law_due hr (by decide) (da_cons (dv 8) (da_nil))) (da_nil)))) (da_nil))))
    (dss_cons (ds_if (dt_cmp do_ge (de_ix (di_all (hu_of hr)) (de_ix (di_all (hu_of hr)) (dv 5) (de_int)) (de_int)) (de_int) (nomark _)) (dss_one (ds_expr (de_m PySem.F.plainAttrs_list PySem.F.slot_list_append PySem.F.type_list_append ty_list dm_append (dv 3) (da_cons (de_tup (da_cons (dcall C_built hr (by decide) (da_cons (de_ix (di_all (hu_of hr)) (de_ix (di_all (hu_of hr)) (dv 5) (de_int)) (de_int)) (da_cons (dcall C_parts_of hr (by decide) (da_cons (dv 5) (da_nil))) (da_nil)))) (da_cons (dv 5) (da_nil)))) (da_nil))))) (dss_nil))
    (dss_cons (ds_set (i := 11) sc_law.nd rfl (Or.inl rfl) (de_bin do_add (de_int) (dcall C_law_any hr (by decide) (da_cons (dv 1) (da_cons (de_callB (dc_max rfl) rfl T.n_max (by decide +kernel) (da_cons (de_int) (da_cons (de_callB (dc_min rfl) rfl T.n_min (by decide +kernel) (da_cons (de_int) (da_cons (de_bin do_div (de_int) (de_callB dc_len rfl T.n_len PySem.boot_len (da_cons (dv 8) (da_nil)))) (da_nil)))) (da_nil)))) (da_nil))))))
    (dss_cons (ds_set (i := 12) sc_law.nd rfl (Or.inl rfl) (dcall C_law_joined hr (by decide) (da_cons (dv 6) (da_cons (de_bin do_mul (de_lst (da_cons (dv 8) (da_nil))) (dv 11)) (da_nil)))))
    (dss_one (ds_expr (de_m PySem.F.plainAttrs_list PySem.F.slot_list_append PySem.F.type_list_append ty_list dm_append (dv 3) (da_cons (de_tup (da_cons (dcall C_law_told hr (by decide) (da_cons (dcall C_built hr (by decide) (da_cons (dv 6) (da_cons (de_bin do_mul (de_lst (da_cons (dv 10) (da_nil))) (dv 11)) (da_nil)))) (da_cons (de_bl) (da_nil)))) (da_cons (dcall C_law_due hr (by decide) (da_cons (dv 12) (da_nil))) (da_nil)))) (da_nil)))))))))))))))))))))))
    (dss_one (ds_ret (dcall C_law_all hr (by decide) (da_cons (dv 3) (da_nil)))))))
theorem ok_law (T : Tx K mg) (C_law_deal : Cal P w K mg base 1 "_law_deal" P_law_deal S_law_deal) (C_law_all : Cal P w K mg base 3 "_law_all" P_law_all S_law_all) (C_law_names : Cal P w K mg base 3 "_law_names" P_law_names S_law_names) (C_law_shaped : Cal P w K mg base 5 "_law_shaped" P_law_shaped S_law_shaped) (C_law_of : Cal P w K mg base 2 "_law_of" P_law_of S_law_of) (C_law_joined : Cal P w K mg base 1 "_law_joined" P_law_joined S_law_joined) (C_law_term : Cal P w K mg base 3 "_law_term" P_law_term S_law_term) (C_built : Cal P w K mg base 1 "built" P_built S_built) (C_law_any : Cal P w K mg base 1 "_law_any" P_law_any S_law_any) (C_law_told : Cal P w K mg base 4 "_law_told" P_law_told S_law_told) (C_law_due : Cal P w K mg base 4 "_law_due" P_law_due S_law_due) (C_letter : Cal P w K mg base 1 "letter" P_letter S_letter) (C_parts_of : Cal P w K mg base 3 "parts_of" P_parts_of S_parts_of) (B_built_name_parts : CalK P w K mg base 1 "built" P_built ["name", "parts"] [0, 1] S_built) (B_letter_name : CalK P w K mg base 1 "letter" P_letter ["name"] [0] S_letter) {f : Addr} {fd : FuncData} (F : FunD K "law" "law" (defArgs s_law) (defBody s_law) (defScope s_law) [] [] f fd) (hm : mg "law" = some (.ref f)) : Cal P w K mg base 6 "law" P_law S_law :=
  ⟨f, fd, hm, F.kp, F.bindsN (fun _ _ _ _ _ _ us hl => match us, hl with | [_], _ => rfl), F.ok sc_law (fun vs H Q E h => keeps_len kp_law h) (fun cdv A outer s H vs Q E hr h => ⟨liftS K t_law, PSs.nox (d_law T C_law_deal C_law_all C_law_names C_law_shaped C_law_of C_law_joined C_law_term C_built C_law_any C_law_told C_law_due C_letter C_parts_of B_built_name_parts B_letter_name hr).pss, keeps_use (N := N_law) kp_law h⟩)⟩
end
def dd_many_of : He.DefD := ⟨("many_of", none), "many_of", "many_of", defArgs s_many_of, defBody s_many_of, defScope s_many_of, [], []⟩
def dd_letter : He.DefD := ⟨("letter", none), "letter", "letter", defArgs s_letter, defBody s_letter, defScope s_letter, [], []⟩
def dd_built : He.DefD := ⟨("built", none), "built", "built", defArgs s_built, defBody s_built, defScope s_built, [], []⟩
def dd_head_of : He.DefD := ⟨("head_of", none), "head_of", "head_of", defArgs s_head_of, defBody s_head_of, defScope s_head_of, [], []⟩
def dd_ends_of : He.DefD := ⟨("ends_of", none), "ends_of", "ends_of", defArgs s_ends_of, defBody s_ends_of, defScope s_ends_of, [], []⟩
def dd_part_places : He.DefD := ⟨("part_places", none), "part_places", "part_places", defArgs s_part_places, defBody s_part_places, defScope s_part_places, [], []⟩
def dd_parts_of : He.DefD := ⟨("parts_of", none), "parts_of", "parts_of", defArgs s_parts_of, defBody s_parts_of, defScope s_parts_of, [], []⟩
def dd_letters_of : He.DefD := ⟨("letters_of", none), "letters_of", "letters_of", defArgs s_letters_of, defBody s_letters_of, defScope s_letters_of, [], []⟩
def dd_size_of : He.DefD := ⟨("size_of", none), "size_of", "size_of", defArgs s_size_of, defBody s_size_of, defScope s_size_of, [], []⟩
def dd_law_deal : He.DefD := ⟨("_law_deal", none), "_law_deal", "_law_deal", defArgs s_law_deal, defBody s_law_deal, defScope s_law_deal, [], []⟩
def dd_law_any : He.DefD := ⟨("_law_any", none), "_law_any", "_law_any", defArgs s_law_any, defBody s_law_any, defScope s_law_any, [], []⟩
def dd_law_of : He.DefD := ⟨("_law_of", none), "_law_of", "_law_of", defArgs s_law_of, defBody s_law_of, defScope s_law_of, [], []⟩
def dd_law_is_kind : He.DefD := ⟨("_law_is_kind", none), "_law_is_kind", "_law_is_kind", defArgs s_law_is_kind, defBody s_law_is_kind, defScope s_law_is_kind, [], []⟩
def dd_law_same : He.DefD := ⟨("_law_same", none), "_law_same", "_law_same", defArgs s_law_same, defBody s_law_same, defScope s_law_same, [], []⟩
def dd_law_all : He.DefD := ⟨("_law_all", none), "_law_all", "_law_all", defArgs s_law_all, defBody s_law_all, defScope s_law_all, [], []⟩
def dd_law_words : He.DefD := ⟨("_law_words", none), "_law_words", "_law_words", defArgs s_law_words, defBody s_law_words, defScope s_law_words, [], []⟩
def dd_law_names : He.DefD := ⟨("_law_names", none), "_law_names", "_law_names", defArgs s_law_names, defBody s_law_names, defScope s_law_names, [], []⟩
def dd_law_term : He.DefD := ⟨("_law_term", none), "_law_term", "_law_term", defArgs s_law_term, defBody s_law_term, defScope s_law_term, [], []⟩
def dd_law_some_term : He.DefD := ⟨("_law_some_term", none), "_law_some_term", "_law_some_term", defArgs s_law_some_term, defBody s_law_some_term, defScope s_law_some_term, [], []⟩
def dd_law_shaped : He.DefD := ⟨("_law_shaped", none), "_law_shaped", "_law_shaped", defArgs s_law_shaped, defBody s_law_shaped, defScope s_law_shaped, [], []⟩
def dd_law_many : He.DefD := ⟨("_law_many", none), "_law_many", "_law_many", defArgs s_law_many, defBody s_law_many, defScope s_law_many, [], []⟩
def dd_law_spans : He.DefD := ⟨("_law_spans", none), "_law_spans", "_law_spans", defArgs s_law_spans, defBody s_law_spans, defScope s_law_spans, [], []⟩
def dd_law_parts : He.DefD := ⟨("_law_parts", none), "_law_parts", "_law_parts", defArgs s_law_parts, defBody s_law_parts, defScope s_law_parts, [], []⟩
def dd_law_letters : He.DefD := ⟨("_law_letters", none), "_law_letters", "_law_letters", defArgs s_law_letters, defBody s_law_letters, defScope s_law_letters, [], []⟩
def dd_law_joined : He.DefD := ⟨("_law_joined", none), "_law_joined", "_law_joined", defArgs s_law_joined, defBody s_law_joined, defScope s_law_joined, [], []⟩
def dd_law_told : He.DefD := ⟨("_law_told", none), "_law_told", "_law_told", defArgs s_law_told, defBody s_law_told, defScope s_law_told, [], []⟩
def dd_law_due : He.DefD := ⟨("_law_due", none), "_law_due", "_law_due", defArgs s_law_due, defBody s_law_due, defScope s_law_due, [], []⟩
def dd_law : He.DefD := ⟨("law", none), "law", "law", defArgs s_law, defBody s_law, defScope s_law, [], []⟩
def fn : List He.DefD := [dd_many_of, dd_letter, dd_built, dd_head_of, dd_ends_of, dd_part_places, dd_parts_of, dd_letters_of, dd_size_of, dd_law_deal, dd_law_any, dd_law_of, dd_law_is_kind, dd_law_same, dd_law_all, dd_law_words, dd_law_names, dd_law_term, dd_law_some_term, dd_law_shaped, dd_law_many, dd_law_spans, dd_law_parts, dd_law_letters, dd_law_joined, dd_law_told, dd_law_due, dd_law]
def fa : List He.Fa := [.glo "many_of", .glo "letter", .glo "built", .glo "head_of", .glo "ends_of", .glo "part_places", .glo "parts_of", .glo "letters_of", .glo "size_of", .glo "_law_deal", .glo "_law_any", .glo "_law_of", .glo "_law_is_kind", .glo "_law_same", .glo "_law_all", .glo "_law_words", .glo "_law_names", .glo "_law_term", .glo "_law_some_term", .glo "_law_shaped", .glo "_law_many", .glo "_law_spans", .glo "_law_parts", .glo "_law_letters", .glo "_law_joined", .glo "_law_told", .glo "_law_due", .glo "law", .free "abs", .free "bool", .free "dict", .free "int", .free "isinstance", .free "len", .free "list", .free "max", .free "min", .free "range", .free "set", .free "sorted", .free "str", .free "tuple", .int "LETTER" (-1)]
abbrev R : PySem.W.OpenRow := PySem.W.OpenLaw.row PySem.Challenge.rw_ownrules_k02_terms_are_built_and_parted
abbrev hk : PySem.W.Hook := He.hookD 4 fa fn
def ob (s : PySem.W.SharedT) : He.AlD := He.obsDG 4 fa fn (HandSHeadRun.getT s)
theorem ob_eq (s : PySem.W.SharedT) : ob s = hk.obs s.abs := He.obsDG_eq (HandSHeadRun.getT_eq s)
def lo_0 : List PySem.Str := ["many_of", "letter", "built", "head_of", "ends_of", "part_places", "parts_of", "letters_of", "size_of", "_law_deal", "_law_any", "_law_of", "_law_is_kind", "_law_same", "_law_all", "_law_words", "_law_names", "_law_term", "_law_some_term", "_law_shaped", "_law_many", "_law_spans", "_law_parts", "_law_letters", "_law_joined", "_law_told", "_law_due", "LETTER"]
abbrev loose : List PySem.Str := lo_0
theorem run (w : World) : HandSHeadRun.RunEq R (PySem.W.view R.prog [30]) hk ob 4000 loose w := by
  intro os
  kernel_rfl
theorem facts {P : Program} {w : World} {K : PySem.W.Frag} {h : Heap} {mg : Str → Option Value} {f : Addr} (X : K.In h) (G : h.Ns mainGlobals mg) (hfa : mg ("law" : Str) = some (.ref f)) (c : He.SaysD fa fn K) :
    ∃ fd : FuncData, (∀ (s : Shared) (v : Value), BindsTo s fd ⟨[v], []⟩ [("script", v)]) ∧ ∀ base : Heap, K.In base → base.Ns mainGlobals mg → FnOk P w K mg base CX0 6 f fd ["script"] (liftSp K S_law) := by
  have T : Tx K mg := ⟨He.free_ok X G (c.fact 28 (f := .free "abs") rfl),
    He.free_ok X G (c.fact 29 (f := .free "bool") rfl),
    He.free_ok X G (c.fact 30 (f := .free "dict") rfl),
    He.free_ok X G (c.fact 31 (f := .free "int") rfl),
    He.free_ok X G (c.fact 32 (f := .free "isinstance") rfl),
    He.free_ok X G (c.fact 33 (f := .free "len") rfl),
    He.free_ok X G (c.fact 34 (f := .free "list") rfl),
    He.free_ok X G (c.fact 35 (f := .free "max") rfl),
    He.free_ok X G (c.fact 36 (f := .free "min") rfl),
    He.free_ok X G (c.fact 37 (f := .free "range") rfl),
    He.free_ok X G (c.fact 38 (f := .free "set") rfl),
    He.free_ok X G (c.fact 39 (f := .free "sorted") rfl),
    He.free_ok X G (c.fact 40 (f := .free "str") rfl),
    He.free_ok X G (c.fact 41 (f := .free "tuple") rfl),
    He.int_ok X G (c.fact 42 (f := .int "LETTER" (-1)) rfl)⟩
  obtain ⟨fd_many_of, F_many_of⟩ := c.def_ 0 (d := dd_many_of) rfl
  obtain ⟨fd_letter, F_letter⟩ := c.def_ 1 (d := dd_letter) rfl
  obtain ⟨fd_built, F_built⟩ := c.def_ 2 (d := dd_built) rfl
  obtain ⟨fd_head_of, F_head_of⟩ := c.def_ 3 (d := dd_head_of) rfl
  obtain ⟨fd_ends_of, F_ends_of⟩ := c.def_ 4 (d := dd_ends_of) rfl
  obtain ⟨fd_part_places, F_part_places⟩ := c.def_ 5 (d := dd_part_places) rfl
  obtain ⟨fd_parts_of, F_parts_of⟩ := c.def_ 6 (d := dd_parts_of) rfl
  obtain ⟨fd_letters_of, F_letters_of⟩ := c.def_ 7 (d := dd_letters_of) rfl
  obtain ⟨fd_size_of, F_size_of⟩ := c.def_ 8 (d := dd_size_of) rfl
  obtain ⟨fd_law_deal, F_law_deal⟩ := c.def_ 9 (d := dd_law_deal) rfl
  obtain ⟨fd_law_any, F_law_any⟩ := c.def_ 10 (d := dd_law_any) rfl
  obtain ⟨fd_law_of, F_law_of⟩ := c.def_ 11 (d := dd_law_of) rfl
  obtain ⟨fd_law_is_kind, F_law_is_kind⟩ := c.def_ 12 (d := dd_law_is_kind) rfl
  obtain ⟨fd_law_same, F_law_same⟩ := c.def_ 13 (d := dd_law_same) rfl
  obtain ⟨fd_law_all, F_law_all⟩ := c.def_ 14 (d := dd_law_all) rfl
  obtain ⟨fd_law_words, F_law_words⟩ := c.def_ 15 (d := dd_law_words) rfl
  obtain ⟨fd_law_names, F_law_names⟩ := c.def_ 16 (d := dd_law_names) rfl
  obtain ⟨fd_law_term, F_law_term⟩ := c.def_ 17 (d := dd_law_term) rfl
  obtain ⟨fd_law_some_term, F_law_some_term⟩ := c.def_ 18 (d := dd_law_some_term) rfl
  obtain ⟨fd_law_shaped, F_law_shaped⟩ := c.def_ 19 (d := dd_law_shaped) rfl
  obtain ⟨fd_law_many, F_law_many⟩ := c.def_ 20 (d := dd_law_many) rfl
  obtain ⟨fd_law_spans, F_law_spans⟩ := c.def_ 21 (d := dd_law_spans) rfl
  obtain ⟨fd_law_parts, F_law_parts⟩ := c.def_ 22 (d := dd_law_parts) rfl
  obtain ⟨fd_law_letters, F_law_letters⟩ := c.def_ 23 (d := dd_law_letters) rfl
  obtain ⟨fd_law_joined, F_law_joined⟩ := c.def_ 24 (d := dd_law_joined) rfl
  obtain ⟨fd_law_told, F_law_told⟩ := c.def_ 25 (d := dd_law_told) rfl
  obtain ⟨fd_law_due, F_law_due⟩ := c.def_ 26 (d := dd_law_due) rfl
  obtain ⟨fd_law, F_law⟩ := c.def_ 27 (d := dd_law) rfl
  have e := hfa.symm.trans (He.glo_ok X G (c.fact 27 (f := .glo "law") rfl))
  cases e
  have b := FunD.bindsA (ps := ["script"]) F_law fun _ _ _ _ _ _ us hl => match us, hl with | [_], _ => rfl
  refine ⟨fd_law, fun s v => b s [v] rfl, fun base _ _ => ?_⟩
  have C_many_of := ok_many_of (P := P) (w := w) (base := base) T  F_many_of (He.glo_ok X G (c.fact 0 (f := .glo "many_of") rfl))
  have C_letter := ok_letter (P := P) (w := w) (base := base) T  F_letter (He.glo_ok X G (c.fact 1 (f := .glo "letter") rfl))
  have B_letter_name := okK_letter_name (P := P) (w := w) (base := base) T  F_letter (He.glo_ok X G (c.fact 1 (f := .glo "letter") rfl))
  have C_built := ok_built (P := P) (w := w) (base := base) T  F_built (He.glo_ok X G (c.fact 2 (f := .glo "built") rfl))
  have B_built_name_parts := okK_built_name_parts (P := P) (w := w) (base := base) T  F_built (He.glo_ok X G (c.fact 2 (f := .glo "built") rfl))
  have C_head_of := ok_head_of (P := P) (w := w) (base := base) T  F_head_of (He.glo_ok X G (c.fact 3 (f := .glo "head_of") rfl))
  have B_head_of_term := okK_head_of_term (P := P) (w := w) (base := base) T  F_head_of (He.glo_ok X G (c.fact 3 (f := .glo "head_of") rfl))
  have C_letters_of := ok_letters_of (P := P) (w := w) (base := base) T  F_letters_of (He.glo_ok X G (c.fact 7 (f := .glo "letters_of") rfl))
  have B_letters_of_term := okK_letters_of_term (P := P) (w := w) (base := base) T  F_letters_of (He.glo_ok X G (c.fact 7 (f := .glo "letters_of") rfl))
  have C_size_of := ok_size_of (P := P) (w := w) (base := base) T  F_size_of (He.glo_ok X G (c.fact 8 (f := .glo "size_of") rfl))
  have B_size_of_term := okK_size_of_term (P := P) (w := w) (base := base) T  F_size_of (He.glo_ok X G (c.fact 8 (f := .glo "size_of") rfl))
  have C_law_deal := ok_law_deal (P := P) (w := w) (base := base) T  F_law_deal (He.glo_ok X G (c.fact 9 (f := .glo "_law_deal") rfl))
  have C_law_any := ok_law_any (P := P) (w := w) (base := base) T  F_law_any (He.glo_ok X G (c.fact 10 (f := .glo "_law_any") rfl))
  have C_law_is_kind := ok_law_is_kind (P := P) (w := w) (base := base) T  F_law_is_kind (He.glo_ok X G (c.fact 12 (f := .glo "_law_is_kind") rfl))
  have C_law_words := ok_law_words (P := P) (w := w) (base := base) T  F_law_words (He.glo_ok X G (c.fact 15 (f := .glo "_law_words") rfl))
  have C_law_many := ok_law_many (P := P) (w := w) (base := base) T  F_law_many (He.glo_ok X G (c.fact 20 (f := .glo "_law_many") rfl))
  have C_law_letters := ok_law_letters (P := P) (w := w) (base := base) T  F_law_letters (He.glo_ok X G (c.fact 23 (f := .glo "_law_letters") rfl))
  have C_law_joined := ok_law_joined (P := P) (w := w) (base := base) T  F_law_joined (He.glo_ok X G (c.fact 24 (f := .glo "_law_joined") rfl))
  have C_ends_of := ok_ends_of (P := P) (w := w) (base := base) T C_many_of F_ends_of (He.glo_ok X G (c.fact 4 (f := .glo "ends_of") rfl))
  have C_part_places := ok_part_places (P := P) (w := w) (base := base) T C_many_of F_part_places (He.glo_ok X G (c.fact 5 (f := .glo "part_places") rfl))
  have C_law_of := ok_law_of (P := P) (w := w) (base := base) T C_law_any F_law_of (He.glo_ok X G (c.fact 11 (f := .glo "_law_of") rfl))
  have C_law_same := ok_law_same (P := P) (w := w) (base := base) T C_law_is_kind F_law_same (He.glo_ok X G (c.fact 13 (f := .glo "_law_same") rfl))
  have C_law_spans := ok_law_spans (P := P) (w := w) (base := base) T C_law_many F_law_spans (He.glo_ok X G (c.fact 21 (f := .glo "_law_spans") rfl))
  have C_parts_of := ok_parts_of (P := P) (w := w) (base := base) T C_ends_of C_part_places F_parts_of (He.glo_ok X G (c.fact 6 (f := .glo "parts_of") rfl))
  have B_parts_of_term := okK_parts_of_term (P := P) (w := w) (base := base) T C_ends_of C_part_places F_parts_of (He.glo_ok X G (c.fact 6 (f := .glo "parts_of") rfl))
  have C_law_all := ok_law_all (P := P) (w := w) (base := base) T C_law_same F_law_all (He.glo_ok X G (c.fact 14 (f := .glo "_law_all") rfl))
  have C_law_names := ok_law_names (P := P) (w := w) (base := base) T C_law_words C_law_any C_law_of F_law_names (He.glo_ok X G (c.fact 16 (f := .glo "_law_names") rfl))
  have C_law_term := ok_law_term (P := P) (w := w) (base := base) T C_law_of C_law_any F_law_term (He.glo_ok X G (c.fact 17 (f := .glo "_law_term") rfl))
  have C_law_parts := ok_law_parts (P := P) (w := w) (base := base) T C_law_spans F_law_parts (He.glo_ok X G (c.fact 22 (f := .glo "_law_parts") rfl))
  have C_law_some_term := ok_law_some_term (P := P) (w := w) (base := base) T C_law_term C_law_of F_law_some_term (He.glo_ok X G (c.fact 18 (f := .glo "_law_some_term") rfl))
  have C_law_told := ok_law_told (P := P) (w := w) (base := base) T C_head_of C_parts_of C_letters_of C_size_of B_head_of_term B_letters_of_term B_parts_of_term B_size_of_term F_law_told (He.glo_ok X G (c.fact 25 (f := .glo "_law_told") rfl))
  have C_law_due := ok_law_due (P := P) (w := w) (base := base) T C_law_letters C_law_parts F_law_due (He.glo_ok X G (c.fact 26 (f := .glo "_law_due") rfl))
  have C_law_shaped := ok_law_shaped (P := P) (w := w) (base := base) T C_law_some_term C_law_any C_law_of F_law_shaped (He.glo_ok X G (c.fact 19 (f := .glo "_law_shaped") rfl))
  exact F_law.ok sc_law (fun vs H Q E h => keeps_len kp_law h) (fun cdv A outer s H vs Q E hr h => ⟨liftS K t_law, PSs.nox (d_law T C_law_deal C_law_all C_law_names C_law_shaped C_law_of C_law_joined C_law_term C_built C_law_any C_law_told C_law_due C_letter C_parts_of B_built_name_parts B_letter_name hr).pss, keeps_use (N := N_law) kp_law h⟩)
end Tk02
end L2.DL
open PySem PySem.W PySem.Calls PyProof.Rows
theorem PySem.Challenge.cw_ownrules_k02_terms_are_built_and_parted_holds : PySem.Challenge.rw_ownrules_k02_terms_are_built_and_parted.Holds := by
  w_on; o_law
  refine HandSHeadRun.head_any (r := OpenLaw.row PySem.Challenge.rw_ownrules_k02_terms_are_built_and_parted) (q := view (OpenLaw.row PySem.Challenge.rw_ownrules_k02_terms_are_built_and_parted).prog [30]) (H := L2.DL.Tk02.hk) (ob := L2.DL.Tk02.ob) (M := 4000) (loose := L2.DL.Tk02.loose) (d := HandSHeadRun.topDef (OpenLaw.row PySem.Challenge.rw_ownrules_k02_terms_are_built_and_parted).prog 30) (kwd := []) L2.DL.Tk02.ob_eq
    (by kernel_rfl) (fun s => by kernel_rfl) L2.DL.Tk02.run (by kernel_rfl) (by kernel_rfl) (by kernel_rfl) (by rfl) (by first | assumption | decide +kernel) (by decide +kernel) ⟨rfl, rfl, rfl, rfl, rfl, by decide +kernel⟩ ?hw ?hc
  case hw => w_witness2
  case hc =>
    refine L2.walk_ofE (l := PySem.Challenge.rw_ownrules_k02_terms_are_built_and_parted) (n := 63) (k := 6) (x := "script") (CX := L2.CX0) rfl (by decide) (by kernel_rfl) ⟨rfl, by decide, by decide⟩ ?F (fun _ _ _ _ z => z)
    intro w mg fa h Y G hmg0
    obtain ⟨K, KX, c⟩ := Y
    have hmg : mg ("law" : PySem.Str) = some (.ref fa) := by
      have e : (HandSHeadRun.topDef (OpenLaw.row PySem.Challenge.rw_ownrules_k02_terms_are_built_and_parted).prog 30).name = ("law" : PySem.Str) := by kernel_rfl
      rw [← e]
      exact hmg0
    obtain ⟨fd, hb, hF⟩ := L2.DL.Tk02.facts (P := (PySem.Challenge.rw_ownrules_k02_terms_are_built_and_parted).prog) (w := w) KX G hmg c
    exact ⟨K, fd, L2.DL.liftSp K L2.DL.Tk02.S_law, KX, hb, fun H a ns hl _ hS => L2.DL.law_in hl hS L2.DL.Tk02.law_spec, hF⟩
